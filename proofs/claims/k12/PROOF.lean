import PyProof.Rows.All
import Wide.All
import OpenK.AllK
import Wide.FinOn
import HandS.ForMost
import HandS.Wide
import HandS.Flow
import HandS.Exc
import HandS.CallSlots
import HandS.IsInst
import HandS.TupAny
import HandS.Defaults
import HandS.ExcOwn
import HandS.MakeKwOnly
import HandS.Conv
import KE.GoesEnum
import HandS.Zip
import KE.GoesEnumKw
import HandS.Style
import HandS.OwnEq
import KE.KFmtOwn
import PyProof.InstNe
import HandS.TupMul
import KE.GoesMore
import HandS.Deep
import PyProof.SeqIndex
import PyProof.P3In
import PyProof.SumAny
import PyProof.SumWalkG
import PyProof.WalksMore
import HandS.SortKw
import HandS.WordsExc
import HandS.Ends
import HandS.EndBits
import PySem.Challenge.RW_lightshares_k12_mixes_by_weights
set_option Elab.async false
set_option linter.all false
set_option maxRecDepth 100000
set_option maxHeartbeats 4000000
/-! Td: Python values as trees, slots, a small store, and the combinators that a def's body is read into. -/
namespace Tz
open PySem L2

inductive D where
  | non | bl (b : Bool) | int (i : Int) | str (s : Str) | tup (xs : List D) | lst (xs : List D) | rol (xs : List D) | ref (n : Nat) | ins (c : Str) (ns : List Str) (fs : List D) | dct (ks : List Key) (vs : List D)
  deriving Inhabited
/-- a slot of a frame: empty, a value that stays as it is, a list that this frame alone holds -/
inductive Sl where
  | no | val (d : D) | own (d : D)
/-- what an expression tells: a value that stays, a list just made, a list that a slot owns -/
inductive RV where
  | val (d : D) | fresh (d : D) | peek (d : D)
structure Ex where
  cls : Str
  fld : D
abbrev Rho := List Sl
abbrev Store := List D
inductive ER where
  | ok (v : RV) (st : Store) | exc (x : Ex) (st : Store)
inductive TR where
  | ok (b : Bool) (st : Store) | exc (x : Ex) (st : Store)
inductive AR where
  | ok (ds : List D) (st : Store) | exc (x : Ex) (st : Store)
inductive SR where
  | nx (r : Rho) (st : Store) | rt (v : RV) (st : Store) | bk (r : Rho) (st : Store) | ct (r : Rho) (st : Store) | exc (x : Ex) (r : Rho) (st : Store)
inductive FR where
  | ret (v : RV) (st : Store) | exc (x : Ex) (st : Store)
abbrev ESem := Rho → Store → Option ER
abbrev TSem := Rho → Store → Option TR
abbrev ASem := Rho → Store → Option AR
abbrev SSem := Rho → Store → Option SR
abbrev FSem := List D → Store → Option FR
abbrev TgSem := RV → Rho → Store → Option (Rho × Store)

def RV.d : RV → D
  | .val d => d | .fresh d => d | .peek d => d
def RV.toVal : RV → Option D
  | .val d => some d | .fresh d => some d | .peek _ => none
/-- the items of a list, wherever it stands -/
def asL (st : Store) (v : RV) : Option (List D) := match v.d with
  | .lst xs => some xs
  | .rol xs => some xs
  | .ref n => match st[n]? with
    | some (.lst xs) => some xs
    | _ => none
  | _ => none
def lim : Nat := 16000000

def eStuck : ESem := fun _ _ => none
def eC (d : D) : ESem := fun _ st => some (.ok (.val d) st)
def eVar (i : Nat) : ESem := fun r st => match r[i]? with
  | some (.val d) => some (.ok (.val d) st)
  | some (.own d) => some (.ok (.peek d) st)
  | _ => none
def eOp1 (f : Store → RV → Option RV) (a : ESem) : ESem := fun r st => match a r st with
  | some (.ok x st1) => match f st1 x with
    | some z => some (.ok z st1)
    | none => none
  | some (.exc x st1) => some (.exc x st1)
  | none => none
def eOp2 (f : Store → RV → RV → Option RV) (a b : ESem) : ESem := fun r st => match a r st with
  | some (.ok x st1) => match b r st1 with
    | some (.ok y st2) => match f st2 x y with
      | some z => some (.ok z st2)
      | none => none
    | some (.exc x st2) => some (.exc x st2)
    | none => none
  | some (.exc x st1) => some (.exc x st1)
  | none => none
def aNil : ASem := fun _ st => some (.ok [] st)
def aCons (a : ESem) (t : ASem) : ASem := fun r st => match a r st with
  | some (.ok x st1) => match x.toVal with
    | some d => match t r st1 with
      | some (.ok ds st2) => some (.ok (d :: ds) st2)
      | some (.exc x st2) => some (.exc x st2)
      | none => none
    | none => none
  | some (.exc x st1) => some (.exc x st1)
  | none => none
def argsS : List ESem → ASem
  | [] => aNil
  | a :: as => aCons a (argsS as)
def eTup (t : ASem) : ESem := fun r st => match t r st with
  | some (.ok ds st1) => if ds.length ≤ lim then some (.ok (.val (.tup ds)) st1) else none
  | some (.exc x st1) => some (.exc x st1)
  | none => none
def eLst (t : ASem) : ESem := fun r st => match t r st with
  | some (.ok ds st1) => if ds.length ≤ lim then some (.ok (.fresh (.lst ds)) st1) else none
  | some (.exc x st1) => some (.exc x st1)
  | none => none
def eCall (F : FSem) (t : ASem) : ESem := fun r st => match t r st with
  | some (.ok ds st1) => match F ds st1 with
    | some (.ret v st2) => some (.ok v st2)
    | some (.exc x st2) => some (.exc x st2)
    | none => none
  | some (.exc x st1) => some (.exc x st1)
  | none => none
/-- a built-in of values that leaves the store -/
def eBlt (f : Store → List D → Option RV) (t : ASem) : ESem := fun r st => match t r st with
  | some (.ok ds st1) => match f st1 ds with
    | some v => some (.ok v st1)
    | none => none
  | some (.exc x st1) => some (.exc x st1)
  | none => none

/-! truth, tests -/
def truth (st : Store) (v : RV) : Option Bool := match v.d with
  | .non => some false
  | .bl b => some b
  | .int i => some (i != 0)
  | .str s => if s.length ≤ lim then some ((s.length : Int) != 0) else none
  | .tup xs => some (!xs.isEmpty)
  | .lst xs => some (!xs.isEmpty)
  | .rol xs => some (!xs.isEmpty)
  | .ref n => match st[n]? with
    | some (.lst xs) => some (!xs.isEmpty)
    | _ => none
  | _ => none
def tStuck : TSem := fun _ _ => none
def tVal (a : ESem) : TSem := fun r st => match a r st with
  | some (.ok x st1) => match truth st1 x with
    | some b => some (.ok b st1)
    | none => none
  | some (.exc x st1) => some (.exc x st1)
  | none => none
def tNotS (a : TSem) : TSem := fun r st => match a r st with
  | some (.ok b st1) => some (.ok (!b) st1)
  | some (.exc x st1) => some (.exc x st1)
  | none => none
def tAndS (a b : TSem) : TSem := fun r st => match a r st with
  | some (.ok true st1) => b r st1
  | some (.ok false st1) => some (.ok false st1)
  | some (.exc x st1) => some (.exc x st1)
  | none => none
def tOrS (a b : TSem) : TSem := fun r st => match a r st with
  | some (.ok false st1) => b r st1
  | some (.ok true st1) => some (.ok true st1)
  | some (.exc x st1) => some (.exc x st1)
  | none => none
def eAndS (a b : ESem) : ESem := fun r st => match a r st with
  | some (.ok (.val (.bl true)) st1) => b r st1
  | some (.ok (.val (.bl false)) st1) => some (.ok (.val (.bl false)) st1)
  | some (.exc x st1) => some (.exc x st1)
  | _ => none
def eOrS (a b : ESem) : ESem := fun r st => match a r st with
  | some (.ok (.val (.bl false)) st1) => b r st1
  | some (.ok (.val (.bl true)) st1) => some (.ok (.val (.bl true)) st1)
  | some (.exc x st1) => some (.exc x st1)
  | _ => none
/-- a test as a value -/
def eTest (a : TSem) : ESem := fun r st => match a r st with
  | some (.ok b st1) => some (.ok (.val (.bl b)) st1)
  | some (.exc x st1) => some (.exc x st1)
  | none => none
def eIf (t : TSem) (a b : ESem) : ESem := fun r st => match t r st with
  | some (.ok true st1) => a r st1
  | some (.ok false st1) => b r st1
  | some (.exc x st1) => some (.exc x st1)
  | none => none
/-- a op b op' c, b once -/
def eChain (f g : Store → RV → RV → Option RV) (a b c : ESem) : ESem := fun r st => match a r st with
  | some (.ok x st1) => match b r st1 with
    | some (.ok y st2) => match f st2 x y with
      | some (.val (.bl true)) => match c r st2 with
        | some (.ok z st3) => match g st3 y z with
          | some v => some (.ok v st3)
          | none => none
        | some (.exc x st3) => some (.exc x st3)
        | none => none
      | some (.val (.bl false)) => some (.ok (.val (.bl false)) st2)
      | _ => none
    | some (.exc x st2) => some (.exc x st2)
    | none => none
  | some (.exc x st1) => some (.exc x st1)
  | none => none

/-! comprehensions: own slots wiped, items by turns -/
def wipeR (r : Rho) : List Nat → Rho
  | [] => r
  | i :: is => (wipeR r is).set i .no
def compL (g : TgSem) (t : TSem) (e : ESem) (r : Rho) : List D → List D → Store → Option (List D × Store)
  | acc, [], st => some (acc, st)
  | acc, x :: xs, st => match g (.val x) r st with
    | some (r1, st1) => match t r1 st1 with
      | some (.ok true st2) => match e r1 st2 with
        | some (.ok v st3) => match v.toVal with
          | some d => if acc.length < lim then compL g t e r (acc ++ [d]) xs st3 else none
          | none => none
        | _ => none
      | some (.ok false st2) => compL g t e r acc xs st2
      | _ => none
    | none => none
/-- what is walked: an expression whose items are told at the start -/
abbrev ISem := Rho → Store → Option (List D × Store)
def iOf (f : Store → RV → Option (List D)) (a : ESem) : ISem := fun r st => match a r st with
  | some (.ok v st1) => match f st1 v with
    | some xs => some (xs, st1)
    | none => none
  | _ => none
def eComp (ws : List Nat) (it : ISem) (g : TgSem) (t : TSem) (e : ESem) : ESem := fun r st => match it r st with
  | some (xs, st1) => match compL g t e (wipeR r ws) [] xs st1 with
    | some (ys, st2) => some (.ok (.fresh (.lst ys)) st2)
    | none => none
  | none => none
def tTrue : TSem := fun _ st => some (.ok true st)

/-! targets -/
def gStuck : TgSem := fun _ _ _ => none
def gVar (i : Nat) : TgSem := fun v r st => match v with
  | .val d => some (r.set i (.val d), st)
  | .fresh d => some (r.set i (.own d), st)
  | .peek _ => none
def gList : List TgSem → List D → Rho → Store → Option (Rho × Store)
  | [], [], r, st => some (r, st)
  | g :: gs, d :: ds, r, st => match g (.val d) r st with
    | some (r1, st1) => gList gs ds r1 st1
    | none => none
  | _, _, _, _ => none
def gTupS (gs : List TgSem) : TgSem := fun v r st => match v with
  | .val (.tup ds) => if ds.length = gs.length then gList gs ds r st else none
  | _ => none

/-! statements -/
def sStuck : SSem := fun _ _ => none
def sNext : SSem := fun r st => some (.nx r st)
def sSeq (a b : SSem) : SSem := fun r st => match a r st with
  | some (.nx r1 st1) => b r1 st1
  | o => o
def sBreak : SSem := fun r st => some (.bk r st)
def sCont : SSem := fun r st => some (.ct r st)
def sDrop (a : ESem) : SSem := fun r st => match a r st with
  | some (.ok _ st1) => some (.nx r st1)
  | some (.exc x st1) => some (.exc x r st1)
  | none => none
def sRet (a : ESem) : SSem := fun r st => match a r st with
  | some (.ok (.val d) st1) => some (.rt (.val d) st1)
  | some (.ok (.fresh d) st1) => some (.rt (.fresh d) st1)
  | some (.exc x st1) => some (.exc x r st1)
  | _ => none
/-- return of a name: a list that it owns is handed on -/
def sRetV (i : Nat) : SSem := fun r st => match r[i]? with
  | some (.val d) => some (.rt (.val d) st)
  | some (.own d) => some (.rt (.fresh d) st)
  | _ => none
def sRetN : SSem := fun _ st => some (.rt (.val .non) st)
def sAsg (a : ESem) (g : TgSem) : SSem := fun r st => match a r st with
  | some (.ok v st1) => match g v r st1 with
    | some (r2, st2) => some (.nx r2 st2)
    | none => none
  | some (.exc x st1) => some (.exc x r st1)
  | none => none
/-- a, b = x, y: two local names -/
def sPar2 (i j : Nat) (a b : ESem) : SSem := fun r st => match a r st with
  | some (.ok v st1) => match b r st1 with
    | some (.ok w st2) => match gVar i v r st2 with
      | some (r1, st3) => match gVar j w r1 st3 with
        | some (r2, st4) => some (.nx r2 st4)
        | none => none
      | none => none
    | some (.exc x st2) => some (.exc x r st2)
    | none => none
  | some (.exc x st1) => some (.exc x r st1)
  | none => none
def sAug (f : Store → RV → RV → Option RV) (i : Nat) (a : ESem) : SSem := fun r st => match r[i]? with
  | some (.val x) => match a r st with
    | some (.ok y st1) => match f st1 (.val x) y with
      | some z => match gVar i z r st1 with
        | some (r2, st2) => some (.nx r2 st2)
        | none => none
      | none => none
    | some (.exc x st1) => some (.exc x r st1)
    | none => none
  | _ => none
def sIf (t : TSem) (a b : SSem) : SSem := fun r st => match t r st with
  | some (.ok true st1) => a r st1
  | some (.ok false st1) => b r st1
  | some (.exc x st1) => some (.exc x r st1)
  | none => none
/-- the list that a name owns is a value from here on -/
def sFreeze (i : Nat) : SSem := fun r st => match r[i]? with
  | some (.own d) => some (.nx (r.set i (.val d)) st)
  | _ => some (.nx r st)
def forS (g : TgSem) (b : SSem) : List D → SSem
  | [] => fun r st => some (.nx r st)
  | x :: xs => fun r st => match g (.val x) r st with
    | some (r1, st1) => match b r1 st1 with
      | some (.nx r2 st2) => forS g b xs r2 st2
      | some (.ct r2 st2) => forS g b xs r2 st2
      | some (.bk r2 st2) => some (.nx r2 st2)
      | some (.rt v st2) => some (.rt v st2)
      | some (.exc x r2 st2) => some (.exc x r2 st2)
      | none => none
    | none => none
def sFor (it : ISem) (g : TgSem) (b : SSem) : SSem := fun r st => match it r st with
  | some (xs, st1) => forS g b xs r st1
  | none => none
def iterW (t : TSem) (b : SSem) : Nat → SSem
  | 0 => fun _ _ => none
  | n + 1 => fun r st => match t r st with
    | some (.ok true st1) => match b r st1 with
      | some (.nx r2 st2) => iterW t b n r2 st2
      | some (.ct r2 st2) => iterW t b n r2 st2
      | some (.bk r2 st2) => some (.nx r2 st2)
      | some (.rt v st2) => some (.rt v st2)
      | some (.exc x r2 st2) => some (.exc x r2 st2)
      | none => none
    | some (.ok false st1) => some (.nx r st1)
    | some (.exc x st1) => some (.exc x r st1)
    | none => none
theorem iterW_mono (t : TSem) (b : SSem) : ∀ (n : Nat) (r : Rho) (st : Store) (o : SR), iterW t b n r st = some o → ∀ m, n ≤ m → iterW t b m r st = some o := by
  intro n
  induction n with
  | zero => intro r st o h; cases h
  | succ n ih =>
    intro r st o h m hm
    obtain ⟨k, rfl⟩ : ∃ k, m = k + 1 := ⟨m - 1, by omega⟩
    have hk : n ≤ k := by omega
    simp only [iterW] at h ⊢
    split at h
    · split at h
      · exact ih _ _ _ h k hk
      · exact ih _ _ _ h k hk
      · exact h
      · exact h
      · exact h
      · exact h
    · exact h
    · exact h
    · exact h
open Classical in
noncomputable def whileS (t : TSem) (b : SSem) : SSem := fun r st =>
  if h : ∃ n o, iterW t b n r st = some o then some (Classical.choose (Classical.choose_spec h)) else none
theorem whileS_of {t : TSem} {b : SSem} {n : Nat} {r : Rho} {st : Store} {o : SR} (h : iterW t b n r st = some o) : whileS t b r st = some o := by
  have hx : ∃ n o, iterW t b n r st = some o := ⟨n, o, h⟩
  unfold whileS
  rw [dif_pos hx]
  have e := Classical.choose_spec (Classical.choose_spec hx)
  have a := iterW_mono t b _ _ _ _ h (max n (Classical.choose hx)) (Nat.le_max_left _ _)
  have c := iterW_mono t b _ _ _ _ e (max n (Classical.choose hx)) (Nat.le_max_right _ _)
  rw [a] at c
  injection c with c
  rw [c]
theorem of_whileS {t : TSem} {b : SSem} {r : Rho} {st : Store} {o : SR} (h : whileS t b r st = some o) : ∃ n, iterW t b n r st = some o := by
  unfold whileS at h
  split at h
  · rename_i hx
    have e := Classical.choose_spec (Classical.choose_spec hx)
    injection h with h
    rw [h] at e
    exact ⟨_, e⟩
  · cases h
theorem whileS_false {t : TSem} {b : SSem} {r : Rho} {st st1 : Store} (h : t r st = some (.ok false st1)) : whileS t b r st = some (.nx r st1) :=
  whileS_of (n := 1) (by simp only [iterW, h])
theorem whileS_true {t : TSem} {b : SSem} {r r2 : Rho} {st st1 st2 : Store} (h : t r st = some (.ok true st1)) (hb : b r st1 = some (.nx r2 st2)) :
    whileS t b r st = whileS t b r2 st2 := by
  cases e : whileS t b r2 st2 with
  | some o =>
    obtain ⟨n, q⟩ := of_whileS e
    exact whileS_of (n := n + 1) (by simp only [iterW, h, hb]; exact q)
  | none =>
    cases e2 : whileS t b r st with
    | none => rfl
    | some o =>
      obtain ⟨n, q⟩ := of_whileS e2
      cases n with
      | zero => cases q
      | succ n =>
        simp only [iterW, h, hb] at q
        rw [whileS_of q] at e
        cases e

/-! defs -/
def slots0 (n : Nat) (ds : List D) : Rho := ds.map .val ++ List.replicate (n - ds.length) .no
def fnS (n : Nat) (b : SSem) : FSem := fun ds st => match b (slots0 n ds) st with
  | some (.nx _ st1) => some (.ret (.val .non) st1)
  | some (.rt (.val d) st1) => some (.ret (.val d) st1)
  | some (.rt (.fresh d) st1) => some (.ret (.fresh d) st1)
  | some (.exc x _ st1) => some (.exc x st1)
  | _ => none
end Tz

set_option Elab.async false
set_option linter.all false
set_option maxRecDepth 100000
set_option maxHeartbeats 4000000
/-! Ts1: how a tree stands in the abstract heap; futures; what holds between two statements. -/
namespace Tz
open PySem L2

/-- what the text's written part gives: K, the class Shade -/
structure Prm where
  K : PySem.W.Frag
  cS : Str → Addr
  cX : Str → Addr
  xF : Str → Option Str
  cls : List Str
/-- F: the lists that nobody changes any more; n things in the store; mu: where they stand -/
structure Wd where
  F : Addr → Prop
  n : Nat
  mu : Nat → Addr
mutual
def Rep (p : Prm) (W : Wd) (H : Hp) : D → V → Prop
  | .non, v => v = .non
  | .bl b, v => v = .bl b
  | .int i, v => v = .int i
  | .str s, v => v = .str s
  | .tup xs, v => ∃ a vs, v = .ref a ∧ SqT p.K H a vs ∧ RepL p W H xs vs
  | .lst xs, v => ∃ a vs, v = .ref a ∧ W.F a ∧ H a = some (.lst vs) ∧ RepL p W H xs vs
  | .rol xs, v => ∃ a vs, v = .ref a ∧ ((W.F a ∧ SqL p.K H a vs) ∨ ∀ H0, SqL p.K H0 a vs) ∧ RepL p W H xs vs
  | .ref n, v => n < W.n ∧ v = .ref (W.mu n)
  | .ins c ns fs, v => ∃ a dx vs, v = .ref a ∧ W.F a ∧ H a = some (.ins (p.cS c) dx (ns.zip vs)) ∧ RepL p W H fs vs ∧ c ∈ p.cls
  | .dct ks xs, v => ∃ a vs, v = .ref a ∧ W.F a ∧ H a = some (.dK (ks.zip vs)) ∧ RepL p W H xs vs
def RepL (p : Prm) (W : Wd) (H : Hp) : List D → List V → Prop
  | [], vs => vs = []
  | x :: xs, vs => ∃ v r, vs = v :: r ∧ Rep p W H x v ∧ RepL p W H xs r
end
/-- a thing of the store, or a list that a slot owns, at a -/
def RepC (p : Prm) (W : Wd) (H : Hp) (d : D) (a : Addr) : Prop := match d with
  | .lst xs => ∃ vs, H a = some (.lst vs) ∧ RepL p W H xs vs
  | .ins c ns fs => ∃ dx vs, H a = some (.ins (p.cS c) dx (ns.zip vs)) ∧ RepL p W H fs vs ∧ c ∈ p.cls
  | .dct ks xs => ∃ vs, H a = some (.dK (ks.zip vs)) ∧ RepL p W H xs vs
  | _ => False
/-- what changes by deeds -/
def MutO : HO → Prop
  | .lst _ => True
  | .ins _ _ _ => True
  | .dK _ => True
  | _ => False
/-- the store stands: each thing at its place, none of them still, no two at one place -/
structure SOk (p : Prm) (W : Wd) (H : Hp) (st : Store) : Prop where
  len : st.length = W.n
  at_ : ∀ n d, st[n]? = some d → RepC p W H d (W.mu n)
  nf : ∀ n, n < W.n → ¬ W.F (W.mu n)
  inj : ∀ m n, m < W.n → n < W.n → W.mu m = W.mu n → m = n
  fok : ∀ a, W.F a → H a ≠ none
/-- from (W, H) to (W', H') -/
structure Fut (W : Wd) (H : Hp) (W' : Wd) (H' : Hp) : Prop where
  fsub : ∀ a, W.F a → W'.F a
  mu : ∀ i, i < W.n → W'.mu i = W.mu i
  keep : ∀ a o, H a = some o → (∀ i, i < W.n → W.mu i ≠ a) → H' a = some o
  nf : ∀ a o, H a = some o → W'.F a → W.F a
  dom : ∀ i, W.n ≤ i → i < W'.n → H (W'.mu i) = none
  le : W.n ≤ W'.n
  tr : ∀ a, H a ≠ none → H' a ≠ none
theorem Fut.refl {W : Wd} {H : Hp} : Fut W H W H :=
  ⟨fun _ h => h, fun _ _ => rfl, fun _ _ h _ => h, fun _ _ _ h => h, fun i h1 h2 => absurd h1 (Nat.not_le.mpr h2), Nat.le_refl _, fun _ h => h⟩
theorem some_ne {α : Type} {o : Option α} {x : α} (h : o = some x) : o ≠ none := by rw [h]; exact fun z => by cases z
theorem Fut.trans {W W1 W2 : Wd} {H H1 H2 : Hp} (a : Fut W H W1 H1) (b : Fut W1 H1 W2 H2) : Fut W H W2 H2 := by
  refine ⟨fun x h => b.fsub x (a.fsub x h), fun i h => (b.mu i (Nat.lt_of_lt_of_le h a.le)).trans (a.mu i h), fun x o h hn => ?_, fun x o h hf => ?_, fun i h1 h2 => ?_, Nat.le_trans a.le b.le, fun x h => b.tr x (a.tr x h)⟩
  · refine b.keep x o (a.keep x o h hn) fun i hi e => ?_
    by_cases hl : i < W.n
    · exact hn i hl (by rw [← a.mu i hl]; exact e)
    · have z := a.dom i (Nat.le_of_not_lt hl) hi
      rw [e, h] at z
      cases z
  · cases q : H1 x with
    | some o1 => exact a.nf x o h (b.nf x o1 q hf)
    | none => exact absurd q (a.tr x (some_ne h))
  · by_cases hl : i < W1.n
    · rw [b.mu i hl]; exact a.dom i h1 hl
    · have z := b.dom i (Nat.le_of_not_lt hl) h2
      cases q : H (W2.mu i) with
      | none => rfl
      | some o => exact absurd z (a.tr _ (some_ne q))
section
variable {p : Prm} {W W' : Wd} {H H' : Hp} {st : Store}
theorem SOk.mut_at (S : SOk p W H st) {i : Nat} (hi : i < W.n) : ∃ o, H (W.mu i) = some o ∧ MutO o := by
  have hl : i < st.length := by rw [S.len]; exact hi
  have z := S.at_ i _ (List.getElem?_eq_getElem hl)
  cases q : st[i] with
  | lst xs =>
    rw [q] at z
    obtain ⟨vs, z, _⟩ := z
    exact ⟨_, z, trivial⟩
  | ins c ns fs =>
    rw [q] at z
    obtain ⟨dx, vs, z, _⟩ := z
    exact ⟨_, z, trivial⟩
  | dct ks xs =>
    rw [q] at z
    obtain ⟨vs, z, _⟩ := z
    exact ⟨_, z, trivial⟩
  | _ => rw [q] at z; exact z.elim
theorem keepO (f : Fut W H W' H') (S : SOk p W H st) {a : Addr} {o : HO} (h : H a = some o) (hl : ¬ MutO o) : H' a = some o :=
  f.keep a o h fun i hi e => by
    obtain ⟨u, z, m⟩ := S.mut_at hi
    rw [e, h] at z
    injection z with z
    exact hl (z ▸ m)
theorem keepF (f : Fut W H W' H') (S : SOk p W H st) {a : Addr} {o : HO} (hf : W.F a) (h : H a = some o) : H' a = some o :=
  f.keep a o h fun i hi e => S.nf i hi (by rw [e]; exact hf)
/-- the weaker one: what trees lean on -/
structure Fw (W : Wd) (H : Hp) (W' : Wd) (H' : Hp) : Prop where
  fsub : ∀ a, W.F a → W'.F a
  mu : ∀ i, i < W.n → W'.mu i = W.mu i
  le : W.n ≤ W'.n
  keepF : ∀ a o, W.F a → H a = some o → H' a = some o
  keepT : ∀ a xs, H a = some (.tup xs) → H' a = some (.tup xs)
  keepZ : ∀ a o u, H a = some (.frz o u) → H' a = some (.frz o u)
theorem Fw.refl {W : Wd} {H : Hp} : Fw W H W H := ⟨fun _ h => h, fun _ _ => rfl, Nat.le_refl _, fun _ _ _ h => h, fun _ _ h => h, fun _ _ _ h => h⟩
theorem Fw.trans {W W1 W2 : Wd} {H H1 H2 : Hp} (a : Fw W H W1 H1) (b : Fw W1 H1 W2 H2) : Fw W H W2 H2 :=
  ⟨fun x h => b.fsub x (a.fsub x h), fun i h => (b.mu i (Nat.lt_of_lt_of_le h a.le)).trans (a.mu i h), Nat.le_trans a.le b.le, fun x o h1 h2 => b.keepF x o (a.fsub x h1) (a.keepF x o h1 h2), fun x xs h => b.keepT x xs (a.keepT x xs h), fun x o u h => b.keepZ x o u (a.keepZ x o u h)⟩
theorem Fut.fw (f : Fut W H W' H') (S : SOk p W H st) : Fw W H W' H' :=
  ⟨f.fsub, f.mu, f.le, fun _ _ hf h => keepF f S hf h, fun _ _ h => keepO f S h (fun z => z), fun _ _ _ h => keepO f S h (fun z => z)⟩
theorem sqT_keep {K : PySem.W.Frag} {a : Addr} {vs : List V} (f : Fw W H W' H') (h : SqT K H a vs) : SqT K H' a vs := by
  rcases h with (h | ⟨o, h⟩) | h
  · exact .inl (.inl (f.keepT a _ h))
  · exact .inl (.inr ⟨o, f.keepZ a _ _ h⟩)
  · exact .inr h
theorem sqL_keep {K : PySem.W.Frag} {a : Addr} {vs : List V} (f : Fw W H W' H') (hf : W.F a) (h : SqL K H a vs) : SqL K H' a vs := by
  rcases h with (h | ⟨o, h⟩) | h
  · exact .inl (.inl (f.keepF a _ hf h))
  · exact .inl (.inr ⟨o, f.keepF a _ hf h⟩)
  · exact .inr h
mutual
theorem Rep.fw (f : Fw W H W' H') : ∀ (d : D) (v : V), Rep p W H d v → Rep p W' H' d v
  | .non, _, h => h
  | .bl _, _, h => h
  | .int _, _, h => h
  | .str _, _, h => h
  | .tup xs, _, h => by
    obtain ⟨a, vs, e, hs, hr⟩ := h
    exact ⟨a, vs, e, sqT_keep f hs, RepL.fw f xs vs hr⟩
  | .lst xs, _, h => by
    obtain ⟨a, vs, e, hf, hs, hr⟩ := h
    exact ⟨a, vs, e, f.fsub a hf, f.keepF a _ hf hs, RepL.fw f xs vs hr⟩
  | .rol xs, _, h => by
    obtain ⟨a, vs, e, hf, hr⟩ := h
    refine ⟨a, vs, e, ?_, RepL.fw f xs vs hr⟩
    rcases hf with ⟨hf, hs⟩ | hs
    · exact .inl ⟨f.fsub a hf, sqL_keep f hf hs⟩
    · exact .inr hs
  | .ref n, _, h => by
    obtain ⟨h1, h2⟩ := h
    exact ⟨Nat.lt_of_lt_of_le h1 f.le, by rw [f.mu n h1]; exact h2⟩
  | .ins c ns fs, _, h => by
    obtain ⟨a, dx, vs, e, hf, hs, hr, hm⟩ := h
    exact ⟨a, dx, vs, e, f.fsub a hf, f.keepF a _ hf hs, RepL.fw f fs vs hr, hm⟩
  | .dct ks xs, _, h => by
    obtain ⟨a, vs, e, hf, hs, hr⟩ := h
    exact ⟨a, vs, e, f.fsub a hf, f.keepF a _ hf hs, RepL.fw f xs vs hr⟩
theorem RepL.fw (f : Fw W H W' H') : ∀ (ds : List D) (vs : List V), RepL p W H ds vs → RepL p W' H' ds vs
  | [], _, h => h
  | x :: xs, _, h => by
    obtain ⟨v, r, e, h1, h2⟩ := h
    exact ⟨v, r, e, Rep.fw f x v h1, RepL.fw f xs r h2⟩
end
theorem Rep.fut (f : Fut W H W' H') (S : SOk p W H st) (d : D) (v : V) (h : Rep p W H d v) : Rep p W' H' d v := Rep.fw (f.fw S) d v h
theorem RepL.fut (f : Fut W H W' H') (S : SOk p W H st) (ds : List D) (vs : List V) (h : RepL p W H ds vs) : RepL p W' H' ds vs := RepL.fw (f.fw S) ds vs h
/-- a list that is no still one and stands nowhere in the store stays as it is -/
theorem RepC.fut (f : Fut W H W' H') (S : SOk p W H st) {d : D} {a : Addr} (hn : ∀ i, i < W.n → W.mu i ≠ a) (h : RepC p W H d a) : RepC p W' H' d a := by
  cases d with
  | lst xs =>
    obtain ⟨vs, h1, h2⟩ := h
    exact ⟨vs, f.keep a _ h1 hn, RepL.fut f S xs vs h2⟩
  | ins c ns fs =>
    obtain ⟨dx, vs, h1, h2, hm⟩ := h
    exact ⟨dx, vs, f.keep a _ h1 hn, RepL.fut f S fs vs h2, hm⟩
  | dct ks xs =>
    obtain ⟨vs, h1, h2⟩ := h
    exact ⟨vs, f.keep a _ h1 hn, RepL.fut f S xs vs h2⟩
  | _ => exact h.elim
theorem RepC.some {d : D} {a : Addr} (h : RepC p W H d a) : ∃ o, H a = some o := by
  cases d with
  | lst xs =>
    obtain ⟨vs, h1, h2⟩ := h
    exact ⟨_, h1⟩
  | ins c ns fs =>
    obtain ⟨dx, vs, h1, h2⟩ := h
    exact ⟨_, h1⟩
  | dct ks xs =>
    obtain ⟨vs, h1, h2⟩ := h
    exact ⟨_, h1⟩
  | _ => exact h.elim
theorem RepC.moved (f : Fw W H W' H') {d : D} {a b : Addr} (h : RepC p W H d a) (hs : ∀ o, H a = .some o → H' b = .some o) : RepC p W' H' d b := by
  cases d with
  | lst xs =>
    obtain ⟨vs, h1, h2⟩ := h
    exact ⟨vs, hs _ h1, RepL.fw f xs vs h2⟩
  | ins c ns fs =>
    obtain ⟨dx, vs, h1, h2, hm⟩ := h
    exact ⟨dx, vs, hs _ h1, RepL.fw f fs vs h2, hm⟩
  | dct ks xs =>
    obtain ⟨vs, h1, h2⟩ := h
    exact ⟨vs, hs _ h1, RepL.fw f xs vs h2⟩
  | _ => exact h.elim
theorem RepC.mutO {d : D} {a : Addr} (h : RepC p W H d a) : ∃ o, H a = Option.some o ∧ MutO o := by
  cases d with
  | lst xs =>
    obtain ⟨vs, h1, h2⟩ := h
    exact ⟨_, h1, trivial⟩
  | ins c ns fs =>
    obtain ⟨dx, vs, h1, h2⟩ := h
    exact ⟨_, h1, trivial⟩
  | dct ks xs =>
    obtain ⟨vs, h1, h2⟩ := h
    exact ⟨_, h1, trivial⟩
  | _ => exact h.elim
theorem RepL.length : ∀ {ds : List D} {vs : List V}, RepL p W H ds vs → vs.length = ds.length
  | [], vs, h => by
    have h : vs = [] := h
    rw [h]
    rfl
  | x :: xs, vs, h => by
    obtain ⟨v, r, e, h1, h2⟩ := h
    rw [e, List.length_cons, List.length_cons, RepL.length h2]
theorem RepL.get : ∀ {ds : List D} {vs : List V} {i : Nat} {d : D}, RepL p W H ds vs → ds[i]? = .some d → ∃ v, vs[i]? = .some v ∧ Rep p W H d v
  | [], _, i, d, _, e => by simp at e
  | x :: xs, vs, 0, d, h, e => by
    obtain ⟨v, r, ev, h1, h2⟩ := h
    have e : x = d := by simpa using e
    subst e ev
    exact ⟨v, rfl, h1⟩
  | x :: xs, vs, i + 1, d, h, e => by
    obtain ⟨v, r, ev, h1, h2⟩ := h
    subst ev
    obtain ⟨w, q1, q2⟩ := RepL.get h2 (i := i) (d := d) (by simpa using e)
    exact ⟨w, by simpa using q1, q2⟩
theorem RepL.app : ∀ {ds es : List D} {vs ws : List V}, RepL p W H ds vs → RepL p W H es ws → RepL p W H (ds ++ es) (vs ++ ws)
  | [], es, vs, ws, h, h' => by
    have h : vs = [] := h
    subst h
    exact h'
  | x :: xs, es, vs, ws, h, h' => by
    obtain ⟨v, r, ev, h1, h2⟩ := h
    subst ev
    exact ⟨v, r ++ ws, rfl, h1, h2.app h'⟩
theorem RepL.one {d : D} {v : V} (h : Rep p W H d v) : RepL p W H [d] [v] := ⟨v, [], rfl, h, rfl⟩
theorem RepL.take : ∀ {ds : List D} {vs : List V} (k : Nat), RepL p W H ds vs → RepL p W H (ds.take k) (vs.take k)
  | _, _, 0, _ => by rw [List.take_zero, List.take_zero]; exact rfl
  | [], vs, k + 1, h => by
    have h : vs = [] := h
    subst h
    exact rfl
  | x :: xs, vs, k + 1, h => by
    obtain ⟨v, r, ev, h1, h2⟩ := h
    subst ev
    rw [List.take_succ_cons, List.take_succ_cons]
    exact ⟨v, _, rfl, h1, h2.take k⟩
theorem RepL.drop : ∀ {ds : List D} {vs : List V} (k : Nat), RepL p W H ds vs → RepL p W H (ds.drop k) (vs.drop k)
  | _, _, 0, h => by rw [List.drop_zero, List.drop_zero]; exact h
  | [], vs, k + 1, h => by
    have h : vs = [] := h
    subst h
    exact rfl
  | x :: xs, vs, k + 1, h => by
    obtain ⟨v, r, ev, h1, h2⟩ := h
    subst ev
    rw [List.drop_succ_cons, List.drop_succ_cons]
    exact h2.drop k
theorem RepL.set : ∀ {ds : List D} {vs : List V} {d : D} {v : V} (k : Nat), RepL p W H ds vs → Rep p W H d v → RepL p W H (ds.set k d) (vs.set k v)
  | [], vs, d, v, k, h, _ => by
    have h : vs = [] := h
    subst h
    exact rfl
  | x :: xs, vs, d, v, 0, h, hd => by
    obtain ⟨w, r, ev, h1, h2⟩ := h
    subst ev
    exact ⟨v, r, rfl, hd, h2⟩
  | x :: xs, vs, d, v, k + 1, h, hd => by
    obtain ⟨w, r, ev, h1, h2⟩ := h
    subst ev
    exact ⟨w, _, rfl, h1, h2.set k hd⟩
end

/-- what an expression told stands at v: Hs, the heap where it began -/
def RVr (p : Prm) (Hs : Hp) (W : Wd) (H : Hp) : RV → V → Prop
  | .val d, v => Rep p W H d v
  | .fresh d, v => ∃ a, v = .ref a ∧ RepC p W H d a ∧ ¬ W.F a ∧ (∀ i, i < W.n → W.mu i ≠ a) ∧ Hs a = none
  | .peek d, v => ∃ a, v = .ref a ∧ RepC p W H d a ∧ ¬ W.F a ∧ (∀ i, i < W.n → W.mu i ≠ a)
theorem RVr.fut {p : Prm} {Hs H H' : Hp} {W W' : Wd} {st : Store} (f : Fut W H W' H') (S : SOk p W H st) {x : RV} {v : V} (h : RVr p Hs W H x v) : RVr p Hs W' H' x v := by
  have go : ∀ {d : D} {a : Addr}, RepC p W H d a → ¬ W.F a → (∀ i, i < W.n → W.mu i ≠ a) → RepC p W' H' d a ∧ ¬ W'.F a ∧ (∀ i, i < W'.n → W'.mu i ≠ a) := by
    intro d a h1 h2 h3
    obtain ⟨o, ho⟩ := h1.some
    refine ⟨h1.fut f S h3, fun z => h2 (f.nf a o ho z), fun i hi e => ?_⟩
    by_cases hl : i < W.n
    · exact h3 i hl (by rw [← f.mu i hl]; exact e)
    · have z := f.dom i (Nat.le_of_not_lt hl) hi
      rw [e, ho] at z
      cases z
  cases x with
  | val d => exact Rep.fut f S d v h
  | fresh d =>
    obtain ⟨a, e, h1, h2, h3, h4⟩ := h
    obtain ⟨g1, g2, g3⟩ := go h1 h2 h3
    exact ⟨a, e, g1, g2, g3, h4⟩
  | peek d =>
    obtain ⟨a, e, h1, h2, h3⟩ := h
    obtain ⟨g1, g2, g3⟩ := go h1 h2 h3
    exact ⟨a, e, g1, g2, g3⟩
/-- told later is told from further back -/
theorem RVr.back {p : Prm} {Hs H H' : Hp} {W' : Wd} (hs : ∀ a, Hs a ≠ none → H a ≠ none) {x : RV} {v : V} (h : RVr p H W' H' x v) : RVr p Hs W' H' x v := by
  cases x with
  | val d => exact h
  | peek d => exact h
  | fresh d =>
    obtain ⟨a, e, h1, h2, h3, h4⟩ := h
    refine ⟨a, e, h1, h2, h3, ?_⟩
    cases q : Hs a with
    | none => rfl
    | some o => exact absurd h4 (hs a (some_ne q))
end Tz

set_option Elab.async false
set_option linter.all false
set_option maxRecDepth 100000
set_option maxHeartbeats 4000000
/-! Ts2: what holds between statements; the readings of the combinators; expressions. -/
namespace Tz
open PySem L2

section
variable {p : Prm} {W W1 W' : Wd} {H H1 H' Hs : Hp} {st : Store} {a : Addr} {o : HO}
/-- a still thing more -/
def Wd.add (W : Wd) (a : Addr) : Wd := { W with F := fun b => W.F b ∨ b = a }
theorem SOk.ne (S : SOk p W H st) (h : H a = none) : ∀ i, i < W.n → W.mu i ≠ a := fun i hi e => by
  obtain ⟨u, z, _⟩ := S.mut_at hi
  rw [e, h] at z
  cases z
theorem SOk.nF (S : SOk p W H st) (h : H a = none) : ¬ W.F a := fun z => S.fok a z h
/-- a new thing, no still one -/
theorem Fut.laid (S : SOk p W H st) (h : H a = none) : Fut W H W (upd H a o) :=
  ⟨fun _ z => z, fun _ _ => rfl, fun b u e _ => by rw [upd_ne (ne_of_none e h)]; exact e, fun _ _ _ z => z, fun i h1 h2 => absurd h1 (Nat.not_le.mpr h2), Nat.le_refl _, fun b z => by
    cases q : H b with
    | none => exact absurd q z
    | some u => rw [upd_ne (ne_of_none q h), q]; exact fun z => by cases z⟩
theorem SOk.laid (S : SOk p W H st) (h : H a = none) : SOk p W (upd H a o) st := by
  have f := Fut.laid (o := o) S h
  refine ⟨S.len, fun n d e => ?_, S.nf, S.inj, fun b z => f.tr b (S.fok b z)⟩
  have hn : n < W.n := by rw [← S.len]; exact (List.getElem?_eq_some_iff.mp e).1
  have c := S.at_ n d e
  exact c.moved (f.fw S) fun u h1 => by rw [upd_ne (ne_of_none h1 h)]; exact h1
/-- a thing that was not there at the start is still from now on -/
theorem Fut.still (f : Fut W1 H1 W H) (h : H1 a = none) : Fut W1 H1 (W.add a) H :=
  ⟨fun b z => .inl (f.fsub b z), f.mu, f.keep, fun b u e z => (by
    rcases z with z | z
    · exact f.nf b u e z
    · rw [z, h] at e
      cases e), f.dom, f.le, f.tr⟩
mutual
theorem Rep.add (a : Addr) : ∀ (d : D) (v : V), Rep p W H d v → Rep p (W.add a) H d v
  | .non, _, h => h
  | .bl _, _, h => h
  | .int _, _, h => h
  | .str _, _, h => h
  | .tup xs, _, h => by
    obtain ⟨b, vs, e, hs, hr⟩ := h
    exact ⟨b, vs, e, hs, RepL.add a xs vs hr⟩
  | .lst xs, _, h => by
    obtain ⟨b, vs, e, hf, hs, hr⟩ := h
    exact ⟨b, vs, e, .inl hf, hs, RepL.add a xs vs hr⟩
  | .rol xs, _, h => by
    obtain ⟨b, vs, e, hf, hr⟩ := h
    refine ⟨b, vs, e, ?_, RepL.add a xs vs hr⟩
    rcases hf with ⟨hf, hs⟩ | hs
    · exact .inl ⟨.inl hf, hs⟩
    · exact .inr hs
  | .ref n, _, h => h
  | .ins c ns fs, _, h => by
    obtain ⟨b, dx, vs, e, hf, hs, hr, hm⟩ := h
    exact ⟨b, dx, vs, e, .inl hf, hs, RepL.add a fs vs hr, hm⟩
  | .dct ks xs, _, h => by
    obtain ⟨b, vs, e, hf, hs, hr⟩ := h
    exact ⟨b, vs, e, .inl hf, hs, RepL.add a xs vs hr⟩
theorem RepL.add (a : Addr) : ∀ (ds : List D) (vs : List V), RepL p W H ds vs → RepL p (W.add a) H ds vs
  | [], _, h => h
  | x :: xs, _, h => by
    obtain ⟨v, r, e, h1, h2⟩ := h
    exact ⟨v, r, e, Rep.add a x v h1, RepL.add a xs r h2⟩
end
theorem RepC.add {d : D} {b : Addr} (a : Addr) (h : RepC p W H d b) : RepC p (W.add a) H d b := by
  cases d with
  | lst xs =>
    obtain ⟨vs, h1, h2⟩ := h
    exact ⟨vs, h1, RepL.add a xs vs h2⟩
  | ins c ns fs =>
    obtain ⟨dx, vs, h1, h2, hm⟩ := h
    exact ⟨dx, vs, h1, RepL.add a fs vs h2, hm⟩
  | dct ks xs =>
    obtain ⟨vs, h1, h2⟩ := h
    exact ⟨vs, h1, RepL.add a xs vs h2⟩
  | _ => exact h.elim
theorem RepC.still {d : D} {a : Addr} (h : RepC p W H d a) : Rep p (W.add a) H d (.ref a) := by
  cases d with
  | lst xs =>
    obtain ⟨vs, h1, h2⟩ := h
    exact ⟨a, vs, rfl, .inr rfl, h1, RepL.add a xs vs h2⟩
  | ins c ns fs =>
    obtain ⟨dx, vs, h1, h2, hm⟩ := h
    exact ⟨a, dx, vs, rfl, .inr rfl, h1, RepL.add a fs vs h2, hm⟩
  | dct ks xs =>
    obtain ⟨vs, h1, h2⟩ := h
    exact ⟨a, vs, rfl, .inr rfl, h1, RepL.add a xs vs h2⟩
  | _ => exact h.elim
/-- a tree that stands at an address of its own -/
def boxD : D → Bool
  | .lst _ => true
  | .ins _ _ _ => true
  | .dct _ _ => true
  | _ => false
theorem RepC.box {d : D} {a : Addr} (h : RepC p W H d a) : boxD d = true := by
  cases d <;> first
    | rfl
    | exact h.elim
theorem SOk.still (S : SOk p W H st) (hn : ∀ i, i < W.n → W.mu i ≠ a) (h : H a ≠ none) : SOk p (W.add a) H st :=
  ⟨S.len, fun n d e => (S.at_ n d e).add a, fun n hn' z => by
    rcases z with z | z
    · exact S.nf n hn' z
    · exact hn n hn' z, S.inj, fun b z => by
    rcases z with z | z
    · exact S.fok b z
    · rw [z]; exact h⟩
/-- what was told, as a value that stays -/
theorem RVr.toVal {x : RV} {v : V} {d : D} (S : SOk p W H st) (h : RVr p Hs W H x v) (e : x.toVal = some d) :
    ∃ W', SOk p W' H st ∧ Rep p W' H d v ∧ (∀ {V1 : Wd} {G1 : Hp}, Fut V1 G1 W H → (∀ b, Hs b = none → G1 b = none) → Fut V1 G1 W' H) := by
  cases x with
  | val y =>
    injection e with e
    subst e
    exact ⟨W, S, h, fun f _ => f⟩
  | peek y => cases e
  | fresh y =>
    injection e with e
    subst e
    obtain ⟨a, rfl, h1, h2, h3, h4⟩ := h
    obtain ⟨o, ho⟩ := h1.some
    refine ⟨W.add a, S.still h3 (some_ne ho), ?_, fun f hb => f.still (hb a h4)⟩
    exact h1.still
/-- a list behind what was told -/
theorem RVr.list {x : RV} {v : V} {xs : List D} (S : SOk p W H st) (h : RVr p Hs W H x v) (e : asL st x = some xs) : ∃ a vs, v = .ref a ∧ SqL p.K H a vs ∧ RepL p W H xs vs := by
  have cc : ∀ {d : D} {a : Addr}, RepC p W H d a → asL st (.val d) = some xs → ∃ vs, SqL p.K H a vs ∧ RepL p W H xs vs := by
    intro d a h e
    cases d with
    | lst ys =>
      injection e with e
      subst e
      obtain ⟨vs, q1, q2⟩ := h
      exact ⟨vs, SqL.of q1, q2⟩
    | _ => first
      | exact h.elim
      | cases e
  cases x with
  | val d =>
    cases d with
    | lst ys =>
      injection e with e
      subst e
      obtain ⟨a, vs, e, _, q1, q2⟩ := h
      exact ⟨a, vs, e, SqL.of q1, q2⟩
    | rol ys =>
      injection e with e
      subst e
      obtain ⟨a, vs, e, q1, q2⟩ := h
      refine ⟨a, vs, e, ?_, q2⟩
      rcases q1 with ⟨_, q⟩ | q
      · exact q
      · exact q H
    | ref n =>
      obtain ⟨h1, h2⟩ := h
      have e' : (match st[n]? with | some (.lst xs) => some xs | _ => none) = some xs := e
      cases q : st[n]? with
      | none => rw [q] at e'; cases e'
      | some d =>
        rw [q] at e'
        have c := S.at_ n d q
        cases d with
        | lst ys =>
          injection e' with e'
          subst e'
          obtain ⟨vs, q1, q2⟩ := c
          exact ⟨_, vs, h2, SqL.of q1, q2⟩
        | _ => first
          | exact c.elim
          | cases e'
    | _ => cases e
  | fresh d =>
    obtain ⟨a, rfl, h1, _⟩ := h
    obtain ⟨vs, q⟩ := cc h1 e
    exact ⟨a, vs, rfl, q⟩
  | peek d =>
    obtain ⟨a, rfl, h1, _⟩ := h
    obtain ⟨vs, q⟩ := cc h1 e
    exact ⟨a, vs, rfl, q⟩
/-- what was told is no list of its own: the tree is the value's -/
theorem RVr.plain {x : RV} {v : V} (h : RVr p Hs W H x v) (hn : boxD x.d = false) : Rep p W H x.d v := by
  cases x with
  | val d => exact h
  | fresh d =>
    obtain ⟨a, _, h1, _⟩ := h
    exact absurd (h1.box.symm.trans hn) (fun z => by cases z)
  | peek d =>
    obtain ⟨a, _, h1, _⟩ := h
    exact absurd (h1.box.symm.trans hn) (fun z => by cases z)
end

/-- between two statements of a def that was entered at (W0, H0) -/
structure Good (p : Prm) (W0 : Wd) (H0 : Hp) (W : Wd) (σ : L2.St) (H : Hp) (r : Rho) (st : Store) : Prop where
  fut : Fut W0 H0 W H
  ok : SOk p W H st
  len : σ.length = r.length
  val : ∀ (i : Nat) d, r[i]? = some (.val d) → ∃ v, σ[i]? = some (some v) ∧ Rep p W H d v
  own : ∀ (i : Nat) d, r[i]? = some (.own d) → ∃ a, σ[i]? = some (some (.ref a)) ∧ RepC p W H d a ∧ ¬ W.F a ∧ (∀ k, k < W.n → W.mu k ≠ a) ∧ H0 a = none
  one : ∀ (i j : Nat) d e a, r[i]? = some (.own d) → r[j]? = some (.own e) → σ[i]? = some (some (.ref a)) → σ[j]? = some (some (.ref a)) → i = j
section
variable {p : Prm} {W0 W W' : Wd} {H0 H H' : Hp} {σ : L2.St} {r : Rho} {st st' : Store}
theorem Good.to (G : Good p W0 H0 W σ H r st) (f : Fut W H W' H') (S : SOk p W' H' st') : Good p W0 H0 W' σ H' r st' where
  fut := G.fut.trans f
  ok := S
  len := G.len
  val := fun i d e => by
    obtain ⟨v, h1, h2⟩ := G.val i d e
    exact ⟨v, h1, Rep.fut f G.ok d v h2⟩
  own := fun i d e => by
    obtain ⟨a, h1, h2, h3, h4, h5⟩ := G.own i d e
    have z : RVr p H0 W H (.peek d) (.ref a) := ⟨a, rfl, h2, h3, h4⟩
    obtain ⟨b, q, k2, k3, k4⟩ := z.fut f G.ok
    injection q with q
    subst q
    exact ⟨a, h1, k2, k3, k4, h5⟩
  one := G.one
/-- a slot read -/
theorem Good.read (G : Good p W0 H0 W σ H r st) {i : Nat} {x : RV} (h : eVar i r st = some (.ok x st')) : st' = st ∧ ∃ v, σ[i]? = some (some v) ∧ RVr p H W H x v := by
  unfold eVar at h
  cases q : r[i]? with
  | none => rw [q] at h; cases h
  | some s =>
    rw [q] at h
    cases s with
    | no => cases h
    | val d =>
      injection h with h
      injection h with h1 h2
      subst h1
      obtain ⟨v, e, q⟩ := G.val i d q
      exact ⟨h2.symm, v, e, q⟩
    | own d =>
      injection h with h
      injection h with h1 h2
      subst h1
      obtain ⟨a, e, q2, q3, q4, q5⟩ := G.own i d q
      exact ⟨h2.symm, _, e, a, rfl, q2, q3, q4⟩
end

/-- an exception of ours, by its class and its own dict -/
def RepEx (p : Prm) (W : Wd) (H : Hp) (e : Ex) (c : Value) (d : Option Addr) : Prop := c = .ref (p.cX e.cls) ∧ match p.xF e.cls with
  | none => True
  | some f => ∃ dd v, d = some dd ∧ H dd = some (.xd [(f, v)]) ∧ Rep p W H e.fld v
/-! ### readings -/
def okE (p : Prm) (Wx : WX) (W : Wd) (σ : L2.St) (H : Hp) (Q : VK) : Option ER → Prop
  | none => False
  | some (.ok v st') => ∀ W' H' x, Fut W H W' H' → SOk p W' H' st' → RVr p H W' H' v x → Q x H'
  | some (.exc e st') => ∀ W' H' c d, Fut W H W' H' → SOk p W' H' st' → RepEx p W' H' e c d → Wx c d σ H'
def okT (p : Prm) (Wx : WX) (W : Wd) (σ : L2.St) (H : Hp) (Q : Bool → Hp → Prop) : Option TR → Prop
  | none => False
  | some (.ok b st') => ∀ W' H', Fut W H W' H' → SOk p W' H' st' → Q b H'
  | some (.exc e st') => ∀ W' H' c d, Fut W H W' H' → SOk p W' H' st' → RepEx p W' H' e c d → Wx c d σ H'
def okA (p : Prm) (Wx : WX) (W : Wd) (σ : L2.St) (H : Hp) (Q : List V → Hp → Prop) : Option AR → Prop
  | none => False
  | some (.ok ds st') => ∀ W' H' xs, Fut W H W' H' → SOk p W' H' st' → RepL p W' H' ds xs → Q xs H'
  | some (.exc e st') => ∀ W' H' c d, Fut W H W' H' → SOk p W' H' st' → RepEx p W' H' e c d → Wx c d σ H'
def tE (p : Prm) (Wx : WX) (f : ESem) : TE := fun σ H Q => ∃ W0 H0 W r st, Good p W0 H0 W σ H r st ∧ okE p Wx W σ H Q (f r st)
def tT (p : Prm) (Wx : WX) (f : TSem) : TT := fun σ H Q => ∃ W0 H0 W r st, Good p W0 H0 W σ H r st ∧ okT p Wx W σ H Q (f r st)
def tA (p : Prm) (Wx : WX) (f : ASem) : TA := fun σ H Q => ∃ W0 H0 W r st, Good p W0 H0 W σ H r st ∧ okA p Wx W σ H Q (f r st)
/-- an operation on two told things, on one -/
def r2 (p : Prm) (fn : Store → RV → RV → Option RV) : R2 := fun x y H Q => ∃ W st Hs u v z, SOk p W H st ∧ RVr p Hs W H u x ∧ RVr p Hs W H v y ∧ fn st u v = some z ∧
  ∀ W' H' w, Fut W H W' H' → SOk p W' H' st → RVr p H W' H' z w → Q w H'
def r1 (p : Prm) (fn : Store → RV → Option RV) : V → Hp → VK → Prop := fun x H Q => ∃ W st Hs u z, SOk p W H st ∧ RVr p Hs W H u x ∧ fn st u = some z ∧
  ∀ W' H' w, Fut W H W' H' → SOk p W' H' st → RVr p H W' H' z w → Q w H'
/-- a built-in of values -/
def rN (p : Prm) (fn : Store → List D → Option RV) : List V → Hp → VK → Prop := fun xs H Q => ∃ W st ds z, SOk p W H st ∧ RepL p W H ds xs ∧ fn st ds = some z ∧
  ∀ W' H' w, Fut W H W' H' → SOk p W' H' st → RVr p H W' H' z w → Q w H'
section
variable {X : Cx} {p : Prm} {Wx : WX} {f g h : ESem} {e e1 e2 e3 : Expr} {t u : TSem} {al : ASem}
theorem _root_.L2.PE.weak {t t' : TE} (h : PE X e t) (w : ∀ σ H Q, t' σ H Q → t σ H Q) : PE X e t' := ⟨fun pins s σ H Q I q => h.run pins s σ H Q I (w σ H Q q)⟩
theorem _root_.L2.PT.weak {t t' : TT} (h : PT X e t) (w : ∀ σ H Q, t' σ H Q → t σ H Q) : PT X e t' := ⟨fun pins s σ H Q I q => h.run pins s σ H Q I (w σ H Q q)⟩
theorem _root_.L2.PW.weak {t t' : TT} (h : PW X e t) (w : ∀ σ H Q, t' σ H Q → t σ H Q) : PW X e t' := ⟨fun wh pins s σ H Q I q => h.run wh pins s σ H Q I (w σ H Q q)⟩
theorem _root_.L2.PA.weak {es : List Expr} {t t' : TA} (h : PA X es t) (w : ∀ σ H Q, t' σ H Q → t σ H Q) : PA X es t' := ⟨fun pos pins s σ H Q I q => h.run pos pins s σ H Q I (w σ H Q q)⟩
/-- one step: where f goes, the rest goes on -/
theorem tE_bind {σ : L2.St} {H : Hp} {W0 W : Wd} {H0 : Hp} {r : Rho} {st : Store} (G : Good p W0 H0 W σ H r st) {Q : VK}
    (hok : ∀ v st1, f r st = some (.ok v st1) → ∀ W1 H1 x, Fut W H W1 H1 → SOk p W1 H1 st1 → RVr p H W1 H1 v x → Good p W0 H0 W1 σ H1 r st1 → Q x H1)
    (hex : ∀ e st1, f r st = some (.exc e st1) → ∀ W1 H1 c d, Fut W H W1 H1 → SOk p W1 H1 st1 → RepEx p W1 H1 e c d → Wx c d σ H1)
    (hno : f r st ≠ none) : tE p Wx f σ H Q := by
  refine ⟨W0, H0, W, r, st, G, ?_⟩
  cases q : f r st with
  | none => exact absurd q hno
  | some y =>
    cases y with
    | ok v st1 => exact fun W1 H1 x f1 S1 R1 => hok v st1 q W1 H1 x f1 S1 R1 (G.to f1 S1)
    | exc e st1 => exact fun W1 H1 c d f1 S1 R1 => hex e st1 q W1 H1 c d f1 S1 R1
theorem tT_bind {σ : L2.St} {H : Hp} {W0 W : Wd} {H0 : Hp} {r : Rho} {st : Store} (G : Good p W0 H0 W σ H r st) {Q : Bool → Hp → Prop}
    (hok : ∀ b st1, t r st = some (.ok b st1) → ∀ W1 H1, Fut W H W1 H1 → SOk p W1 H1 st1 → Good p W0 H0 W1 σ H1 r st1 → Q b H1)
    (hex : ∀ e st1, t r st = some (.exc e st1) → ∀ W1 H1 c d, Fut W H W1 H1 → SOk p W1 H1 st1 → RepEx p W1 H1 e c d → Wx c d σ H1)
    (hno : t r st ≠ none) : tT p Wx t σ H Q := by
  refine ⟨W0, H0, W, r, st, G, ?_⟩
  cases q : t r st with
  | none => exact absurd q hno
  | some y =>
    cases y with
    | ok v st1 => exact fun W1 H1 f1 S1 => hok v st1 q W1 H1 f1 S1 (G.to f1 S1)
    | exc e st1 => exact fun W1 H1 c d f1 S1 R1 => hex e st1 q W1 H1 c d f1 S1 R1
theorem tA_bind {σ : L2.St} {H : Hp} {W0 W : Wd} {H0 : Hp} {r : Rho} {st : Store} (G : Good p W0 H0 W σ H r st) {Q : List V → Hp → Prop}
    (hok : ∀ ds st1, al r st = some (.ok ds st1) → ∀ W1 H1 xs, Fut W H W1 H1 → SOk p W1 H1 st1 → RepL p W1 H1 ds xs → Good p W0 H0 W1 σ H1 r st1 → Q xs H1)
    (hex : ∀ e st1, al r st = some (.exc e st1) → ∀ W1 H1 c d, Fut W H W1 H1 → SOk p W1 H1 st1 → RepEx p W1 H1 e c d → Wx c d σ H1)
    (hno : al r st ≠ none) : tA p Wx al σ H Q := by
  refine ⟨W0, H0, W, r, st, G, ?_⟩
  cases q : al r st with
  | none => exact absurd q hno
  | some y =>
    cases y with
    | ok v st1 => exact fun W1 H1 xs f1 S1 R1 => hok v st1 q W1 H1 xs f1 S1 R1 (G.to f1 S1)
    | exc e st1 => exact fun W1 H1 c d f1 S1 R1 => hex e st1 q W1 H1 c d f1 S1 R1
theorem Fut.none {W W1 : Wd} {H H1 : Hp} (f : Fut W H W1 H1) : ∀ a, H1 a = none → H a = none := fun a h => by
  cases q : H a with
  | none => rfl
  | some o => exact absurd h (f.tr a (some_ne q))
theorem pe_stuck : PE X e (tE p Wx eStuck) := ⟨fun _ _ _ _ _ _ ⟨_, _, _, _, _, _, z⟩ => z.elim⟩
theorem pt_stuck : PT X e (tT p Wx tStuck) := ⟨fun _ _ _ _ _ _ ⟨_, _, _, _, _, _, z⟩ => z.elim⟩
theorem pe_const {v : V} {d : D} (h : PE X e (tC v)) (hr : ∀ W H, Rep p W H d v) : PE X e (tE p Wx (eC d)) := by
  refine h.weak fun σ H Q ⟨W0, H0, W, r, st, G, q⟩ => ?_
  exact q W H v Fut.refl G.ok (hr W H)
theorem pe_slot {i : Nat} (h : PE X e (tVar i)) : PE X e (tE p Wx (eVar i)) := by
  refine h.weak fun σ H Q ⟨W0, H0, W, r, st, G, q⟩ => ?_
  cases z : eVar i r st with
  | none => rw [z] at q; exact q.elim
  | some y =>
    rw [z] at q
    cases y with
    | ok v st1 =>
      obtain ⟨rfl, x, h1, h2⟩ := G.read z
      exact ⟨x, h1, q W H x Fut.refl G.ok h2⟩
    | exc x st1 =>
      unfold eVar at z
      split at z <;> cases z
/-- two operands and an operation on them -/
theorem op2_weak {fn : Store → RV → RV → Option RV} {σ : L2.St} {H : Hp} {Q : VK} (w : tE p Wx (eOp2 fn f g) σ H Q) : tOp (r2 p fn) (tE p Wx f) (tE p Wx g) σ H Q := by
  obtain ⟨W0, H0, W, r, st, G, q⟩ := w
  unfold eOp2 at q
  refine tE_bind G (fun v st1 e1 W1 H1 x f1 S1 R1 G1 => ?_) (fun e st1 e1 => ?_) (fun z => ?_)
  · rw [e1] at q
    refine tE_bind G1 (fun w st2 e2 W2 H2 y f2 S2 R2 G2 => ?_) (fun e st2 e2 W2 H2 c d f2 S2 R2 => ?_) (fun z => ?_)
    · simp only [e2] at q
      cases ez : fn st2 v w with
      | none => rw [ez] at q; exact q.elim
      | some z =>
        rw [ez] at q
        exact ⟨W2, st2, H, v, w, z, S2, R1.fut f2 S1, R2.back fun a => f1.tr a, ez, fun W3 H3 y3 f3 S3 R3 => q W3 H3 y3 (f1.trans (f2.trans f3)) S3 (R3.back fun a h => f2.tr a (f1.tr a h))⟩
    · simp only [e2] at q
      exact q W2 H2 c d (f1.trans f2) S2 R2
    · simp only [z] at q
      exact q.elim
  · rw [e1] at q
    exact q
  · rw [z] at q
    exact q
theorem pe_bin {op : Operator} {fn : Store → RV → RV → Option RV} {pos : Pos} (ho : OpR X (binaryOp op) (r2 p fn)) (ha : PE X e1 (tE p Wx f)) (hb : PE X e2 (tE p Wx g)) : PE X (.BinOp e1 op e2 pos) (tE p Wx (eOp2 fn f g)) :=
  (pe_op ho ha hb).weak fun _ _ _ => op2_weak
theorem pe_cmp2 {op : CmpOp} {fn : Store → RV → RV → Option RV} {pos : Pos} (ho : OpR X (compareOp op) (r2 p fn)) (ha : PE X e1 (tE p Wx f)) (hb : PE X e2 (tE p Wx g)) (hm : behindInMarks op e2 = false) : PE X (.Compare e1 [op] [e2] pos) (tE p Wx (eOp2 fn f g)) :=
  (pe_cmpR ho ha hb hm).weak fun _ _ _ => op2_weak
theorem pe_ix2 {fn : Store → RV → RV → Option RV} {pos : Pos} (ho : IxR X (r2 p fn)) (ha : PE X e1 (tE p Wx f)) (hb : PE X e2 (tE p Wx g)) (hm : PlainIx e2) : PE X (.Subscript e1 e2 pos) (tE p Wx (eOp2 fn f g)) :=
  (pe_ix ho ha hb hm).weak fun _ _ _ => op2_weak
theorem op1_weak {fn : Store → RV → Option RV} {σ : L2.St} {H : Hp} {Q : VK} (w : tE p Wx (eOp1 fn f) σ H Q) : tUn (r1 p fn) (tE p Wx f) σ H Q := by
  obtain ⟨W0, H0, W, r, st, G, q⟩ := w
  unfold eOp1 at q
  refine tE_bind G (fun v st1 e1 W1 H1 x f1 S1 R1 G1 => ?_) (fun e st1 e1 => ?_) (fun z => ?_)
  · simp only [e1] at q
    cases ez : fn st1 v with
    | none => rw [ez] at q; exact q.elim
    | some z =>
      rw [ez] at q
      exact ⟨W1, st1, H, v, z, S1, R1, ez, fun W3 H3 y3 f3 S3 R3 => q W3 H3 y3 (f1.trans f3) S3 (R3.back fun a h => f1.tr a h)⟩
  · simp only [e1] at q
    exact q
  · simp only [z] at q
    exact q
theorem pe_un1 {op : UnaryOp} {fn : Store → RV → Option RV} {pos : Pos} (ho : UnR X (unaryOp op) (r1 p fn)) (ha : PE X e1 (tE p Wx f)) : PE X (.UnaryOp op e1 pos) (tE p Wx (eOp1 fn f)) :=
  (pe_un ho ha).weak fun _ _ _ => op1_weak
/-- arguments -/
theorem pa_nilS : PA X [] (tA p Wx aNil) := pa_nil.weak fun σ H Q ⟨W0, H0, W, r, st, G, q⟩ => q W H [] Fut.refl G.ok rfl
theorem pa_consS {es : List Expr} (ha : PE X e (tE p Wx f)) (hr : PA X es (tA p Wx al)) (hs : starEach (e :: es) X.env = (false, eval e X.env) :: starEach es X.env) : PA X (e :: es) (tA p Wx (aCons f al)) := by
  refine (pa_cons ha hr hs).weak fun σ H Q ⟨W0, H0, W, r, st, G, q⟩ => ?_
  unfold aCons at q
  refine tE_bind G (fun v st1 e1 W1 H1 x f1 S1 R1 G1 => ?_) (fun e st1 e1 => ?_) (fun z => ?_)
  · simp only [e1] at q
    cases ev : v.toVal with
    | none => rw [ev] at q; exact q.elim
    | some d =>
      rw [ev] at q
      obtain ⟨W1', S1', R1', mk⟩ := R1.toVal S1 ev
      have f1' := mk f1 fun _ z => z
      refine tA_bind (G.to f1' S1') (fun ds st2 e2 W2 H2 xs f2 S2 R2 G2 => ?_) (fun e st2 e2 W2 H2 c d f2 S2 R2 => ?_) (fun z => ?_)
      · simp only [e2] at q
        exact q W2 H2 (x :: xs) (f1'.trans f2) S2 ⟨x, xs, rfl, Rep.fut f2 S1' d x R1', R2⟩
      · simp only [e2] at q
        exact q W2 H2 c d (f1'.trans f2) S2 R2
      · simp only [z] at q
        exact q.elim
  · simp only [e1] at q
    exact q
  · simp only [z] at q
    exact q
theorem lim_le {n : Nat} (h : n ≤ lim) : n ≤ sizeLine := by
  rw [sizeLine_eq]
  unfold lim at h
  omega
theorem lim_lt {n : Nat} (h : n < lim) : n < sizeLine := by
  rw [sizeLine_eq]
  unfold lim at h
  omega
/-- a new list, a new tuple -/
theorem fresh_mk {W : Wd} {H : Hp} {st : Store} {a : Addr} {xs : List D} {vs : List V} (S : SOk p W H st) (hn : H a = none) (hr : RepL p W H xs vs) :
    RVr p H W (upd H a (.lst vs)) (.fresh (.lst xs)) (.ref a) := ⟨a, rfl, ⟨vs, upd_same, RepL.fut (Fut.laid S hn) S xs vs hr⟩, S.nF hn, S.ne hn, hn⟩
theorem tup_mk {W : Wd} {H Hs : Hp} {st : Store} {a : Addr} {xs : List D} {vs : List V} (S : SOk p W H st) (hn : H a = none) (hr : RepL p W H xs vs) :
    RVr p Hs W (upd H a (.tup vs)) (.val (.tup xs)) (.ref a) := ⟨a, vs, rfl, SqT.of upd_same, RepL.fut (Fut.laid S hn) S xs vs hr⟩
theorem pe_tupS {es : List Expr} {k : Nat} {pos : Pos} (ha : PA X es (tA p Wx al)) : PE X (.Tuple es k pos) (tE p Wx (eTup al)) := by
  refine (pe_tup ha).weak fun σ H Q ⟨W0, H0, W, r, st, G, q⟩ => ?_
  unfold eTup at q
  refine tA_bind G (fun ds st1 e1 W1 H1 xs f1 S1 R1 G1 => ?_) (fun e st1 e1 => ?_) (fun z => ?_)
  · simp only [e1] at q
    by_cases hl : ds.length ≤ lim
    · rw [if_pos hl] at q
      refine ⟨by rw [R1.length]; exact lim_le hl, fun a hn => ?_⟩
      exact q W1 _ _ (f1.trans (Fut.laid S1 hn)) (S1.laid hn) (tup_mk S1 hn R1)
    · rw [if_neg hl] at q
      exact q.elim
  · simp only [e1] at q
    exact q
  · simp only [z] at q
    exact q
theorem pe_lstS {es : List Expr} {pos : Pos} (ha : PA X es (tA p Wx al)) : PE X (.List es pos) (tE p Wx (eLst al)) := by
  refine (pe_lst ha).weak fun σ H Q ⟨W0, H0, W, r, st, G, q⟩ => ?_
  unfold eLst at q
  refine tA_bind G (fun ds st1 e1 W1 H1 xs f1 S1 R1 G1 => ?_) (fun e st1 e1 => ?_) (fun z => ?_)
  · simp only [e1] at q
    by_cases hl : ds.length ≤ lim
    · rw [if_pos hl] at q
      refine ⟨by rw [R1.length]; exact lim_le hl, fun a hn => ?_⟩
      exact q W1 _ _ (f1.trans (Fut.laid S1 hn)) (S1.laid hn) ((fresh_mk S1 hn R1).back fun a h => f1.tr a h)
    · rw [if_neg hl] at q
      exact q.elim
  · simp only [e1] at q
    exact q
  · simp only [z] at q
    exact q
/-- a built-in called with values -/
theorem blt_weak {fn : Store → List D → Option RV} {σ : L2.St} {H : Hp} {Q : VK} (w : tE p Wx (eBlt fn al) σ H Q) : tCB (rN p fn) (tA p Wx al) σ H Q := by
  obtain ⟨W0, H0, W, r, st, G, q⟩ := w
  unfold eBlt at q
  refine tA_bind G (fun ds st1 e1 W1 H1 xs f1 S1 R1 G1 => ?_) (fun e st1 e1 => ?_) (fun z => ?_)
  · simp only [e1] at q
    cases ez : fn st1 ds with
    | none => rw [ez] at q; exact q.elim
    | some z =>
      rw [ez] at q
      exact ⟨W1, st1, ds, z, S1, R1, ez, fun W3 H3 y3 f3 S3 R3 => q W3 H3 y3 (f1.trans f3) S3 (R3.back fun a h => f1.tr a h)⟩
  · simp only [e1] at q
    exact q
  · simp only [z] at q
    exact q
/-- .. with one told thing -/
theorem blt1_weak {fn : Store → RV → Option RV} {σ : L2.St} {H : Hp} {Q : VK} (w : tE p Wx (eOp1 fn f) σ H Q) : tCB (fun vs H Q => ∃ v, vs = [v] ∧ r1 p fn v H Q) (tCons (tE p Wx f) tNil) σ H Q := by
  have q := op1_weak w
  obtain ⟨W0, H0, W, r, st, G, q⟩ := q
  refine ⟨W0, H0, W, r, st, G, ?_⟩
  cases z : f r st with
  | none => rw [z] at q; exact q.elim
  | some y =>
    rw [z] at q
    cases y with
    | ok v st1 => exact fun W1 H1 x f1 S1 R1 => ⟨x, rfl, q W1 H1 x f1 S1 R1⟩
    | exc e st1 => exact q
end
end Tz

set_option Elab.async false
set_option linter.all false
set_option maxRecDepth 100000
set_option maxHeartbeats 4000000
/-! Ts3: calls of defs, tests, comprehensions, targets, statements. -/
namespace Tz
open PySem L2 PyProof.Rows

/-! ### what a def does, as a promise -/
def okF (p : Prm) (W : Wd) (H : Hp) (Q : VK) (E : XK) : Option FR → Prop
  | none => False
  | some (.ret v st') => ∀ W' H' x, Fut W H W' H' → SOk p W' H' st' → RVr p H W' H' v x → Q x H'
  | some (.exc e st') => ∀ W' H' c d, Fut W H W' H' → SOk p W' H' st' → RepEx p W' H' e c d → E c d H'
def spF (p : Prm) (F : FSem) : Sp := fun vs H Q E => ∃ W st ds, SOk p W H st ∧ RepL p W H ds vs ∧ okF p W H Q E (F ds st)
/-- a module's name called with np positional values and keywords ks; ds in the written order -/
def CallOk (X : Cx) (p : Prm) (x : Str) (np : Nat) (ks : List Str) (F : FSem) : Prop :=
  ∃ u, X.mg x = some u ∧ PySem.W.keepIn X.K u = true ∧ ∀ (E : L2.St → XK) (pins : List (Addr × Obj)) (σ : L2.St) (H : Hp) (s : Shared) (Q : VK) (us ws : List Value) (vs zs : List V),
    PassesAt (L2.CX X.prog X.w) X σ (E σ) → Inv X pins σ H s → Vals vs us → Vals zs ws → vs.length = np → zs.length = ks.length → spF p F (vs ++ zs) H Q (E σ) →
      wpAny (model X.prog X.w) X.A (call u us (ks.zip ws)) (EP X pins σ Q) X.xe s

def notStar : Expr → Bool
  | .Starred _ _ => false
  | _ => true
theorem starEach_cons {e : Expr} {es : List Expr} {env : Env} (h : notStar e = true) : starEach (e :: es) env = (false, eval e env) :: starEach es env := by
  cases e <;> first
    | rfl
    | cases h
theorem star_none {pos : Pos} {env : Env} : ∀ {es : List Expr}, es.all notStar = true → (backTo pos (starEach es env)).any (·.1) = false
  | [], _ => rfl
  | e :: es, h => by
    rw [List.all_cons, Bool.and_eq_true] at h
    rw [starEach_cons h.1]
    show (false || (backTo pos (starEach es env)).any (·.1)) = false
    rw [star_none h.2]
    rfl
def kwName : Keyword → Option Str
  | ⟨n, _, _⟩ => n
def kwE : Keyword → Expr
  | ⟨_, e, _⟩ => e
theorem kw_all {pos : Pos} {env : Env} : ∀ {kws : List Keyword} {ks : List Str}, kws.map kwName = ks.map some → (backToKw pos (keywordEach kws env)).all (·.1.isSome) = true
  | [], _, _ => rfl
  | ⟨n, e, q⟩ :: kws, [], h => by cases h
  | ⟨n, e, q⟩ :: kws, k :: ks, h => by
    rw [List.map_cons, List.map_cons] at h
    injection h with h1 h2
    have h1 : n = some k := h1
    subst h1
    show (true && (backToKw pos (keywordEach kws env)).all (·.1.isSome)) = true
    rw [kw_all h2]
    rfl
theorem kw_any {pos : Pos} {env : Env} : ∀ {kws : List Keyword} {ks : List Str}, kws.map kwName = ks.map some → (backToKw pos (keywordEach kws env)).any (·.1.isNone) = false
  | [], _, _ => rfl
  | ⟨n, e, q⟩ :: kws, [], h => by cases h
  | ⟨n, e, q⟩ :: kws, k :: ks, h => by
    rw [List.map_cons, List.map_cons] at h
    injection h with h1 h2
    have h1 : n = some k := h1
    subst h1
    show (false || (backToKw pos (keywordEach kws env)).any (·.1.isNone)) = false
    rw [kw_any h2]
    rfl
theorem kw_names {pos : Pos} {env : Env} : ∀ {kws : List Keyword} {ks : List Str}, kws.map kwName = ks.map some → (backToKw pos (keywordEach kws env)).filterMap (·.1) = ks
  | [], [], _ => rfl
  | [], k :: ks, h => by cases h
  | ⟨n, e, q⟩ :: kws, [], h => by cases h
  | ⟨n, e, q⟩ :: kws, k :: ks, h => by
    rw [List.map_cons, List.map_cons] at h
    injection h with h1 h2
    have h1 : n = some k := h1
    subst h1
    have ih := kw_names (pos := pos) (env := env) h2
    show k :: (backToKw pos (keywordEach kws env)).filterMap (·.1) = k :: ks
    rw [ih]
section
variable {X : Cx} {p : Prm} {Wx : WX} {F : FSem} {x : Str} {al kl : ASem}
/-- the values of keywords -/
theorem _root_.L2.PK.weak {kws : List Keyword} {t t' : TA} (h : PK X kws t) (w : ∀ σ H Q, t' σ H Q → t σ H Q) : PK X kws t' := ⟨fun pos pins s σ H Q I q => h.run pos pins s σ H Q I (w σ H Q q)⟩
theorem acons_weak {f : ESem} {σ : L2.St} {H : Hp} {Q : List V → Hp → Prop} (w : tA p Wx (aCons f al) σ H Q) : tCons (tE p Wx f) (tA p Wx al) σ H Q := by
  obtain ⟨W0, H0, W, r, st, G, q⟩ := w
  unfold aCons at q
  refine tE_bind G (fun v st1 e1 W1 H1 x f1 S1 R1 G1 => ?_) (fun e st1 e1 => ?_) (fun z => ?_)
  · simp only [e1] at q
    cases ev : v.toVal with
    | none => rw [ev] at q; exact q.elim
    | some d =>
      rw [ev] at q
      obtain ⟨W1', S1', R1', mk⟩ := R1.toVal S1 ev
      have f1' := mk f1 fun _ z => z
      refine tA_bind (G.to f1' S1') (fun ds st2 e2 W2 H2 xs f2 S2 R2 G2 => ?_) (fun e st2 e2 W2 H2 c d f2 S2 R2 => ?_) (fun z => ?_)
      · simp only [e2] at q
        exact q W2 H2 (x :: xs) (f1'.trans f2) S2 ⟨x, xs, rfl, Rep.fut f2 S1' d x R1', R2⟩
      · simp only [e2] at q
        exact q W2 H2 c d (f1'.trans f2) S2 R2
      · simp only [z] at q
        exact q.elim
  · simp only [e1] at q
    exact q
  · simp only [z] at q
    exact q
theorem pk_nilS : PK X [] (tA p Wx aNil) := pk_nil.weak fun σ H Q ⟨W0, H0, W, r, st, G, q⟩ => q W H [] Fut.refl G.ok rfl
theorem pk_consS {f : ESem} {k : Keyword} {kws : List Keyword} (ha : PE X (kwE k) (tE p Wx f)) (hr : PK X kws (tA p Wx al)) : PK X (k :: kws) (tA p Wx (aCons f al)) := by
  obtain ⟨n, e, q⟩ := k
  exact (pk_cons (e := e) ha hr).weak fun _ _ _ => acons_weak
/-- positional values, then the keywords' -/
def aApp (a b : ASem) : ASem := fun r st => match a r st with
  | some (.ok ds st1) => match b r st1 with
    | some (.ok es st2) => some (.ok (ds ++ es) st2)
    | some (.exc x st2) => some (.exc x st2)
    | none => none
  | some (.exc x st1) => some (.exc x st1)
  | none => none
theorem call_run {σ : L2.St} {H : Hp} {Q : VK} (w : tE p Wx (eCall F al) σ H Q) : tA p Wx al σ H fun vs H1 => spF p F vs H1 Q (WE Wx σ) := by
  obtain ⟨W0, H0, W, r, st, G, q⟩ := w
  unfold eCall at q
  refine tA_bind G (fun ds st1 e1 W1 H1 xs f1 S1 R1 G1 => ?_) (fun e st1 e1 => ?_) (fun z => ?_)
  · simp only [e1] at q
    refine ⟨W1, st1, ds, S1, R1, ?_⟩
    cases ez : F ds st1 with
    | none => simp only [ez] at q; exact q.elim
    | some y =>
      simp only [ez] at q
      cases y with
      | ret v st2 => exact fun W' H' x f S R => q W' H' x (f1.trans f) S (R.back fun a => f1.tr a)
      | exc e st2 => exact fun W' H' c d f S R => q W' H' c d (f1.trans f) S R
  · simp only [e1] at q
    exact q
  · simp only [z] at q
    exact q
theorem tA_len {es : List Expr} {σ : L2.St} {H : Hp} {Q : List V → Hp → Prop} {n : Nat} (hl : ∀ r st ds st1, al r st = some (.ok ds st1) → ds.length = n) (h : tA p Wx al σ H Q) : tA p Wx al σ H fun vs H1 => vs.length = n ∧ Q vs H1 := by
  obtain ⟨W0, H0, W, r, st, G, q⟩ := h
  refine ⟨W0, H0, W, r, st, G, ?_⟩
  cases z : al r st with
  | none => rw [z] at q; exact q
  | some y =>
    rw [z] at q
    cases y with
    | ok ds st1 => exact fun W' H' xs f S R => ⟨by rw [R.length]; exact hl r st ds st1 z, q W' H' xs f S R⟩
    | exc e st1 => exact q
theorem args_len : ∀ (fs : List ESem) (r : Rho) (st : Store) (ds : List D) (st1 : Store), argsS fs r st = some (.ok ds st1) → ds.length = fs.length
  | [], r, st, ds, st1, h => by
    unfold argsS aNil at h
    injection h with h
    injection h with h h2
    rw [← h]
    rfl
  | f :: fs, r, st, ds, st1, h => by
    unfold argsS aCons at h
    split at h
    · split at h
      · split at h
        · injection h with h
          injection h with h h2
          rename_i q
          rw [← h, List.length_cons, List.length_cons, args_len fs _ _ _ _ q]
        · cases h
        · cases h
      · cases h
    · cases h
    · cases h
/-- f(e, ..) -/
theorem pe_callS1 {e : Expr} {es : List Expr} {f : ESem} {fs : List ESem} {pp pos : Pos} (c : CallOk X p x (es.length + 1) [] F) (tk : Takes X Wx) (hg : Gl X x) (hdb : (x == ("__debug__" : Str)) = false) (hl : fs.length = es.length)
    (ha : PA X (e :: es) (tA p Wx (argsS (f :: fs)))) (hs : (e :: es).all notStar = true) : PE X (.Call (.Name x pp) (e :: es) [] pos) (tE p Wx (eCall F (argsS (f :: fs)))) := by
  obtain ⟨u, hm, hk, c⟩ := c
  refine ⟨fun pins s σ H Q I h => ?_⟩
  have h2 := tA_len (es := es) (n := es.length + 1) (fun r st ds st1 z => by rw [args_len _ _ _ _ _ z, List.length_cons, hl]) (call_run h)
  have hsn := hs
  rw [List.all_cons, Bool.and_eq_true] at hsn
  refine wpAny_Call_Name_kw (ld_glob I hg hm ?_ hdb)
  refine PySem.W.callWith_K (h₀ := X.base) I.ok.mod.kin hk (thn (ha.run pos pins s σ H _ I h2) fun us s1 ⟨vs, H1, I1, r, q1, q⟩ => ⟨I1.kIn, ?_⟩) (starEach_cons hsn.1) (star_none hsn.2)
  have z := c (WE Wx) pins σ H1 s1 Q us [] vs [] (passAt tk σ) I1 r .nil q1 rfl (by rw [List.append_nil]; exact q)
  exact z
/-- f() -/
theorem pe_callS0 {pp pos : Pos} (c : CallOk X p x 0 [] F) (tk : Takes X Wx) (hg : Gl X x) (hdb : (x == ("__debug__" : Str)) = false) : PE X (.Call (.Name x pp) [] [] pos) (tE p Wx (eCall F aNil)) := by
  obtain ⟨u, hm, hk, c⟩ := c
  refine ⟨fun pins s σ H Q I h => ?_⟩
  have h2 := call_run h
  refine wpAny_Call_Name_kw (ld_glob I hg hm ?_ hdb)
  refine PySem.W.callWith_K0 I.kIn hk ?_
  obtain ⟨W0, H0, W, r, st, G, q⟩ := h2
  have q2 := q W H [] Fut.refl G.ok rfl
  exact c (WE Wx) pins σ H s Q [] [] [] [] (passAt tk σ) I .nil .nil rfl rfl q2
theorem aApp_run {σ : L2.St} {H : Hp} {Q : List V → Hp → Prop} (w : tA p Wx (aApp al kl) σ H Q) : tA p Wx al σ H fun vs H1 => tA p Wx kl σ H1 fun zs H2 => Q (vs ++ zs) H2 := by
  obtain ⟨W0, H0, W, r, st, G, q⟩ := w
  unfold aApp at q
  refine tA_bind G (fun ds st1 e1 W1 H1 xs f1 S1 R1 G1 => ?_) (fun e st1 e1 => ?_) (fun z => ?_)
  · simp only [e1] at q
    refine tA_bind G1 (fun es st2 e2 W2 H2 ys f2 S2 R2 G2 => ?_) (fun e st2 e2 W2 H2 c d f2 S2 R2 => ?_) (fun z => ?_)
    · simp only [e2] at q
      exact q W2 H2 (xs ++ ys) (f1.trans f2) S2 ((RepL.fut f2 S1 _ _ R1).app R2)
    · simp only [e2] at q
      exact q W2 H2 c d (f1.trans f2) S2 R2
    · simp only [z] at q
      exact q.elim
  · simp only [e1] at q
    exact q
  · simp only [z] at q
    exact q
/-- f(e, .., k = v, ..) -/
theorem pe_callS2 {e : Expr} {es : List Expr} {f : ESem} {fs gs : List ESem} {kws : List Keyword} {ks : List Str} {pp pos : Pos} (c : CallOk X p x (es.length + 1) ks F) (tk : Takes X Wx) (hg : Gl X x) (hdb : (x == ("__debug__" : Str)) = false)
    (hl : fs.length = es.length) (hn : kws.map kwName = ks.map some) (hl2 : gs.length = ks.length)
    (ha : PA X (e :: es) (tA p Wx (argsS (f :: fs)))) (hkw : PK X kws (tA p Wx (argsS gs))) (hs : (e :: es).all notStar = true) : PE X (.Call (.Name x pp) (e :: es) kws pos) (tE p Wx (eCall F (aApp (argsS (f :: fs)) (argsS gs)))) := by
  obtain ⟨u, hm, hk, c⟩ := c
  refine ⟨fun pins s σ H Q I h => ?_⟩
  have h1 := aApp_run (call_run h)
  have h2 := tA_len (es := es) (n := es.length + 1) (fun r st ds st1 z => by rw [args_len _ _ _ _ _ z, List.length_cons, hl]) h1
  have hsn := hs
  rw [List.all_cons, Bool.and_eq_true] at hsn
  refine wpAny_Call_Name_kw (ld_glob I hg hm ?_ hdb)
  refine PySem.W.callWith_KW (h₀ := X.base) I.ok.mod.kin hk (kw_all hn) (thn (ha.run pos pins s σ H _ I h2) fun us s1 ⟨vs, H1, I1, r, q1, q⟩ => ?_) (by rw [star_none hs, kw_any hn]; rfl) (starEach_cons hsn.1)
  have h3 := tA_len (es := es) (n := ks.length) (fun r st ds st1 z => by rw [args_len _ _ _ _ _ z, hl2]) q
  refine thn (hkw.run pos pins s1 σ H1 _ I1 h3) fun ws s2 ⟨zs, H2, I2, rz, q2, q3⟩ => ⟨I2.kIn, ?_⟩
  rw [kw_names hn]
  exact c (WE Wx) pins σ H2 s2 Q us ws vs zs (passAt tk σ) I2 r rz q1 q2 q3
/-- f(k = v, ..) -/
theorem pe_callS3 {gs : List ESem} {kws : List Keyword} {ks : List Str} {pp pos : Pos} (c : CallOk X p x 0 ks F) (tk : Takes X Wx) (hg : Gl X x) (hdb : (x == ("__debug__" : Str)) = false) (hn : kws.map kwName = ks.map some) (hl2 : gs.length = ks.length)
    (hkw : PK X kws (tA p Wx (argsS gs))) : PE X (.Call (.Name x pp) [] kws pos) (tE p Wx (eCall F (argsS gs))) := by
  obtain ⟨u, hm, hk, c⟩ := c
  refine ⟨fun pins s σ H Q I h => ?_⟩
  have h3 := tA_len (es := []) (n := ks.length) (fun r st ds st1 z => by rw [args_len _ _ _ _ _ z, hl2]) (call_run h)
  refine wpAny_Call_Name_kw (ld_glob I hg hm ?_ hdb)
  refine PySem.W.callWith_KW0 (h₀ := X.base) I.ok.mod.kin hk (kw_all hn) ?_ (by rw [kw_any hn]; rfl)
  refine thn (hkw.run pos pins s σ H _ I h3) fun ws s2 ⟨zs, H2, I2, rz, q2, q3⟩ => ⟨I2.kIn, ?_⟩
  rw [kw_names hn]
  exact c (WE Wx) pins σ H2 s2 Q [] ws [] zs (passAt tk σ) I2 .nil rz rfl q2 q3
end

/-! ### tests -/
section
variable {X : Cx} {p : Prm} {Wx : WX} {f g h : ESem} {e e1 e2 e3 : Expr} {t u : TSem} {pos : Pos}
theorem rvr_ref {Hs H : Hp} {W : Wd} {x : RV} {v : V} {xs : List D} {st : Store} (h : RVr p Hs W H x v) (e : x.d = .tup xs) : ∃ a vs, v = .ref a ∧ SqT p.K H a vs ∧ RepL p W H xs vs := by
  have z := h.plain (by rw [e]; rfl)
  rw [e] at z
  exact z
theorem isEmpty_rep {W : Wd} {H : Hp} {xs : List D} {vs : List V} (r : RepL p W H xs vs) : vs.isEmpty = xs.isEmpty := by
  have l := r.length
  cases vs <;> cases xs <;> first
    | rfl
    | cases l
/-- truth of what was told -/
theorem tru_of {Hs H : Hp} {W : Wd} {x : RV} {v : V} {st : Store} {b : Bool} (S : SOk p W H st) (h : RVr p Hs W H x v) (e : truth st x = some b) : TruV p.K v H b := by
  have pl : boxD x.d = false → Rep p W H x.d v := h.plain
  unfold truth at e
  cases q : x.d with
  | non =>
    rw [q] at e
    injection e with e
    have z : v = .non := by have := pl (by rw [q]; rfl); rw [q] at this; exact this
    subst z
    exact e.symm
  | bl c =>
    rw [q] at e
    injection e with e
    have z : v = .bl c := by have := pl (by rw [q]; rfl); rw [q] at this; exact this
    subst z
    exact e.symm
  | int i =>
    rw [q] at e
    injection e with e
    have z : v = .int i := by have := pl (by rw [q]; rfl); rw [q] at this; exact this
    subst z
    exact e.symm
  | str s =>
    rw [q] at e
    have z : v = .str s := by have := pl (by rw [q]; rfl); rw [q] at this; exact this
    subst z
    dsimp only at e
    split at e
    · rename_i hl
      injection e with e
      exact ⟨lim_le hl, e.symm⟩
    · cases e
  | tup xs =>
    rw [q] at e
    injection e with e
    obtain ⟨a, vs, rfl, h1, h2⟩ := rvr_ref (st := st) h q
    exact .inr (.inl ⟨vs, h1, by rw [isEmpty_rep h2]; exact e.symm⟩)
  | ins c ns fs => rw [q] at e; cases e
  | dct ks xs => rw [q] at e; cases e
  | lst xs =>
    rw [q] at e
    injection e with e
    obtain ⟨a, vs, rfl, h1, h2⟩ := h.list (xs := xs) S (by unfold asL; rw [q])
    exact .inl ⟨vs, h1, by rw [isEmpty_rep h2]; exact e.symm⟩
  | rol xs =>
    rw [q] at e
    injection e with e
    obtain ⟨a, vs, rfl, h1, h2⟩ := h.list (xs := xs) S (by unfold asL; rw [q])
    exact .inl ⟨vs, h1, by rw [isEmpty_rep h2]; exact e.symm⟩
  | ref n =>
    rw [q] at e
    dsimp only at e
    split at e
    · rename_i xs hx
      injection e with e
      obtain ⟨a, vs, rfl, h1, h2⟩ := h.list (xs := xs) S (by unfold asL; rw [q]; dsimp only; rw [hx])
      exact .inl ⟨vs, h1, by rw [isEmpty_rep h2]; exact e.symm⟩
    · cases e
theorem tval_weak (hK : p.K = X.K) {σ : L2.St} {H : Hp} {Q : Bool → Hp → Prop} (w : tT p Wx (tVal f) σ H Q) : tE p Wx f σ H fun x H' => ∃ k, TruV X.K x H' k ∧ Q k H' := by
  obtain ⟨W0, H0, W, r, st, G, q⟩ := w
  unfold tVal at q
  refine tE_bind G (fun v st1 e1 W1 H1 x f1 S1 R1 G1 => ?_) (fun e st1 e1 => ?_) (fun z => ?_)
  · simp only [e1] at q
    cases ez : truth st1 v with
    | none => rw [ez] at q; exact q.elim
    | some b =>
      rw [ez] at q
      exact ⟨b, hK ▸ tru_of S1 R1 ez, q W1 H1 f1 S1⟩
  · simp only [e1] at q
    exact q
  · simp only [z] at q
    exact q
/-- an expression whose test is its value's truth -/
theorem pt_valS (hK : p.K = X.K) (ha : PE X e (tE p Wx f)) (he : ∀ whole, isTrue e X.env whole = (do let v ← whole; standAt e.pos; holding [v] (truthy v))) : PT X e (tT p Wx (tVal f)) :=
  (pt_truth ha he).weak fun _ _ _ => tval_weak hK
/-- a comparison as a test: its value's truth, the value a truth -/
def tBool (a : ESem) : TSem := fun r st => match a r st with
  | some (.ok (.val (.bl b)) st1) => some (.ok b st1)
  | some (.exc x st1) => some (.exc x st1)
  | _ => none
theorem tbool_weak {σ : L2.St} {H : Hp} {Q : Bool → Hp → Prop} (w : tT p Wx (tBool f) σ H Q) : tE p Wx f σ H fun x H' => ∃ k, x = .bl k ∧ Q k H' := by
  obtain ⟨W0, H0, W, r, st, G, q⟩ := w
  unfold tBool at q
  refine tE_bind G (fun v st1 e1 W1 H1 x f1 S1 R1 G1 => ?_) (fun e st1 e1 => ?_) (fun z => ?_)
  · simp only [e1] at q
    cases v with
    | val d =>
      cases d with
      | bl b => exact ⟨b, R1, q W1 H1 f1 S1⟩
      | _ => exact q.elim
    | _ => exact q.elim
  · simp only [e1] at q
    exact q
  · simp only [z] at q
    exact q
end
end Tz

set_option Elab.async false
set_option linter.all false
set_option maxRecDepth 100000
set_option maxHeartbeats 4000000
/-! Ts4: tests, targets, statements, loops, comprehensions. -/
namespace Tz
open PySem L2 PyProof.Rows
section
variable {X : Cx} {p : Prm} {Wx : WX} {f g h : ESem} {e e1 e2 e3 : Expr} {t u : TSem} {pos : Pos}
theorem pt_cmp2 {op : CmpOp} {fn : Store → RV → RV → Option RV} (ho : OpR X (compareOp op) (r2 p fn)) (ha : PE X e1 (tE p Wx f)) (hb : PE X e2 (tE p Wx g)) (hm : behindInMarks op e2 = false) : PT X (.Compare e1 [op] [e2] pos) (tT p Wx (tBool (eOp2 fn f g))) :=
  (pt_cmpR ho ha hb hm).weak fun _ _ _ w => op2_weak (tbool_weak w)
theorem chain_weak {fn gn : Store → RV → RV → Option RV} {σ : L2.St} {H : Hp} {Q : VK} (w : tE p Wx (eChain fn gn f g h) σ H Q) : tChain (r2 p fn) (r2 p gn) (tE p Wx f) (tE p Wx g) (tE p Wx h) σ H Q := by
  obtain ⟨W0, H0, W, r, st, G, q⟩ := w
  unfold eChain at q
  refine tE_bind G (fun v st1 e1 W1 H1 x f1 S1 R1 G1 => ?_) (fun e st1 e1 => ?_) (fun z => ?_)
  · simp only [e1] at q
    refine tE_bind G1 (fun w st2 e2 W2 H2 y f2 S2 R2 G2 => ?_) (fun e st2 e2 W2 H2 c d f2 S2 R2 => ?_) (fun z => ?_)
    · simp only [e2] at q
      cases ez : fn st2 v w with
      | none => simp only [ez] at q; exact q.elim
      | some z =>
        cases z with
        | fresh d => simp only [ez] at q; exact q.elim
        | peek d => simp only [ez] at q; exact q.elim
        | val d =>
          cases d with
          | bl b =>
            refine ⟨W2, st2, H, v, w, _, S2, R1.fut f2 S1, R2.back fun a => f1.tr a, ez, fun W3 H3 y3 f3 S3 R3 => ?_⟩
            have R3 : y3 = .bl b := R3
            refine ⟨b, R3, ?_⟩
            have R2' := R2.fut f3 S2
            have G3 := G2.to f3 S3
            cases b with
            | false =>
              simp only [ez] at q
              rw [if_neg Bool.false_ne_true]
              exact q W3 H3 _ (f1.trans (f2.trans f3)) S3 rfl
            | true =>
              simp only [ez] at q
              rw [if_pos rfl]
              refine tE_bind G3 (fun x3 st3 e3 W4 H4 z3 f4 S4 R4 G4 => ?_) (fun e st3 e3 W4 H4 c d f4 S4 R4 => ?_) (fun z => ?_)
              · simp only [e3] at q
                cases ey : gn st3 w x3 with
                | none => rw [ey] at q; exact q.elim
                | some y4 =>
                  rw [ey] at q
                  exact ⟨W4, st3, H, w, x3, y4, S4, (R2'.fut f4 S3).back fun a => f1.tr a, R4.back fun a h => f3.tr a (f2.trans Fut.refl |>.tr a (f1.tr a h)), ey, fun W5 H5 y5 f5 S5 R5 =>
                    q W5 H5 y5 (f1.trans (f2.trans (f3.trans (f4.trans f5)))) S5 (R5.back fun a h => f4.tr a (f3.tr a (f2.tr a (f1.tr a h))))⟩
              · simp only [e3] at q
                exact q W4 H4 c d (f1.trans (f2.trans (f3.trans f4))) S4 R4
              · simp only [z] at q
                exact q.elim
          | _ => simp only [ez] at q; exact q.elim
    · simp only [e2] at q
      exact q W2 H2 c d (f1.trans f2) S2 R2
    · simp only [z] at q
      exact q.elim
  · simp only [e1] at q
    exact q
  · simp only [z] at q
    exact q
theorem pe_chain3 {op op' : CmpOp} {fn gn : Store → RV → RV → Option RV} (ho : OpR X (compareOp op) (r2 p fn)) (ho' : OpR X (compareOp op') (r2 p gn)) (ha : PE X e1 (tE p Wx f)) (hb : PE X e2 (tE p Wx g)) (hc : PE X e3 (tE p Wx h))
    (hm : lastMarks [op, op'] [e2, e3] = false) : PE X (.Compare e1 [op, op'] [e2, e3] pos) (tE p Wx (eChain fn gn f g h)) := (pe_chain ho ho' ha hb hc hm).weak fun _ _ _ => chain_weak
theorem pt_chain3 {op op' : CmpOp} {fn gn : Store → RV → RV → Option RV} (ho : OpR X (compareOp op) (r2 p fn)) (ho' : OpR X (compareOp op') (r2 p gn)) (ha : PE X e1 (tE p Wx f)) (hb : PE X e2 (tE p Wx g)) (hc : PE X e3 (tE p Wx h))
    (hm : lastMarks [op, op'] [e2, e3] = false) : PT X (.Compare e1 [op, op'] [e2, e3] pos) (tT p Wx (tBool (eChain fn gn f g h))) := (pt_chain ho ho' ha hb hc hm).weak fun _ _ _ w => chain_weak (tbool_weak w)
theorem pt_notS (ha : PT X e (tT p Wx t)) : PT X (.UnaryOp .Not e pos) (tT p Wx (tNotS t)) := by
  refine (pt_not ha).weak fun σ H Q ⟨W0, H0, W, r, st, G, q⟩ => ?_
  unfold tNotS at q
  refine tT_bind G (fun b st1 e1 W1 H1 f1 S1 G1 => ?_) (fun e st1 e1 => ?_) (fun z => ?_)
  · simp only [e1] at q
    exact q W1 H1 f1 S1
  · simp only [e1] at q
    exact q
  · simp only [z] at q
    exact q
theorem pw_and1S (ha : PT X e (tT p Wx t)) : PW X (.BoolOp .And [e] pos) (tT p Wx t) := pw_and1 ha
theorem pw_or1S (ha : PT X e (tT p Wx t)) : PW X (.BoolOp .Or [e] pos) (tT p Wx t) := pw_or1 ha
theorem pw_andS {es : List Expr} (ha : PT X e1 (tT p Wx t)) (hb : PW X (.BoolOp .And (e2 :: es) pos) (tT p Wx u)) : PW X (.BoolOp .And (e1 :: e2 :: es) pos) (tT p Wx (tAndS t u)) := by
  refine (pw_and ha hb).weak fun σ H Q ⟨W0, H0, W, r, st, G, q⟩ => ?_
  unfold tAndS at q
  refine tT_bind G (fun b st1 e1 W1 H1 f1 S1 G1 => ?_) (fun e st1 e1 => ?_) (fun z => ?_)
  · simp only [e1] at q
    cases b with
    | false =>
      rw [if_neg Bool.false_ne_true]
      exact q W1 H1 f1 S1
    | true =>
      rw [if_pos rfl]
      refine tT_bind G1 (fun b st2 e2 W2 H2 f2 S2 G2 => ?_) (fun e st2 e2 W2 H2 c d f2 S2 R2 => ?_) (fun z => ?_)
      · simp only [e2] at q
        exact q W2 H2 (f1.trans f2) S2
      · simp only [e2] at q
        exact q W2 H2 c d (f1.trans f2) S2 R2
      · simp only [z] at q
        exact q.elim
  · simp only [e1] at q
    exact q
  · simp only [z] at q
    exact q
theorem pw_orS {es : List Expr} (ha : PT X e1 (tT p Wx t)) (hb : PW X (.BoolOp .Or (e2 :: es) pos) (tT p Wx u)) : PW X (.BoolOp .Or (e1 :: e2 :: es) pos) (tT p Wx (tOrS t u)) := by
  refine (pw_or ha hb).weak fun σ H Q ⟨W0, H0, W, r, st, G, q⟩ => ?_
  unfold tOrS at q
  refine tT_bind G (fun b st1 e1 W1 H1 f1 S1 G1 => ?_) (fun e st1 e1 => ?_) (fun z => ?_)
  · simp only [e1] at q
    cases b with
    | true =>
      rw [if_pos rfl]
      exact q W1 H1 f1 S1
    | false =>
      rw [if_neg Bool.false_ne_true]
      refine tT_bind G1 (fun b st2 e2 W2 H2 f2 S2 G2 => ?_) (fun e st2 e2 W2 H2 c d f2 S2 R2 => ?_) (fun z => ?_)
      · simp only [e2] at q
        exact q W2 H2 (f1.trans f2) S2
      · simp only [e2] at q
        exact q W2 H2 c d (f1.trans f2) S2 R2
      · simp only [z] at q
        exact q.elim
  · simp only [e1] at q
    exact q
  · simp only [z] at q
    exact q
theorem pe_notS (hK : p.K = X.K) (ha : PE X e (tE p Wx f)) : PE X (.UnaryOp .Not e pos) (tE p Wx (eTest (tNotS (tVal f)))) := by
  refine (pe_notT ha).weak fun σ H Q ⟨W0, H0, W, r, st, G, q⟩ => ?_
  refine tval_weak hK ⟨W0, H0, W, r, st, G, ?_⟩
  unfold eTest tNotS at q
  cases z : tVal f r st with
  | none => simp only [z] at q; exact q
  | some y =>
    cases y with
    | ok b st1 =>
      simp only [z] at q
      exact fun W' H' f1 S1 => q W' H' _ f1 S1 rfl
    | exc e st1 =>
      simp only [z] at q
      exact q
theorem pe_andS {es : List Expr} (ha : PE X e1 (tE p Wx f)) (hb : PE X (.BoolOp .And (e2 :: es) pos) (tE p Wx g)) : PE X (.BoolOp .And (e1 :: e2 :: es) pos) (tE p Wx (eAndS f g)) := by
  refine (pe_and ha hb).weak fun σ H Q ⟨W0, H0, W, r, st, G, q⟩ => ?_
  unfold eAndS at q
  refine tE_bind G (fun v st1 e1 W1 H1 x f1 S1 R1 G1 => ?_) (fun e st1 e1 => ?_) (fun z => ?_)
  · simp only [e1] at q
    cases v with
    | fresh d => exact q.elim
    | peek d => exact q.elim
    | val d =>
      cases d with
      | bl b =>
        refine ⟨b, R1, ?_⟩
        cases b with
        | false =>
          rw [if_neg Bool.false_ne_true]
          exact q W1 H1 _ f1 S1 rfl
        | true =>
          rw [if_pos rfl]
          refine tE_bind G1 (fun w st2 e2 W2 H2 y f2 S2 R2 G2 => ?_) (fun e st2 e2 W2 H2 c d f2 S2 R2 => ?_) (fun z => ?_)
          · simp only [e2] at q
            exact q W2 H2 y (f1.trans f2) S2 (R2.back fun a => f1.tr a)
          · simp only [e2] at q
            exact q W2 H2 c d (f1.trans f2) S2 R2
          · simp only [z] at q
            exact q.elim
      | _ => exact q.elim
  · simp only [e1] at q
    exact q
  · simp only [z] at q
    exact q
theorem pe_orS {es : List Expr} (ha : PE X e1 (tE p Wx f)) (hb : PE X (.BoolOp .Or (e2 :: es) pos) (tE p Wx g)) : PE X (.BoolOp .Or (e1 :: e2 :: es) pos) (tE p Wx (eOrS f g)) := by
  refine (pe_or ha hb).weak fun σ H Q ⟨W0, H0, W, r, st, G, q⟩ => ?_
  unfold eOrS at q
  refine tE_bind G (fun v st1 e1 W1 H1 x f1 S1 R1 G1 => ?_) (fun e st1 e1 => ?_) (fun z => ?_)
  · simp only [e1] at q
    cases v with
    | fresh d => exact q.elim
    | peek d => exact q.elim
    | val d =>
      cases d with
      | bl b =>
        refine ⟨b, R1, ?_⟩
        cases b with
        | true =>
          rw [if_pos rfl]
          exact q W1 H1 _ f1 S1 rfl
        | false =>
          rw [if_neg Bool.false_ne_true]
          refine tE_bind G1 (fun w st2 e2 W2 H2 y f2 S2 R2 G2 => ?_) (fun e st2 e2 W2 H2 c d f2 S2 R2 => ?_) (fun z => ?_)
          · simp only [e2] at q
            exact q W2 H2 y (f1.trans f2) S2 (R2.back fun a => f1.tr a)
          · simp only [e2] at q
            exact q W2 H2 c d (f1.trans f2) S2 R2
          · simp only [z] at q
            exact q.elim
      | _ => exact q.elim
  · simp only [e1] at q
    exact q
  · simp only [z] at q
    exact q
theorem pe_ifS (hc : PT X e1 (tT p Wx t)) (ha : PE X e2 (tE p Wx f)) (hb : PE X e3 (tE p Wx g)) : PE X (.IfExp e1 e2 e3 pos) (tE p Wx (eIf t f g)) := by
  refine (pe_ifExp hc ha hb).weak fun σ H Q ⟨W0, H0, W, r, st, G, q⟩ => ?_
  unfold eIf at q
  refine tT_bind G (fun b st1 e1 W1 H1 f1 S1 G1 => ?_) (fun e st1 e1 => ?_) (fun z => ?_)
  · simp only [e1] at q
    have go : ∀ {k : ESem}, okE p Wx W σ H Q (k r st1) → tE p Wx k σ H1 Q := fun {k} q => by
      refine tE_bind G1 (fun w st2 e2 W2 H2 y f2 S2 R2 G2 => ?_) (fun e st2 e2 W2 H2 c d f2 S2 R2 => ?_) (fun z => ?_)
      · rw [e2] at q
        exact q W2 H2 y (f1.trans f2) S2 (R2.back fun a => f1.tr a)
      · rw [e2] at q
        exact q W2 H2 c d (f1.trans f2) S2 R2
      · rw [z] at q
        exact q
    cases b with
    | true =>
      rw [if_pos rfl]
      exact go q
    | false =>
      rw [if_neg Bool.false_ne_true]
      exact go q
  · simp only [e1] at q
    exact q
  · simp only [z] at q
    exact q
end

/-! ### targets: us, the slots that they store at -/
def okG (p : Prm) (W0 : Wd) (H0 : Hp) (W : Wd) (σ : L2.St) (H : Hp) (us : List Nat) (Q : L2.St → Hp → Prop) : Option (Rho × Store) → Prop
  | none => False
  | some (r', st') => ∀ W' σ' H', Fut W H W' H' → Good p W0 H0 W' σ' H' r' st' → (∀ j, j ∉ us → σ'[j]? = σ[j]?) → σ'.length = σ.length → Q σ' H'
def tG (p : Prm) (g : TgSem) (us : List Nat) : TG := fun v σ H Q => ∃ W0 H0 Hs W r st x, Good p W0 H0 W σ H r st ∧ RVr p Hs W H x v ∧ (∀ b, H0 b ≠ none → Hs b ≠ none) ∧
  (∀ (i : Nat) d a, r[i]? = some (.own d) → σ[i]? = some (some (.ref a)) → Hs a ≠ none) ∧ okG p W0 H0 W σ H us Q (g x r st)
section
variable {X : Cx} {p : Prm} {Wx : WX} {pos : Pos} {W0 W : Wd} {H0 H Hs : Hp} {σ : L2.St} {r : Rho} {st : Store}
theorem _root_.L2.PG.weak {tg : Expr} {t t' : TG} (h : PG X tg t) (w : ∀ v σ H Q, t' v σ H Q → t v σ H Q) : PG X tg t' := ⟨fun pins s σ H v u Q I r q => h.run pins s σ H v u Q I r (w v σ H Q q)⟩
theorem _root_.L2.PGs.weak {tg : List Expr} {t t' : TGs} (h : PGs X tg t) (w : ∀ v σ H Q, t' v σ H Q → t v σ H Q) : PGs X tg t' := ⟨fun pins s σ H v u Q I r q => h.run pins s σ H v u Q I r (w v σ H Q q)⟩
theorem get_set {α : Type} {l : List α} {i j : Nat} {x y : α} (h : (l.set i x)[j]? = some y) : (j = i ∧ x = y) ∨ (j ≠ i ∧ l[j]? = some y) := by
  by_cases e : i = j
  · subst e
    rw [List.getElem?_set_self'] at h
    cases q : l[i]? with
    | none => rw [q] at h; cases h
    | some z => rw [q] at h; injection h with h; exact .inl ⟨rfl, h⟩
  · rw [List.getElem?_set_ne e] at h
    exact .inr ⟨fun z => e z.symm, h⟩
/-- a slot stored -/
theorem Good.setVal (G : Good p W0 H0 W σ H r st) {i : Nat} {d : D} {v : V} (hv : Rep p W H d v) : Good p W0 H0 W (σ.set i (some v)) H (r.set i (.val d)) st where
  fut := G.fut
  ok := G.ok
  len := by rw [List.length_set, List.length_set]; exact G.len
  val := fun j e h => by
    rcases get_set h with ⟨e1, e2⟩ | ⟨e1, e2⟩
    · injection e2 with e2
      subst e1 e2
      have hl := (List.getElem?_eq_some_iff.mp h).1
      rw [List.length_set, ← G.len] at hl
      exact ⟨v, List.getElem?_set_self hl, hv⟩
    · obtain ⟨w, h1, h2⟩ := G.val j e e2
      exact ⟨w, by rw [List.getElem?_set_ne (Ne.symm e1)]; exact h1, h2⟩
  own := fun j e h => by
    rcases get_set h with ⟨e1, e2⟩ | ⟨e1, e2⟩
    · cases e2
    · obtain ⟨a, h1, h2⟩ := G.own j e e2
      exact ⟨a, by rw [List.getElem?_set_ne (Ne.symm e1)]; exact h1, h2⟩
  one := fun j k d' e' a h1 h2 h3 h4 => by
    rcases get_set h1 with ⟨e1, e2⟩ | ⟨e1, e2⟩
    · cases e2
    · rcases get_set h2 with ⟨k1, k2⟩ | ⟨k1, k2⟩
      · cases k2
      · rw [List.getElem?_set_ne (Ne.symm e1)] at h3
        rw [List.getElem?_set_ne (Ne.symm k1)] at h4
        exact G.one j k d' e' a e2 k2 h3 h4
theorem Good.setOwn (G : Good p W0 H0 W σ H r st) {i : Nat} {d : D} {a : Addr} (h1 : RepC p W H d a) (h2 : ¬ W.F a) (h3 : ∀ k, k < W.n → W.mu k ≠ a) (h4 : H0 a = none)
    (h5 : ∀ (j : Nat) e, j ≠ i → r[j]? = some (.own e) → σ[j]? ≠ some (some (.ref a))) : Good p W0 H0 W (σ.set i (some (.ref a))) H (r.set i (.own d)) st where
  fut := G.fut
  ok := G.ok
  len := by rw [List.length_set, List.length_set]; exact G.len
  val := fun j e h => by
    rcases get_set h with ⟨e1, e2⟩ | ⟨e1, e2⟩
    · cases e2
    · obtain ⟨w, h1, h2⟩ := G.val j e e2
      exact ⟨w, by rw [List.getElem?_set_ne (Ne.symm e1)]; exact h1, h2⟩
  own := fun j e h => by
    rcases get_set h with ⟨e1, e2⟩ | ⟨e1, e2⟩
    · injection e2 with e2
      subst e1 e2
      have hl := (List.getElem?_eq_some_iff.mp h).1
      rw [List.length_set, ← G.len] at hl
      exact ⟨a, List.getElem?_set_self hl, h1, h2, h3, h4⟩
    · obtain ⟨b, k1, k2⟩ := G.own j e e2
      exact ⟨b, by rw [List.getElem?_set_ne (Ne.symm e1)]; exact k1, k2⟩
  one := fun j k d' e' b g1 g2 g3 g4 => by
    rcases get_set g1 with ⟨e1, e2⟩ | ⟨e1, e2⟩
    · rcases get_set g2 with ⟨k1, k2⟩ | ⟨k1, k2⟩
      · rw [e1, k1]
      · have hl := (List.getElem?_eq_some_iff.mp g1).1
        rw [List.length_set, ← G.len] at hl
        subst e1
        rw [List.getElem?_set_self hl] at g3
        injection g3 with g3
        injection g3 with g3
        injection g3 with g3
        rw [List.getElem?_set_ne (Ne.symm k1), ← g3] at g4
        exact absurd g4 (h5 k e' k1 k2)
    · rcases get_set g2 with ⟨k1, k2⟩ | ⟨k1, k2⟩
      · have hl := (List.getElem?_eq_some_iff.mp g2).1
        rw [List.length_set, ← G.len] at hl
        subst k1
        rw [List.getElem?_set_self hl] at g4
        injection g4 with g4
        injection g4 with g4
        injection g4 with g4
        rw [List.getElem?_set_ne (Ne.symm e1), ← g4] at g3
        exact absurd g3 (h5 j d' e1 e2)
      · rw [List.getElem?_set_ne (Ne.symm e1)] at g3
        rw [List.getElem?_set_ne (Ne.symm k1)] at g4
        exact G.one j k d' e' b e2 k2 g3 g4
/-- a list that a slot owns, changed -/
theorem pg_stuck {tg : Expr} {us : List Nat} : PG X tg (tG p gStuck us) := ⟨fun _ _ _ _ _ _ _ _ _ ⟨_, _, _, _, _, _, _, _, _, _, _, z⟩ => z.elim⟩
theorem set_other {i : Nat} {v : Option V} : (∀ j, j ∉ [i] → (σ.set i v)[j]? = σ[j]?) ∧ (σ.set i v).length = σ.length :=
  ⟨fun j hj => List.getElem?_set_ne (fun z => hj (by simp [z])), List.length_set⟩
theorem gvar_run {i : Nat} {v : V} {Q : L2.St → Hp → Prop} (w : tG p (gVar i) [i] v σ H Q) : gName i v σ H Q := by
  obtain ⟨W0, H0, Hs, W, r, st, x, G, R, hb, ho, q⟩ := w
  cases x with
  | val d => exact q W _ _ Fut.refl (G.setVal R) set_other.1 set_other.2
  | peek d => exact q.elim
  | fresh d =>
    obtain ⟨a, rfl, h1, h2, h3, h4⟩ := R
    refine q W _ _ Fut.refl (G.setOwn h1 h2 h3 ?_ fun j e hj he z => ho j e a he z h4) set_other.1 set_other.2
    cases z : H0 a with
    | none => rfl
    | some o => exact absurd h4 (hb a (some_ne z))
theorem pg_var {i : Nat} {x : Str} (h : PG X (.Name x pos) (gName i)) : PG X (.Name x pos) (tG p (gVar i) [i]) := h.weak fun _ _ _ _ => gvar_run
/-- several targets -/
def tGs (p : Prm) (gs : List TgSem) (us : List Nat) : TGs := fun vs σ H Q => ∃ W0 H0 W r st ds, Good p W0 H0 W σ H r st ∧ RepL p W H ds vs ∧ okG p W0 H0 W σ H us Q (gList gs ds r st)
theorem pgs_nilS : PGs X [] (tGs p [] []) := by
  refine pgs_nil.weak fun vs σ H Q ⟨W0, H0, W, r, st, ds, G, R, q⟩ => ?_
  cases ds with
  | nil =>
    have R : vs = [] := R
    exact ⟨R, q W σ H Fut.refl G (fun _ _ => rfl) rfl⟩
  | cons d ds => exact q.elim
theorem pgs_consS {tg : Expr} {ts : List Expr} {g : TgSem} {gs : List TgSem} {us vs' : List Nat} (h1 : PG X tg (tG p g us)) (h2 : PGs X ts (tGs p gs vs')) (hs : (assignEach (tg :: ts) X.env).map (·.2) = assign tg X.env :: (assignEach ts X.env).map (·.2)) : PGs X (tg :: ts) (tGs p (g :: gs) (us ++ vs')) := by
  refine (pgs_cons h1 h2 hs).weak fun vs σ H Q ⟨W0, H0, W, r, st, ds, G, R, q⟩ => ?_
  cases ds with
  | nil => exact q.elim
  | cons d ds =>
    obtain ⟨v, vr, rfl, R1, R2⟩ := R
    refine ⟨v, vr, rfl, W0, H0, H, W, r, st, .val d, G, R1, fun b z => G.fut.tr b z, fun i e a he hσ => ?_, ?_⟩
    · obtain ⟨b, k1, k2, _⟩ := G.own i e he
      rw [hσ] at k1
      injection k1 with k1
      injection k1 with k1
      injection k1 with k1
      subst k1
      obtain ⟨o, ho⟩ := k2.some
      exact some_ne ho
    · unfold gList at q
      cases z : g (.val d) r st with
      | none => rw [z] at q; exact q
      | some y =>
        rw [z] at q
        obtain ⟨r1, st1⟩ := y
        intro W1 σ1 H1 f1 G1 c1 l1
        refine ⟨W0, H0, W1, r1, st1, ds, G1, RepL.fut f1 G.ok ds vr R2, ?_⟩
        have q' : okG p W0 H0 W σ H (us ++ vs') Q (gList gs ds r1 st1) := q
        cases z2 : gList gs ds r1 st1 with
        | none => rw [z2] at q'; exact q'
        | some y2 =>
          rw [z2] at q'
          exact fun W2 σ2 H2 f2 G2 c2 l2 => q' W2 σ2 H2 (f1.trans f2) G2 (fun j hj => by
            rw [List.mem_append, not_or] at hj
            rw [c2 j hj.2, c1 j hj.1]) (l2.trans l1)
theorem pg_tupS {es : List Expr} {k : Nat} {gs : List TgSem} {us : List Nat} (hK : p.K = X.K) (hc : X.calm = true) (h : PGs X es (tGs p gs us)) (hl : gs.length = es.length) (hn : (assignEach es X.env).length = es.length) (hst : (assignEach es X.env).findIdx? (·.1) = none) :
    PG X (.Tuple es k pos) (tG p (gTupS gs) us) := by
  refine (pg_tup hc h hn hst).weak fun v σ H Q ⟨W0, H0, Hs, W, r, st, x, G, R, hb, ho, q⟩ => ?_
  cases x with
  | fresh d => exact q.elim
  | peek d => exact q.elim
  | val d =>
    cases d with
    | tup ds =>
      obtain ⟨a, vs, rfl, h1, h2⟩ := R
      have q : okG p W0 H0 W σ H us Q (if ds.length = gs.length then gList gs ds r st else none) := q
      by_cases hd : ds.length = gs.length
      · rw [if_pos hd] at q
        exact ⟨a, vs, rfl, hK ▸ h1, by rw [h2.length, hd, hl], W0, H0, W, r, st, ds, G, h2, q⟩
      · rw [if_neg hd] at q
        exact q.elim
    | _ => exact q.elim
end

/-! ### statements -/
def okS (p : Prm) (Wx : WX) (W0 : Wd) (H0 : Hp) (W : Wd) (H : Hp) (D : Ends) : Option SR → Prop
  | none => False
  | some (.nx r' st') => ∀ W' σ' H', Fw W H W' H' → Good p W0 H0 W' σ' H' r' st' → D.nx σ' H'
  | some (.bk r' st') => ∀ W' σ' H', Fw W H W' H' → Good p W0 H0 W' σ' H' r' st' → D.bk σ' H'
  | some (.ct r' st') => ∀ W' σ' H', Fw W H W' H' → Good p W0 H0 W' σ' H' r' st' → D.ct σ' H'
  | some (.rt v st') => ∀ W' H' x, Fut W0 H0 W' H' → SOk p W' H' st' → RVr p H0 W' H' v x → D.rt x H'
  | some (.exc e r' st') => ∀ W' σ' H' c d, Fw W H W' H' → Good p W0 H0 W' σ' H' r' st' → RepEx p W' H' e c d → Wx c d σ' H'
theorem okS.from {p : Prm} {Wx : WX} {W0 W W1 : Wd} {H0 H H1 : Hp} {D : Ends} {o : Option SR} (f : Fw W H W1 H1) (q : okS p Wx W0 H0 W H D o) : okS p Wx W0 H0 W1 H1 D o := by
  cases o with
  | none => exact q
  | some o =>
    cases o with
    | nx r st => exact fun W' σ' H' g G => q W' σ' H' (f.trans g) G
    | bk r st => exact fun W' σ' H' g G => q W' σ' H' (f.trans g) G
    | ct r st => exact fun W' σ' H' g G => q W' σ' H' (f.trans g) G
    | rt v st => exact q
    | exc e r st => exact fun W' σ' H' c d g G R => q W' σ' H' c d (f.trans g) G R
def tS (p : Prm) (Wx : WX) (f : SSem) : TS := fun D σ H => ∃ W0 H0 W r st, Good p W0 H0 W σ H r st ∧ okS p Wx W0 H0 W H D (f r st)
section
variable {X : Cx} {p : Prm} {Wx : WX} {pos : Pos} {f g : ESem} {a b : SSem} {t : TSem} {s1 : Stmt} {ss : List Stmt} {e e1 e2 : Expr}
theorem _root_.L2.PS.weak {st : Stmt} {t t' : TS} (h : PS X st t) (w : ∀ D σ H, t' D σ H → t D σ H) : PS X st t' := ⟨fun pins s σ H D I q => h.run pins s σ H D I (w D σ H q)⟩
theorem _root_.L2.PSs.weak {st : List Stmt} {t t' : TS} (h : PSs X st t) (w : ∀ D σ H, t' D σ H → t D σ H) : PSs X st t' := ⟨fun pins s σ H D I q => h.run pins s σ H D I (w D σ H q)⟩
theorem ps_stuck : PS X s1 (tS p Wx sStuck) := ⟨fun _ _ _ _ _ _ ⟨_, _, _, _, _, _, z⟩ => z.elim⟩
theorem pss_stuck : PSs X ss (tS p Wx sStuck) := ⟨fun _ _ _ _ _ _ ⟨_, _, _, _, _, _, z⟩ => z.elim⟩
theorem pss_nilS : PSs X [] (tS p Wx sNext) := pss_nil.weak fun D σ H ⟨W0, H0, W, r, st, G, q⟩ => q W σ H Fw.refl G
theorem seq_weak {D : Ends} {σ : L2.St} {H : Hp} (w : tS p Wx (sSeq a b) D σ H) : tSeq (tS p Wx a) (tS p Wx b) D σ H := by
  obtain ⟨W0, H0, W, r, st, G, q⟩ := w
  refine ⟨W0, H0, W, r, st, G, ?_⟩
  unfold sSeq at q
  cases z : a r st with
  | none => rw [z] at q; exact q
  | some o =>
    rw [z] at q
    cases o with
    | nx r1 st1 => exact fun W1 σ1 H1 f1 G1 => ⟨W0, H0, W1, r1, st1, G1, okS.from f1 q⟩
    | bk r1 st1 => exact q
    | ct r1 st1 => exact q
    | rt v st1 => exact q
    | exc e r1 st1 => exact q
theorem pss_consS (h1 : PS X s1 (tS p Wx a)) (h2 : PSs X ss (tS p Wx b)) : PSs X (s1 :: ss) (tS p Wx (sSeq a b)) := (pss_cons h1 h2).weak fun _ _ _ => seq_weak
theorem pss_oneS (h1 : PS X s1 (tS p Wx a)) : PSs X [s1] (tS p Wx a) := pss_one h1
theorem ps_passS : PS X (.Pass pos) (tS p Wx sNext) := ps_pass.weak fun D σ H ⟨W0, H0, W, r, st, G, q⟩ => q W σ H Fw.refl G
theorem ps_breakS : PS X (.Break pos) (tS p Wx sBreak) := ps_break.weak fun D σ H ⟨W0, H0, W, r, st, G, q⟩ => q W σ H Fw.refl G
theorem ps_contS : PS X (.Continue pos) (tS p Wx sCont) := ps_continue.weak fun D σ H ⟨W0, H0, W, r, st, G, q⟩ => q W σ H Fw.refl G
theorem ps_exprS (he : PE X e (tE p Wx f)) (hs : swapsWith e none pos.line X.env = pure false) : PS X (.Expr e pos) (tS p Wx (sDrop f)) := by
  refine (ps_expr he hs).weak fun D σ H ⟨W0, H0, W, r, st, G, q⟩ => ?_
  unfold sDrop at q
  refine tE_bind G (fun v st1 e1 W1 H1 x f1 S1 R1 G1 => ?_) (fun e st1 e1 W1 H1 c d f1 S1 R1 => ?_) (fun z => ?_)
  · simp only [e1] at q
    exact q W1 σ H1 (f1.fw G.ok) G1
  · simp only [e1] at q
    exact q W1 σ H1 c d (f1.fw G.ok) (G.to f1 S1) R1
  · simp only [z] at q
    exact q
theorem ps_retS (he : PE X e (tE p Wx f)) : PS X (.Return (some e) pos) (tS p Wx (sRet f)) := by
  refine (ps_ret he).weak fun D σ H ⟨W0, H0, W, r, st, G, q⟩ => ?_
  unfold sRet at q
  refine tE_bind G (fun v st1 e1 W1 H1 x f1 S1 R1 G1 => ?_) (fun e st1 e1 W1 H1 c d f1 S1 R1 => ?_) (fun z => ?_)
  · simp only [e1] at q
    cases v with
    | val d => exact q W1 H1 x (G.fut.trans f1) S1 (R1.back fun a => G.fut.tr a)
    | fresh d => exact q W1 H1 x (G.fut.trans f1) S1 (R1.back fun a => G.fut.tr a)
    | peek d => exact q.elim
  · simp only [e1] at q
    exact q W1 σ H1 c d (f1.fw G.ok) (G.to f1 S1) R1
  · simp only [z] at q
    exact q
theorem ps_retVS {i : Nat} (he : PE X e (tVar i)) : PS X (.Return (some e) pos) (tS p Wx (sRetV i)) := by
  refine (ps_ret he).weak fun D σ H ⟨W0, H0, W, r, st, G, q⟩ => ?_
  unfold sRetV at q
  cases z : r[i]? with
  | none => rw [z] at q; exact q.elim
  | some s =>
    rw [z] at q
    cases s with
    | no => exact q.elim
    | val d =>
      obtain ⟨v, h1, h2⟩ := G.val i d z
      exact ⟨v, h1, q W H v G.fut G.ok h2⟩
    | own d =>
      obtain ⟨b, h1, h2, h3, h4, h5⟩ := G.own i d z
      exact ⟨_, h1, q W H _ G.fut G.ok ⟨b, rfl, h2, h3, h4, h5⟩⟩
theorem ps_retNS : PS X (.Return none pos) (tS p Wx sRetN) := ps_retN.weak fun D σ H ⟨W0, H0, W, r, st, G, q⟩ => q W H .non G.fut G.ok rfl
/-- where an expression's end meets a target -/
theorem to_target {W0 W W1 : Wd} {H0 H H1 : Hp} {σ : L2.St} {r : Rho} {st st1 : Store} (G : Good p W0 H0 W σ H r st) (f1 : Fut W H W1 H1) (S1 : SOk p W1 H1 st1) {x : RV} {v : V} (R : RVr p H W1 H1 x v) {gs : TgSem} {us : List Nat} {Q : L2.St → Hp → Prop}
    (q : okG p W0 H0 W σ H us Q (gs x r st1)) : tG p gs us v σ H1 Q := by
  refine ⟨W0, H0, H, W1, r, st1, x, G.to f1 S1, R, fun b z => G.fut.tr b z, fun i d a he hσ => ?_, ?_⟩
  · obtain ⟨b, k1, k2, _⟩ := G.own i d he
    rw [hσ] at k1
    injection k1 with k1
    injection k1 with k1
    injection k1 with k1
    subst k1
    obtain ⟨o, ho⟩ := k2.some
    exact some_ne ho
  · cases z : gs x r st1 with
    | none => rw [z] at q; exact q
    | some y =>
      rw [z] at q
      exact fun W' σ' H' g G' => q W' σ' H' (f1.trans g) G'
theorem asg_weak {gs : TgSem} {us : List Nat} {D : Ends} {σ : L2.St} {H : Hp} (w : tS p Wx (sAsg f gs) D σ H) : tAsg (tE p Wx f) (tG p gs us) D σ H := by
  obtain ⟨W0, H0, W, r, st, G, q⟩ := w
  unfold sAsg at q
  refine tE_bind G (fun v st1 e1 W1 H1 x f1 S1 R1 G1 => ?_) (fun e st1 e1 W1 H1 c d f1 S1 R1 => ?_) (fun z => ?_)
  · simp only [e1] at q
    refine to_target G f1 S1 R1 ?_
    cases z : gs v r st1 with
    | none => rw [z] at q; exact q
    | some y =>
      rw [z] at q
      exact fun W' σ' H' g G' _ _ => q W' σ' H' (g.fw G.ok) G'
  · simp only [e1] at q
    exact q W1 σ H1 c d (f1.fw G.ok) (G.to f1 S1) R1
  · simp only [z] at q
    exact q
theorem ps_asgS {tg : Expr} {gs : TgSem} {us : List Nat} (he : PE X e (tE p Wx f)) (hg : PG X tg (tG p gs us)) (hs : swapsWithSole [tg] e pos.line X.env = pure false) (hw : swappedStores [tg] e X.env = pure none) (h1 : (assignEach [tg] X.env).map (·.2) = [assign tg X.env]) :
    PS X (.Assign [tg] e pos) (tS p Wx (sAsg f gs)) := (ps_asg he hg hs hw h1).weak fun _ _ _ => asg_weak
theorem ps_setS {i : Nat} {x : Str} {pos' : Pos} (h : ∀ te : TE, PE X e te → PS X (.Assign [.Name x pos'] e pos) (tAsg te (gName i))) (he : PE X e (tE p Wx f)) : PS X (.Assign [.Name x pos'] e pos) (tS p Wx (sAsg f (gVar i))) :=
  (h _ he).weak fun D σ H w => by
    obtain ⟨W0, H0, W, r, st, G, q⟩ := asg_weak (us := [i]) w
    refine ⟨W0, H0, W, r, st, G, ?_⟩
    cases z : f r st with
    | none => rw [z] at q; exact q
    | some y =>
      rw [z] at q
      cases y with
      | ok v st1 => exact fun W1 H1 x f1 S1 R1 => gvar_run (q W1 H1 x f1 S1 R1)
      | exc e st1 => exact q
theorem par_weak {i j : Nat} {D : Ends} {σ : L2.St} {H : Hp} (w : tS p Wx (sPar2 i j f g) D σ H) : tCons (tE p Wx f) (tCons (tE p Wx g) tNil) σ H fun vs H1 => ∃ v w, vs = [v, w] ∧ D.nx ((σ.set i (some v)).set j (some w)) H1 := by
  obtain ⟨W0, H0, W, r, st, G, q⟩ := w
  unfold sPar2 at q
  refine tE_bind G (fun v st1 e1 W1 H1 x f1 S1 R1 G1 => ?_) (fun e st1 e1 W1 H1 c d f1 S1 R1 => ?_) (fun z => ?_)
  · simp only [e1] at q
    refine tE_bind G1 (fun w st2 e2 W2 H2 y f2 S2 R2 G2 => ?_) (fun e st2 e2 W2 H2 c d f2 S2 R2 => ?_) (fun z => ?_)
    · simp only [e2] at q
      refine ⟨x, y, rfl, ?_⟩
      have R1' := R1.fut f2 S1
      have R2' : RVr p H W2 H2 w y := R2.back fun a => f1.tr a
      have f12 := f1.trans f2
      have z1 : ∃ y1, gVar i v r st2 = some y1 := by
        cases z : gVar i v r st2 with
        | none => rw [z] at q; exact q.elim
        | some y1 => exact ⟨y1, rfl⟩
      obtain ⟨⟨r1, st3⟩, z1⟩ := z1
      rw [z1] at q
      dsimp only at q
      have z2 : ∃ y1, gVar j w r1 st3 = some y1 := by
        cases z : gVar j w r1 st3 with
        | none => rw [z] at q; exact q.elim
        | some y1 => exact ⟨y1, rfl⟩
      obtain ⟨⟨r3, st4⟩, z2⟩ := z2
      rw [z2] at q
      dsimp only at q
      have own_ne : ∀ (k : Nat) d b, r[k]? = some (.own d) → σ[k]? = some (some (.ref b)) → H b ≠ none := by
        intro k d b hk hσ
        obtain ⟨b', k1, k2, _⟩ := G.own k d hk
        rw [hσ] at k1
        injection k1 with k1
        injection k1 with k1
        injection k1 with k1
        subst k1
        obtain ⟨o, ho⟩ := k2.some
        exact some_ne ho
      have h0 : ∀ b, H b = none → H0 b = none := fun b => G.fut.none b
      have G2' := G.to f12 S2
      have Ga : Good p W0 H0 W2 (σ.set i (some x)) H2 r1 st3 := by
        cases v with
        | val d =>
          injection z1 with z1
          injection z1 with z3 z4
          subst z3 z4
          exact G2'.setVal R1'
        | peek d => cases z1
        | fresh d =>
          injection z1 with z1
          injection z1 with z3 z4
          subst z3 z4
          obtain ⟨b, rfl, k1, k2, k3, k4⟩ := R1'
          exact G2'.setOwn k1 k2 k3 (h0 b k4) fun k e hk he z => own_ne k e b he z k4
      have Gb : Good p W0 H0 W2 ((σ.set i (some x)).set j (some y)) H2 r3 st4 := by
        cases w with
        | val d =>
          injection z2 with z2
          injection z2 with z3 z4
          subst z3 z4
          exact Ga.setVal R2'
        | peek d => cases z2
        | fresh d =>
          injection z2 with z2
          injection z2 with z3 z4
          subst z3 z4
          obtain ⟨b, rfl, k1, k2, k3, k4⟩ := R2
          have k4' : H b = none := f1.none b k4
          refine Ga.setOwn k1 k2 k3 (h0 b k4') fun k e hk he z => ?_
          have ri : r1 = r.set i (match v with | .val d => .val d | .fresh d => .own d | .peek d => .no) := by
            cases v with
            | val d => injection z1 with z1; injection z1 with z3 z4; exact z3.symm
            | fresh d => injection z1 with z1; injection z1 with z3 z4; exact z3.symm
            | peek d => cases z1
          rw [ri] at he
          rcases get_set he with ⟨c1, c2⟩ | ⟨c1, c2⟩
          · subst c1
            rcases get_set z with ⟨_, m2⟩ | ⟨m1, _⟩
            · injection m2 with m2
              cases v with
              | val d => cases c2
              | peek d => cases c2
              | fresh d =>
                obtain ⟨b', e', q1, _⟩ := R1
                rw [m2] at e'
                injection e' with e'
                subst e'
                obtain ⟨o, ho⟩ := q1.some
                rw [k4] at ho
                cases ho
            · exact m1 rfl
          · rcases get_set z with ⟨m1, _⟩ | ⟨_, m2⟩
            · exact c1 m1
            · exact own_ne k e b c2 m2 k4'
      exact q W2 _ H2 (f12.fw G.ok) Gb
    · simp only [e2] at q
      exact q W2 σ H2 c d ((f1.trans f2).fw G.ok) (G.to (f1.trans f2) S2) R2
    · simp only [z] at q
      exact q.elim
  · simp only [e1] at q
    exact q W1 σ H1 c d (f1.fw G.ok) (G.to f1 S1) R1
  · simp only [z] at q
    exact q
theorem ps_ifS {c : Expr} {sa sb : List Stmt} (hc : PT X c (tT p Wx t)) (ha : PSs X sa (tS p Wx a)) (hb : PSs X sb (tS p Wx b)) : PS X (.If c sa sb pos) (tS p Wx (sIf t a b)) := by
  refine (ps_if hc ha hb).weak fun D σ H ⟨W0, H0, W, r, st, G, q⟩ => ?_
  unfold sIf at q
  refine tT_bind G (fun b st1 e1 W1 H1 f1 S1 G1 => ?_) (fun e st1 e1 W1 H1 c d f1 S1 R1 => ?_) (fun z => ?_)
  · simp only [e1] at q
    cases b with
    | true =>
      rw [if_pos rfl]
      exact ⟨W0, H0, W1, r, st1, G1, okS.from (f1.fw G.ok) q⟩
    | false =>
      rw [if_neg Bool.false_ne_true]
      exact ⟨W0, H0, W1, r, st1, G1, okS.from (f1.fw G.ok) q⟩
  · simp only [e1] at q
    exact q W1 σ H1 c d (f1.fw G.ok) (G.to f1 S1) R1
  · simp only [z] at q
    exact q
/-- freezing is no step of the program -/
theorem freeze_weak {i : Nat} {D : Ends} {σ : L2.St} {H : Hp} (w : tS p Wx (sSeq (sFreeze i) a) D σ H) : tS p Wx a D σ H := by
  obtain ⟨W0, H0, W, r, st, G, q⟩ := w
  unfold sSeq sFreeze at q
  cases z : r[i]? with
  | none => simp only [z] at q; exact ⟨W0, H0, W, r, st, G, q⟩
  | some s =>
    cases s with
    | no => simp only [z] at q; exact ⟨W0, H0, W, r, st, G, q⟩
    | val d => simp only [z] at q; exact ⟨W0, H0, W, r, st, G, q⟩
    | own d =>
      simp only [z] at q
      obtain ⟨b, h1, h2, h3, h4, h5⟩ := G.own i d z
      obtain ⟨o, ho⟩ := h2.some
      refine ⟨W0, H0, W.add b, r.set i (.val d), st, ⟨G.fut.still h5, G.ok.still h4 (some_ne ho), by rw [List.length_set]; exact G.len, fun j e hj => ?_, fun j e hj => ?_, fun j k d' e' a' g1 g2 g3 g4 => ?_⟩, okS.from ⟨fun _ h => .inl h, fun _ _ => rfl, Nat.le_refl _, fun _ _ _ h => h, fun _ _ h => h, fun _ _ _ h => h⟩ q⟩
      · rcases get_set hj with ⟨c1, c2⟩ | ⟨c1, c2⟩
        · injection c2 with c2
          subst c1 c2
          refine ⟨_, h1, ?_⟩
          exact h2.still
        · obtain ⟨v, k1, k2⟩ := G.val j e c2
          exact ⟨v, k1, Rep.add b e v k2⟩
      · rcases get_set hj with ⟨c1, c2⟩ | ⟨c1, c2⟩
        · cases c2
        · obtain ⟨a', k1, k2, k3, k4, k5⟩ := G.own j e c2
          refine ⟨a', k1, k2.add b, fun z' => ?_, k4, k5⟩
          rcases z' with z' | z'
          · exact k3 z'
          · subst z'
            exact c1 (G.one j i e d _ c2 z k1 h1)
      · rcases get_set g1 with ⟨c1, c2⟩ | ⟨c1, c2⟩
        · cases c2
        · rcases get_set g2 with ⟨m1, m2⟩ | ⟨m1, m2⟩
          · cases m2
          · exact G.one j k d' e' a' c2 m2 g3 g4
theorem ps_freeze {i : Nat} (h : PS X s1 (tS p Wx a)) : PS X s1 (tS p Wx (sSeq (sFreeze i) a)) := h.weak fun _ _ _ => freeze_weak
end
end Tz

set_option Elab.async false
set_option linter.all false
set_option maxRecDepth 100000
set_option maxHeartbeats 4000000
/-! Ts5: loops, what they walk, comprehensions. -/
namespace Tz
open PySem L2 PyProof.Rows
section
variable {X : Cx} {p : Prm} {Wx : WX} {pos : Pos} {f g : ESem} {a b : SSem} {t : TSem} {e : Expr}
theorem ps_whileS {c : Expr} {sb : List Stmt} (hp : PassesOwn (model X.prog X.w) X.A X.env X.xe) (hc : PT X c (tT p Wx t)) (hb : PSs X sb (tS p Wx b)) : PS X (.While c sb [] pos) (tS p Wx (whileS t b)) := by
  refine (ps_while hp hc hb).weak fun D σ H ⟨W0, H0, W, r, st, G, q⟩ => ?_
  cases z : whileS t b r st with
  | none => rw [z] at q; exact q.elim
  | some o =>
    rw [z] at q
    obtain ⟨n, hn⟩ := of_whileS z
    refine ⟨fun m σ H => ∃ W0 H0 W r st o, Good p W0 H0 W σ H r st ∧ iterW t b m r st = some o ∧ okS p Wx W0 H0 W H D (some o), ⟨n, W0, H0, W, r, st, o, G, hn, q⟩, ?_⟩
    rintro m σ H ⟨W0, H0, W, r, st, o, G, hn, q⟩
    cases m with
    | zero => cases hn
    | succ m =>
      unfold iterW at hn
      refine tT_bind G (fun k st1 e1 W1 H1 f1 S1 G1 => ?_) (fun e st1 e1 W1 H1 c d f1 S1 R1 => ?_) (fun z => ?_)
      · simp only [e1] at hn
        cases k with
        | false =>
          rw [if_neg Bool.false_ne_true]
          injection hn with hn
          subst hn
          exact q W1 σ H1 (f1.fw G.ok) G1
        | true =>
          rw [if_pos rfl]
          have fw1 := f1.fw G.ok
          refine ⟨fun σ' H' => ∃ W0 H0 W r st o, Good p W0 H0 W σ' H' r st ∧ iterW t b m r st = some o ∧ okS p Wx W0 H0 W H' D (some o), fun σ' H' z => ⟨m, Nat.lt_succ_self m, z⟩, W0, H0, W1, r, st1, G1, ?_⟩
          dsimp only at hn
          cases eb : b r st1 with
          | none => rw [eb] at hn; cases hn
          | some y =>
            rw [eb] at hn
            cases y with
            | nx r2 st2 => exact fun W' σ' H' g G' => ⟨W0, H0, W', r2, st2, o, G', hn, okS.from (fw1.trans g) q⟩
            | ct r2 st2 => exact fun W' σ' H' g G' => ⟨W0, H0, W', r2, st2, o, G', hn, okS.from (fw1.trans g) q⟩
            | bk r2 st2 =>
              injection hn with hn
              subst hn
              exact fun W' σ' H' g G' => q W' σ' H' (fw1.trans g) G'
            | rt v st2 =>
              injection hn with hn
              subst hn
              exact q
            | exc e r2 st2 =>
              injection hn with hn
              subst hn
              exact fun W' σ' H' c d g G' R => q W' σ' H' c d (fw1.trans g) G' R
      · simp only [e1] at hn
        injection hn with hn
        subst hn
        exact q W1 σ H1 c d (f1.fw G.ok) (G.to f1 S1) R1
      · simp only [z] at hn
        cases hn

/-! ### what is walked -/
/-- J yields xs, one a turn, whatever happens to things that aren't still -/
def Walks (p : Prm) (J : It) (W : Wd) (H : Hp) (xs : List D) : Prop := ∀ W' H' st, Fw W H W' H' → SOk p W' H' st → ∀ i : Nat,
  (∀ d, xs[i]? = some d → J.go i H' ∧ ∀ x H'', J.yld i H' x H'' → ∃ W'', Fut W' H' W'' H'' ∧ SOk p W'' H'' st ∧ Rep p W'' H'' d x) ∧ (xs.length ≤ i → J.stop i H')
/-- .. where nothing but new things comes -/
def WalksU (p : Prm) (J : It) (W : Wd) (H : Hp) (st0 : Store) (xs : List D) : Prop := ∀ W' H' st, Fut W H W' H' → SOk p W' H' st → ∀ i : Nat,
  (∀ d, xs[i]? = some d → J.go i H' ∧ ∀ x H'', J.yld i H' x H'' → ∃ W'', Fut W' H' W'' H'' ∧ SOk p W'' H'' st ∧ Rep p W'' H'' d x) ∧ (xs.length ≤ i → J.stop i H')
theorem Walks.u {J : It} {W : Wd} {H : Hp} {st : Store} {xs : List D} (S : SOk p W H st) (h : Walks p J W H xs) : WalksU p J W H st xs := fun W' H' st' f S' => h W' H' st' (f.fw S) S'
def tI (p : Prm) (it : ISem) : TI := fun σ H R => ∃ W0 H0 W r st, Good p W0 H0 W σ H r st ∧ match it r st with
  | none => False
  | some (xs, st') => ∀ W' H' J, Fut W H W' H' → SOk p W' H' st' → Walks p J W' H' xs → R J H'
def tIU (p : Prm) (it : ISem) : TI := fun σ H R => ∃ W0 H0 W r st, Good p W0 H0 W σ H r st ∧ match it r st with
  | none => False
  | some (xs, st') => ∀ W' H' J, Fut W H W' H' → SOk p W' H' st' → WalksU p J W' H' st' xs → R J H'
theorem _root_.L2.PI.weak {tg iter : Expr} {w w' : TI} (h : PI X tg iter w) (hw : ∀ σ H R, w' σ H R → w σ H R) : PI X tg iter w' := ⟨fun pins s σ H R I q => h.run pins s σ H R I (hw σ H R q)⟩
theorem pi_u {tg iter : Expr} {it : ISem} (h : PI X tg iter (tI p it)) : PI X tg iter (tIU p it) := h.weak fun σ H R ⟨W0, H0, W, r, st, G, q⟩ => by
  refine ⟨W0, H0, W, r, st, G, ?_⟩
  cases z : it r st with
  | none => rw [z] at q; exact q
  | some y =>
    rw [z] at q
    exact fun W' H' J f S w => q W' H' J f S (w.u S)
/-- a list or a tuple -/
def iSeq (K : PySem.W.Frag) (tl : TE) : TI := fun σ H R => tl σ H fun x H1 => ∃ a, x = .ref a ∧ ((∃ xs, SqL K H1 a xs) ∧ R (Itl K a) H1 ∨ (∃ xs, SqT K H1 a xs) ∧ R (Itt K a) H1)
theorem pi_seq {tg l : Expr} {tl : TE} (hl : PE X l tl) : PI X tg l (iSeq X.K tl) := by
  refine ⟨fun pins s σ H R I h => ?_⟩
  have hl' : ∀ (tl' : TE), (∀ σ H Q, tl' σ H Q → tl σ H Q) → PE X l tl' := fun tl' w => hl.weak w
  refine thn (hl.run pins s σ H _ I h) fun v s1 ⟨x, H1, I1, r1, q1⟩ => ?_
  obtain ⟨b, e, q⟩ := q1
  subst e
  cases r1
  rcases q with ⟨⟨xs, hq⟩, q⟩ | ⟨⟨xs, hq⟩, q⟩
  · obtain ⟨its, rv, pl, hz⟩ := I1.list hq
    refine wpAny_pyIter_list pl.isList ?_
    refine ⟨_, [s1.heap.objs.size], _, Itl X.K b, H1, rfl, I1.kept (t' := s1.toks) (fun c o z => Heap.get?_push_of_some _ z), turn_list b _, ⟨_, Heap.get?_push_size _ rfl, rfl, rfl⟩, fun c hc => ?_, q⟩
    obtain rfl : c = s1.heap.objs.size := List.mem_singleton.mp hc
    exact I1.fpOk (Nat.le_refl _) (I1.hok.fresh (Nat.le_refl _))
  · obtain ⟨its, rv, pl, hz⟩ := I1.tuple hq
    refine wpAny_pyIter_tuple (show s1.heap.IsTuple b its.toArray from pl) ?_
    refine ⟨_, [s1.heap.objs.size], _, Itt X.K b, H1, rfl, I1.kept (t' := s1.toks) (fun c o z => Heap.get?_push_of_some _ z), turn_tuple b _, ⟨_, Heap.get?_push_size _ rfl, rfl, rfl⟩, fun c hc => ?_, q⟩
    obtain rfl : c = s1.heap.objs.size := List.mem_singleton.mp hc
    exact I1.fpOk (Nat.le_refl _) (I1.hok.fresh (Nat.le_refl _))
theorem walks_list {K : PySem.W.Frag} {W : Wd} {H : Hp} {b : Addr} {vs : List V} {xs : List D} (hs : ∀ W' H', Fw W H W' H' → SqL K H' b vs) (hr : RepL p W H xs vs) : Walks p (Itl K b) W H xs := by
  intro W' H' st f S i
  have hv := hs W' H' f
  have hr' := RepL.fw f xs vs hr
  refine ⟨fun d e => ?_, fun hi => ⟨vs, hv, by rw [hr.length]; exact hi⟩⟩
  obtain ⟨v, e1, e2⟩ := hr'.get e
  refine ⟨⟨vs, v, hv, e1⟩, fun x H'' y => ?_⟩
  obtain ⟨rfl, y⟩ := y
  have z := y vs hv
  rw [e1] at z
  injection z with z
  subst z
  exact ⟨W', Fut.refl, S, e2⟩
theorem walks_tup {K : PySem.W.Frag} {W : Wd} {H : Hp} {b : Addr} {vs : List V} {xs : List D} (hs : SqT K H b vs) (hr : RepL p W H xs vs) : Walks p (Itt K b) W H xs := by
  intro W' H' st f S i
  have hv := sqT_keep f hs
  have hr' := RepL.fw f xs vs hr
  refine ⟨fun d e => ?_, fun hi => ⟨vs, hv, by rw [hr.length]; exact hi⟩⟩
  obtain ⟨v, e1, e2⟩ := hr'.get e
  refine ⟨⟨vs, v, hv, e1⟩, fun x H'' y => ?_⟩
  obtain ⟨rfl, y⟩ := y
  have z := y vs hv
  rw [e1] at z
  injection z with z
  subst z
  exact ⟨W', Fut.refl, S, e2⟩
theorem walks_range {W : Wd} {H : Hp} {lo : Int} {n : Nat} : Walks p (Itr lo n) W H ((List.range n).map fun i : Nat => D.int (lo + i)) := by
  intro W' H' st f S i
  refine ⟨fun d e => ?_, fun hi => (show n ≤ i from by simpa using hi)⟩
  have hi : i < n := by
    have := (List.getElem?_eq_some_iff.mp e).1
    simpa using this
  refine ⟨hi, fun x H'' y => ?_⟩
  obtain ⟨rfl, rfl⟩ := y
  rw [List.getElem?_map, List.getElem?_range hi] at e
  injection e with e
  subst e
  exact ⟨W', Fut.refl, S, rfl⟩
/-- the items of what stays (a list just made stays from here on) -/
def itemsOf (v : RV) : Option (List D) := match v with
  | .val (.tup xs) => some xs
  | .val (.lst xs) => some xs
  | .val (.rol xs) => some xs
  | .fresh (.lst xs) => some xs
  | _ => none
/-- .. or of a list that a slot owns -/
def itemsU (v : RV) : Option (List D) := match v with
  | .peek (.lst xs) => some xs
  | v => itemsOf v
def iExp (a : ESem) : ISem := iOf (fun _ v => itemsOf v) a
def iExpU (a : ESem) : ISem := iOf (fun _ v => itemsU v) a
theorem items_walk (hK : p.K = X.K) {W W1 : Wd} {H H1 : Hp} {st1 : Store} {v : RV} {x : V} {xs : List D} (f1 : Fut W H W1 H1) (S1 : SOk p W1 H1 st1) (R1 : RVr p H W1 H1 v x) (e : itemsOf v = some xs) :
    ∃ b W2, x = .ref b ∧ Fut W H W2 H1 ∧ SOk p W2 H1 st1 ∧ (((∃ vs, SqL X.K H1 b vs) ∧ Walks p (Itl X.K b) W2 H1 xs) ∨ ((∃ vs, SqT X.K H1 b vs) ∧ Walks p (Itt X.K b) W2 H1 xs)) := by
  have tl : ∀ {W2 : Wd} {b : Addr} {vs : List V}, W2.F b → H1 b = some (.lst vs) → RepL p W2 H1 xs vs → ((∃ vs, SqL X.K H1 b vs) ∧ Walks p (Itl X.K b) W2 H1 xs) :=
    fun {W2 b vs} h1 h2 h3 => ⟨⟨vs, SqL.of h2⟩, walks_list (fun W' H' f => sqL_keep f h1 (SqL.of h2)) h3⟩
  cases v with
  | peek d => cases e
  | fresh d =>
    cases d with
    | lst ys =>
      injection e with e
      subst e
      obtain ⟨b, rfl, ⟨vs, h1, h2⟩, h3, h4, h5⟩ := R1
      exact ⟨b, W1.add b, rfl, f1.still h5, S1.still h4 (some_ne h1), .inl (tl (.inr rfl) h1 (RepL.add b _ _ h2))⟩
    | _ => cases e
  | val d =>
    cases d with
    | tup ys =>
      injection e with e
      subst e
      obtain ⟨b, vs, rfl, h1, h2⟩ := R1
      rw [hK] at h1
      exact ⟨b, W1, rfl, f1, S1, .inr ⟨⟨vs, h1⟩, walks_tup h1 h2⟩⟩
    | lst ys =>
      injection e with e
      subst e
      obtain ⟨b, vs, rfl, h1, h2, h3⟩ := R1
      exact ⟨b, W1, rfl, f1, S1, .inl (tl h1 h2 h3)⟩
    | rol ys =>
      injection e with e
      subst e
      obtain ⟨b, vs, rfl, h1, h3⟩ := R1
      rw [hK] at h1
      rcases h1 with ⟨h1, h2⟩ | h2
      · exact ⟨b, W1, rfl, f1, S1, .inl ⟨⟨vs, h2⟩, walks_list (fun W' H' f => sqL_keep f h1 h2) h3⟩⟩
      · exact ⟨b, W1, rfl, f1, S1, .inl ⟨⟨vs, h2 H1⟩, walks_list (fun W' H' f => h2 H') h3⟩⟩
    | _ => cases e
theorem pi_exp (hK : p.K = X.K) {tg l : Expr} (hl : PE X l (tE p Wx f)) : PI X tg l (tI p (iExp f)) := by
  refine (pi_seq hl).weak fun σ H R ⟨W0, H0, W, r, st, G, q⟩ => ?_
  unfold iExp iOf at q
  refine tE_bind G (fun v st1 e1 W1 H1 x f1 S1 R1 G1 => ?_) (fun e st1 e1 => ?_) (fun z => ?_)
  · simp only [e1] at q
    cases ez : itemsOf v with
    | none => simp only [ez] at q
    | some xs =>
      simp only [ez] at q
      obtain ⟨b, W2, rfl, f2, S2, h⟩ := items_walk hK f1 S1 R1 ez
      refine ⟨b, rfl, ?_⟩
      rcases h with ⟨h1, h2⟩ | ⟨h1, h2⟩
      · exact .inl ⟨h1, q W2 H1 _ f2 S2 h2⟩
      · exact .inr ⟨h1, q W2 H1 _ f2 S2 h2⟩
  · simp only [e1] at q
  · simp only [z] at q
theorem pi_expU (hK : p.K = X.K) {tg l : Expr} (hl : PE X l (tE p Wx f)) : PI X tg l (tIU p (iExpU f)) := by
  refine (pi_seq hl).weak fun σ H R ⟨W0, H0, W, r, st, G, q⟩ => ?_
  unfold iExpU iOf at q
  refine tE_bind G (fun v st1 e1 W1 H1 x f1 S1 R1 G1 => ?_) (fun e st1 e1 => ?_) (fun z => ?_)
  · simp only [e1] at q
    have go : ∀ {xs}, itemsOf v = some xs → (∀ W' H' J, Fut W H W' H' → SOk p W' H' st1 → WalksU p J W' H' st1 xs → R J H') → ∃ a, x = .ref a ∧ ((∃ xs, SqL X.K H1 a xs) ∧ R (Itl X.K a) H1 ∨ (∃ xs, SqT X.K H1 a xs) ∧ R (Itt X.K a) H1) := by
      intro xs ez q
      obtain ⟨b, W2, rfl, f2, S2, h⟩ := items_walk hK f1 S1 R1 ez
      refine ⟨b, rfl, ?_⟩
      rcases h with ⟨h1, h2⟩ | ⟨h1, h2⟩
      · exact .inl ⟨h1, q W2 H1 _ f2 S2 (h2.u S2)⟩
      · exact .inr ⟨h1, q W2 H1 _ f2 S2 (h2.u S2)⟩
    cases v with
    | val d =>
      cases ez : itemsOf (.val d) with
      | none =>
        have ez' : itemsU (.val d) = none := ez
        simp only [ez'] at q
      | some xs =>
        have ez' : itemsU (.val d) = some xs := ez
        simp only [ez'] at q
        exact go ez q
    | fresh d =>
      cases ez : itemsOf (.fresh d) with
      | none =>
        have ez' : itemsU (.fresh d) = none := ez
        simp only [ez'] at q
      | some xs =>
        have ez' : itemsU (.fresh d) = some xs := ez
        simp only [ez'] at q
        exact go ez q
    | peek d =>
      cases d with
      | lst xs =>
        obtain ⟨b, rfl, h1, h2, h3⟩ := R1
        have hv : ∃ vs, H1 b = some (.lst vs) ∧ RepL p W1 H1 xs vs := h1
        obtain ⟨vs, hv, hr⟩ := hv
        refine ⟨b, rfl, .inl ⟨⟨vs, SqL.of hv⟩, q W1 H1 _ f1 S1 ?_⟩⟩
        intro W' H' st' ff SS i
        have hv' : H' b = some (.lst vs) := ff.keep b _ hv h3
        have hr' := RepL.fut ff S1 xs vs hr
        refine ⟨fun d e => ?_, fun hi => ⟨vs, SqL.of hv', by rw [hr.length]; exact hi⟩⟩
        obtain ⟨w, k1, k2⟩ := hr'.get e
        refine ⟨⟨vs, w, SqL.of hv', k1⟩, fun x H'' y => ?_⟩
        obtain ⟨rfl, y⟩ := y
        have z := y vs (SqL.of hv')
        rw [k1] at z
        injection z with z
        subst z
        exact ⟨W', Fut.refl, SS, k2⟩
      | _ => exact False.elim q
  · simp only [e1] at q
  · simp only [z] at q
/-- range(n) -/
def iRange1 (a : ESem) : ISem := fun r st => match a r st with
  | some (.ok (.val (.int j)) st1) => if -(2 ^ 62) ≤ j ∧ j < 2 ^ 62 then some ((List.range j.toNat).map fun i : Nat => D.int (0 + i), st1) else none
  | _ => none
def iRange2 (a b : ESem) : ISem := fun r st => match a r st with
  | some (.ok (.val (.int i)) st1) => match b r st1 with
    | some (.ok (.val (.int j)) st2) => if (-(2 ^ 62) ≤ i ∧ i < 2 ^ 62) ∧ (-(2 ^ 62) ≤ j ∧ j < 2 ^ 62) then some ((List.range (j - i).toNat).map fun k : Nat => D.int (i + k), st2) else none
    | _ => none
  | _ => none
theorem pi_range1S {tg a1 : Expr} {pp : Pos} (hg : Gl X "range") (hm : X.mg "range" = none) (ha : PE X a1 (tE p Wx f)) (hs : notStar a1 = true) : PI X tg (.Call (.Name "range" pp) [a1] [] pos) (tI p (iRange1 f)) := by
  refine (pi_range1 hg hm (pa_cons ha pa_nil (starEach_cons hs)) (by rw [starEach_cons hs]; rfl)).weak fun σ H R ⟨W0, H0, W, r, st, G, q⟩ => ?_
  unfold iRange1 at q
  refine tE_bind G (fun v st1 e1 W1 H1 x f1 S1 R1 G1 => ?_) (fun e st1 e1 => ?_) (fun z => ?_)
  · simp only [e1] at q
    cases v with
    | val d =>
      cases d with
      | int j =>
        have hx : x = .int j := R1
        subst hx
        by_cases hj : -(2 ^ 62) ≤ j ∧ j < 2 ^ 62
        · have q : ∀ W' H' J, Fut W H W' H' → SOk p W' H' st1 → Walks p J W' H' ((List.range j.toNat).map fun i : Nat => D.int (0 + i)) → R J H' := by
            have z := q
            dsimp only at z
            rw [if_pos hj] at z
            exact z
          exact ⟨j, rfl, hj.1, hj.2, q W1 H1 _ f1 S1 walks_range⟩
        · dsimp only at q
          rw [if_neg hj] at q
          exact q.elim
      | _ => exact False.elim q
    | _ => exact False.elim q
  · simp only [e1] at q
  · simp only [z] at q
theorem pi_range2S {tg a1 a2 : Expr} {pp : Pos} (hg : Gl X "range") (hm : X.mg "range" = none) (ha : PE X a1 (tE p Wx f)) (hb : PE X a2 (tE p Wx g)) (hs : notStar a1 = true) (hs2 : notStar a2 = true) : PI X tg (.Call (.Name "range" pp) [a1, a2] [] pos) (tI p (iRange2 f g)) := by
  refine (pi_range2 hg hm (pa_cons ha (pa_cons hb pa_nil (starEach_cons hs2)) (starEach_cons hs)) (by rw [starEach_cons hs, starEach_cons hs2]; rfl) (by rw [starEach_cons hs2]; rfl)).weak fun σ H R ⟨W0, H0, W, r, st, G, q⟩ => ?_
  unfold iRange2 at q
  refine tE_bind G (fun v st1 e1 W1 H1 x f1 S1 R1 G1 => ?_) (fun e st1 e1 => ?_) (fun z => ?_)
  · simp only [e1] at q
    cases v with
    | val d =>
      cases d with
      | int i =>
        have hx : x = .int i := R1
        subst hx
        refine tE_bind G1 (fun v st2 e2 W2 H2 x f2 S2 R2 G2 => ?_) (fun e st2 e2 => ?_) (fun z => ?_)
        · simp only [e2] at q
          cases v with
          | val d =>
            cases d with
            | int j =>
              have hx : x = .int j := R2
              subst hx
              dsimp only at q
              by_cases hj : (-(2 ^ 62) ≤ i ∧ i < 2 ^ 62) ∧ (-(2 ^ 62) ≤ j ∧ j < 2 ^ 62)
              · have q : ∀ W' H' J, Fut W H W' H' → SOk p W' H' st2 → Walks p J W' H' ((List.range (j - i).toNat).map fun k : Nat => D.int (i + k)) → R J H' := by
                  have z := q
                  rw [if_pos hj] at z
                  exact z
                exact ⟨i, j, rfl, ⟨hj.1.1, hj.1.2, hj.2.1, hj.2.2⟩, q W2 H2 _ (f1.trans f2) S2 walks_range⟩
              · rw [if_neg hj] at q
                exact q.elim
            | _ => exact False.elim q
          | _ => exact False.elim q
        · simp only [e2] at q
        · simp only [z] at q
      | _ => exact False.elim q
    | _ => exact False.elim q
  · simp only [e1] at q
  · simp only [z] at q
theorem own_there {W0 W : Wd} {H0 H : Hp} {σ : L2.St} {r : Rho} {st : Store} (G : Good p W0 H0 W σ H r st) : ∀ (i : Nat) d c, r[i]? = some (.own d) → σ[i]? = some (some (.ref c)) → H c ≠ none := fun i d c he hσ => by
  obtain ⟨b, k1, k2, _⟩ := G.own i d he
  rw [hσ] at k1
  injection k1 with k1
  injection k1 with k1
  injection k1 with k1
  subst k1
  obtain ⟨o, ho⟩ := k2.some
  exact some_ne ho
theorem ps_forS {tg iter : Expr} {sb : List Stmt} {it : ISem} {gs : TgSem} {us : List Nat} (hp : PassesOwn (model X.prog X.w) X.A X.env X.xe) (hc : X.calm = true) (hi : PI X tg iter (tI p it)) (hg : PG X tg (tG p gs us)) (hb : PSs X sb (tS p Wx b)) (hs : ∀ x, foldedSetIterable iter X.env x = pure x) :
    PS X (.For tg iter sb [] pos) (tS p Wx (sFor it gs b)) := by
  refine (ps_for hp hc hi hg hb hs).weak fun D σ H ⟨W0, H0, W, r, st, G, q⟩ => ?_
  unfold sFor at q
  refine ⟨W0, H0, W, r, st, G, ?_⟩
  cases ei : it r st with
  | none => rw [ei] at q; exact q
  | some y =>
    obtain ⟨xs, st1⟩ := y
    rw [ei] at q
    intro W1 H1 J f1 S1 wk
    refine ⟨fun i m σ H => ∃ W0 H0 W r st, Good p W0 H0 W σ H r st ∧ Fw W1 H1 W H ∧ okS p Wx W0 H0 W H D (forS gs b (xs.drop i) r st) ∧ m = xs.length - i ∧ i ≤ xs.length,
      ⟨_, W0, H0, W1, r, st1, G.to f1 S1, Fw.refl, okS.from (f1.fw G.ok) q, rfl, Nat.zero_le _⟩, ?_⟩
    rintro i m σ H ⟨W0, H0, W, r, st, G, fw, q, rfl, hi⟩
    obtain ⟨w1, w2⟩ := wk W H st fw G.ok i
    by_cases hlt : i < xs.length
    · have ed : xs.drop i = xs[i] :: xs.drop (i + 1) := List.drop_eq_getElem_cons hlt
      obtain ⟨go, yl⟩ := w1 xs[i] (List.getElem?_eq_getElem hlt)
      rw [ed] at q
      refine .inr ⟨go, fun σ' H' => ∃ W0 H0 W r st, Good p W0 H0 W σ' H' r st ∧ Fw W1 H1 W H' ∧ okS p Wx W0 H0 W H' D (forS gs b (xs.drop (i + 1)) r st), fun σ' H' ⟨W0, H0, W, r, st, G, fw, q⟩ => ⟨xs.length - (i + 1), by omega, W0, H0, W, r, st, G, fw, q, rfl, hlt⟩, fun x H' y => ?_⟩
      obtain ⟨W', f2, S2, R2⟩ := yl x H' y
      have G2 := G.to f2 S2
      have fw2 : Fw W H W' H' := f2.fw G.ok
      unfold forS at q
      refine ⟨W0, H0, H, W', r, st, .val xs[i], G2, R2, fun c z => G.fut.tr c z, own_there G, ?_⟩
      cases eg : gs (.val xs[i]) r st with
      | none => rw [eg] at q; exact q
      | some y =>
        obtain ⟨r1, st2⟩ := y
        rw [eg] at q
        intro W3 σ3 H3 f3 G3 _ _
        refine ⟨W0, H0, W3, r1, st2, G3, ?_⟩
        have f23 := fw2.trans (f3.fw G2.ok)
        dsimp only at q
        cases eb : b r1 st2 with
        | none => rw [eb] at q; exact q
        | some o =>
          rw [eb] at q
          cases o with
          | nx r2 st3 => exact fun W4 σ4 H4 f4 G4 => ⟨W0, H0, W4, r2, st3, G4, fw.trans (f23.trans f4), okS.from (f23.trans f4) q⟩
          | ct r2 st3 => exact fun W4 σ4 H4 f4 G4 => ⟨W0, H0, W4, r2, st3, G4, fw.trans (f23.trans f4), okS.from (f23.trans f4) q⟩
          | bk r2 st3 => exact fun W4 σ4 H4 f4 G4 => q W4 σ4 H4 (f23.trans f4) G4
          | rt v st3 => exact q
          | exc e r2 st3 => exact fun W4 σ4 H4 c d f4 G4 R => q W4 σ4 H4 c d (f23.trans f4) G4 R
    · have e : i = xs.length := by omega
      subst e
      rw [List.drop_length] at q
      exact .inl ⟨w2 (Nat.le_refl _), q W σ H Fw.refl G⟩
/-! ### a list changed, no still one -/
theorem Fw.mut {W : Wd} {H : Hp} {D : Addr} {o0 o : HO} (h : ¬ W.F D) (hd : H D = some o0) (hm : MutO o0) : Fw W H W (upd H D o) := by
  have ne : ∀ a u, H a = some u → ¬ MutO u → a ≠ D := fun a u e n z => by
    rw [z, hd] at e
    injection e with e
    exact n (e ▸ hm)
  exact ⟨fun _ z => z, fun _ _ => rfl, Nat.le_refl _, fun a u hf e => by rw [upd_ne (fun z : a = D => h (by rw [← z]; exact hf))]; exact e, fun a xs e => by rw [upd_ne (ne a _ e (fun z => z))]; exact e, fun a u v e => by rw [upd_ne (ne a _ e (fun z => z))]; exact e⟩
theorem Fut.mut {W1 W : Wd} {H1 H : Hp} {D : Addr} {o : HO} (f : Fut W1 H1 W H) (h : H1 D = Option.none) (hd : H D ≠ Option.none) : Fut W1 H1 W (upd H D o) :=
  ⟨f.fsub, f.mu, fun a u e hn => by rw [upd_ne (ne_of_none e h)]; exact f.keep a u e hn, f.nf, f.dom, f.le, fun a z => by
    by_cases e : a = D
    · subst e; rw [upd_same]; exact fun z => by cases z
    · rw [upd_ne e]; exact f.tr a z⟩
theorem SOk.mut {W : Wd} {H : Hp} {st : Store} {D : Addr} {o0 o : HO} (S : SOk p W H st) (h : ¬ W.F D) (hn : ∀ i, i < W.n → W.mu i ≠ D) (hd : H D = some o0) (hm : MutO o0) : SOk p W (upd H D o) st := by
  have fm := Fw.mut (o := o) h hd hm
  refine ⟨S.len, fun n d e => ?_, S.nf, S.inj, fun a z => ?_⟩
  · have hl : n < W.n := by rw [← S.len]; exact (List.getElem?_eq_some_iff.mp e).1
    have c := S.at_ n d e
    exact c.moved fm fun u h1 => by rw [upd_ne (hn n hl)]; exact h1
  · by_cases e : a = D
    · subst e; rw [upd_same]; exact fun z => by cases z
    · rw [upd_ne e]; exact S.fok a z
/-! ### comprehensions -/
theorem wipe_len (r : Rho) : ∀ ws : List Nat, (wipeR r ws).length = r.length
  | [] => rfl
  | i :: is => by unfold wipeR; rw [List.length_set, wipe_len r is]
theorem wipe_get {r : Rho} {i : Nat} {s : Sl} : ∀ {ws : List Nat}, (wipeR r ws)[i]? = some s → s ≠ .no → r[i]? = some s ∧ i ∉ ws
  | [], h, _ => ⟨h, by simp⟩
  | w :: ws, h, hs => by
    unfold wipeR at h
    rcases get_set h with ⟨_, e⟩ | ⟨e1, e2⟩
    · exact absurd e.symm hs
    · obtain ⟨k1, k2⟩ := wipe_get e2 hs
      exact ⟨k1, by simp only [List.mem_cons, not_or]; exact ⟨e1, k2⟩⟩
theorem wipe_keep {σ : L2.St} {i : Nat} : ∀ {ws : List Nat}, i ∉ ws → (wipe σ ws)[i]? = σ[i]?
  | [], _ => rfl
  | w :: ws, h => by
    simp only [List.mem_cons, not_or] at h
    unfold wipe
    rw [List.getElem?_set_ne (Ne.symm h.1), wipe_keep h.2]
theorem Good.wipe {W0 W : Wd} {H0 H : Hp} {σ : L2.St} {r : Rho} {st : Store} (G : Good p W0 H0 W σ H r st) (ws : List Nat) : Good p W0 H0 W (L2.wipe σ ws) H (wipeR r ws) st where
  fut := G.fut
  ok := G.ok
  len := by rw [wipe_length, wipe_len]; exact G.len
  val := fun i d e => by
    obtain ⟨e1, e2⟩ := wipe_get e (fun z => by cases z)
    obtain ⟨v, h1, h2⟩ := G.val i d e1
    exact ⟨v, by rw [wipe_keep e2]; exact h1, h2⟩
  own := fun i d e => by
    obtain ⟨e1, e2⟩ := wipe_get e (fun z => by cases z)
    obtain ⟨v, h1, h2⟩ := G.own i d e1
    exact ⟨v, by rw [wipe_keep e2]; exact h1, h2⟩
  one := fun i j d e b h1 h2 h3 h4 => by
    obtain ⟨e1, e2⟩ := wipe_get h1 (fun z => by cases z)
    obtain ⟨k1, k2⟩ := wipe_get h2 (fun z => by cases z)
    rw [wipe_keep e2] at h3
    rw [wipe_keep k2] at h4
    exact G.one i j d e b e1 k1 h3 h4
theorem wipe_same {σ τ : L2.St} (ws : List Nat) (h : ∀ i, i ∉ ws → τ[i]? = (wipe σ ws)[i]?) (hl : τ.length = (wipe σ ws).length) : wipe τ ws = wipe σ ws := by
  have in_ws : ∀ (us : List Nat) (ρ : L2.St) (i : Nat), i ∈ us → i < ρ.length → (wipe ρ us)[i]? = some none := by
    intro us
    induction us with
    | nil => intro ρ i hi; cases hi
    | cons u us ih =>
      intro ρ i hi hl
      unfold wipe
      by_cases e : u = i
      · subst e
        exact List.getElem?_set_self (by rw [wipe_length]; exact hl)
      · rw [List.getElem?_set_ne e]
        rcases List.mem_cons.mp hi with z | z
        · exact absurd z.symm e
        · exact ih ρ i z hl
  refine List.ext_getElem? fun i => ?_
  by_cases hi : i ∈ ws
  · by_cases hb : i < σ.length
    · rw [in_ws ws σ i hi hb, in_ws ws τ i hi (by rw [hl, wipe_length]; exact hb)]
    · rw [List.getElem?_eq_none (by rw [wipe_length, hl, wipe_length]; omega), List.getElem?_eq_none (by rw [wipe_length]; omega)]
  · rw [wipe_keep hi]
    exact h i hi
theorem pe_compS {tg iter elt : Expr} {ifs : List Expr} {scope : Scope} {own : List (Str × Nat)} {it : ISem} {gs : TgSem} {us : List Nat} {ts : TSem} {es : ESem} (hc : X.calm = true) (hN : X.N.Nodup) (hi : PI X tg iter (tIU p it)) (ok : BlkOk X.N X.env.scope scope own)
    (hg : ∀ (s : Shared) (H : Hp) (C : Addr) (cl : List (Str × Addr)) (fp : List Addr), PG (X.blk s H scope (compEnvC scope cl C X.env) fp) tg (tG p gs us)) (hgi : ∀ j, j ∈ us → j ∈ own.map (·.2))
    (ht : ∀ (s : Shared) (H : Hp) (C : Addr) (cl : List (Str × Addr)) (fp : List Addr), PTs (X.blk s H scope (compEnvC scope cl C X.env) fp) ifs (tT p (fun _ _ _ _ => False) ts))
    (he : ∀ (s : Shared) (H : Hp) (C : Addr) (cl : List (Str × Addr)) (fp : List Addr), PE (X.blk s H scope (compEnvC scope cl C X.env) fp) elt (tE p (fun _ _ _ _ => False) es)) (hs : ∀ x, foldedSetIterable iter X.env x = pure x) :
    ∀ σ H Q, tE p Wx (eComp (own.map (·.2)) it gs ts es) σ H Q → tLc (tIU p it) (tG p gs us) (tT p (fun _ _ _ _ => False) ts) (tE p (fun _ _ _ _ => False) es) (own.map (·.2)) σ H Q := by
  intro σ H Q ⟨W0, H0, W, r, st, G, q⟩
  unfold eComp at q
  refine ⟨W0, H0, W, r, st, G, ?_⟩
  cases ei : it r st with
  | none => simp only [ei] at q; exact q
  | some y =>
    obtain ⟨xs, st1⟩ := y
    simp only [ei] at q
    intro W1 H1 J f1 S1 wk D hD
    have G1 := (G.to f1 S1).wipe (own.map (·.2))
    cases ec : compL gs ts es (wipeR r (own.map (·.2))) [] xs st1 with
    | none => simp only [ec] at q; exact q.elim
    | some y =>
      obtain ⟨ys, st2⟩ := y
      simp only [ec] at q
      refine ⟨fun i m H => ∃ W st acc, Fut W1 H1 W H ∧ SOk p W H st ∧ RVr p H1 W H (.peek (.lst acc)) (.ref D) ∧ compL gs ts es (wipeR r (own.map (·.2))) acc (xs.drop i) st = some (ys, st2) ∧ m = xs.length - i ∧ i ≤ xs.length,
        ⟨_, W1, st1, [], Fut.laid S1 hD, S1.laid hD, ⟨D, rfl, ⟨[], upd_same, rfl⟩, S1.nF hD, S1.ne hD⟩, ec, rfl, Nat.zero_le _⟩, ?_⟩
      rintro i m H ⟨W, st, acc, f, S, hv, hcl, rfl, hi⟩
      obtain ⟨w1, w2⟩ := wk W H st f S i
      by_cases hlt : i < xs.length
      · have ed : xs.drop i = xs[i] :: xs.drop (i + 1) := List.drop_eq_getElem_cons hlt
        obtain ⟨go, yl⟩ := w1 xs[i] (List.getElem?_eq_getElem hlt)
        rw [ed] at hcl
        unfold compL at hcl
        refine .inr ⟨go, fun H' => ∃ W st acc, Fut W1 H1 W H' ∧ SOk p W H' st ∧ RVr p H1 W H' (.peek (.lst acc)) (.ref D) ∧ compL gs ts es (wipeR r (own.map (·.2))) acc (xs.drop (i + 1)) st = some (ys, st2), fun H' ⟨W, st, acc, z1, z2, z3, z4⟩ => ⟨xs.length - (i + 1), by omega, W, st, acc, z1, z2, z3, z4, rfl, hlt⟩, fun x H' y => ?_⟩
        obtain ⟨W', f2, S2, R2⟩ := yl x H' y
        have f12 := f.trans f2
        have G2 := G1.to f12 S2
        have hv2 := hv.fut f2 S
        refine ⟨W0, H0, H1, W', _, st, .val xs[i], G2, R2, fun c z => G1.fut.tr c z, fun j d c he hσ => own_there G1 j d c he hσ, ?_⟩
        cases eg : gs (.val xs[i]) (wipeR r (own.map (·.2))) st with
        | none => rw [eg] at hcl; cases hcl
        | some y =>
          obtain ⟨r1, st3⟩ := y
          rw [eg] at hcl
          dsimp only at hcl
          intro W3 σ3 H3 f3 G3 c3 l3
          refine ⟨wipe_same _ (fun j hj => c3 j fun z => hj (hgi j z)) l3, ?_⟩
          have hv3 := hv2.fut f3 S2
          refine tT_bind G3 (fun k st4 e4 W4 H4 f4 S4 G4 => ?_) (fun e st4 e4 => ?_) (fun z => ?_)
          · simp only [e4] at hcl
            have f14 := f12.trans (f3.trans f4)
            have hv4 := hv3.fut f4 G3.ok
            cases k with
            | false =>
              rw [if_neg Bool.false_ne_true]
              exact ⟨W4, st4, acc, f14, S4, hv4, hcl⟩
            | true =>
              rw [if_pos rfl]
              dsimp only at hcl
              refine tE_bind G4 (fun v st5 e5 W5 H5 yv f5 S5 R5 G5 => ?_) (fun e st5 e5 => ?_) (fun z => ?_)
              · simp only [e5] at hcl
                cases ev : v.toVal with
                | none => rw [ev] at hcl; cases hcl
                | some d =>
                  rw [ev] at hcl
                  dsimp only at hcl
                  by_cases hl : acc.length < lim
                  · rw [if_pos hl] at hcl
                    obtain ⟨W6, S6, R6, mk⟩ := R5.toVal S5 ev
                    have f46 : Fut W4 H4 W6 H5 := mk f5 fun _ z => z
                    obtain ⟨D', eD, ⟨vs, h1, h2⟩, h3, h4⟩ := hv4.fut f46 S4
                    injection eD with eD
                    subst eD
                    have fm := Fw.mut (o := .lst (vs ++ [yv])) h3 h1 trivial
                    refine ⟨vs, h1, by rw [h2.length]; exact lim_lt hl, W6, st5, acc ++ [d], (f14.trans f46).mut hD (some_ne h1), S6.mut h3 h4 h1 trivial, ⟨D, rfl, ⟨_, upd_same, RepL.fw fm _ _ (h2.app (RepL.one R6))⟩, h3, h4⟩, hcl⟩
                  · rw [if_neg hl] at hcl
                    cases hcl
              · simp only [e5] at hcl
                cases hcl
              · simp only [z] at hcl
                cases hcl
          · simp only [e4] at hcl
            cases hcl
          · simp only [z] at hcl
            cases hcl
      · have e : i = xs.length := by omega
        subst e
        rw [List.drop_length] at hcl
        unfold compL at hcl
        injection hcl with hcl
        injection hcl with h1 h2
        subst h1 h2
        obtain ⟨D', eD, k1, k2, k3⟩ := hv
        injection eD with eD
        subst eD
        refine .inl ⟨w2 (Nat.le_refl _), q W H _ (f1.trans f) S ⟨D, rfl, k1, k2, k3, ?_⟩⟩
        exact f1.none D hD
end
end Tz

set_option Elab.async false
set_option linter.all false
set_option maxRecDepth 100000
set_option maxHeartbeats 4000000
/-! Ts6: operations on values, built-ins. -/
namespace Tz
open PySem L2 PyProof.Rows
section
variable {X : Cx} {p : Prm} {Wx : WX}
theorem rvr_int {Hs H : Hp} {W : Wd} {x : RV} {v : V} {i : Int} (h : RVr p Hs W H x v) (e : x.d = .int i) : v = .int i := by
  have z := h.plain (by rw [e]; rfl)
  rw [e] at z
  exact z
theorem rvr_bl {Hs H : Hp} {W : Wd} {x : RV} {v : V} {i : Bool} (h : RVr p Hs W H x v) (e : x.d = .bl i) : v = .bl i := by
  have z := h.plain (by rw [e]; rfl)
  rw [e] at z
  exact z
theorem rvr_str {Hs H : Hp} {W : Wd} {x : RV} {v : V} {i : Str} (h : RVr p Hs W H x v) (e : x.d = .str i) : v = .str i := by
  have z := h.plain (by rw [e]; rfl)
  rw [e] at z
  exact z
theorem rvr_non {Hs H : Hp} {W : Wd} {x : RV} {v : V} (h : RVr p Hs W H x v) (e : x.d = .non) : v = .non := by
  have z := h.plain (by rw [e]; rfl)
  rw [e] at z
  exact z
/-! ### two ints -/
def i2 (C : Int → Int → Bool) (g : Int → Int → D) : Store → RV → RV → Option RV := fun _ x y => match x.d, y.d with
  | .int i, .int j => if C i j = true then some (.val (g i j)) else none
  | _, _ => none
theorem i2_some {C : Int → Int → Bool} {g : Int → Int → D} {st : Store} {x y z : RV} (h : i2 C g st x y = some z) : ∃ i j, x.d = .int i ∧ y.d = .int j ∧ C i j = true ∧ z = .val (g i j) := by
  unfold i2 at h
  split at h
  · rename_i i j e1 e2
    split at h
    · rename_i hc
      injection h with h
      exact ⟨i, j, e1, e2, hc, h.symm⟩
    · cases h
  · cases h
theorem op_i2 {f : Value → Value → Sem Value} {P : Int → Int → Prop} {C : Int → Int → Bool} {g : Int → Int → D} {gv : Int → Int → V} (ho : OpR X f (rI P gv)) (hP : ∀ i j, C i j = true → P i j) (hg : ∀ W H i j, Rep p W H (g i j) (gv i j)) : OpR X f (r2 p (i2 C g)) := by
  intro pins s σ H x y v u Q I rx ry ⟨W, st, Hs, a, b, z, S, R1, R2, e, q⟩
  obtain ⟨i, j, e1, e2, hc, rfl⟩ := i2_some e
  exact ho pins s σ H x y v u Q I rx ry ⟨i, j, rvr_int R1 e1, rvr_int R2 e2, hP i j hc, q W H _ Fut.refl S (hg W H i j)⟩
theorem op_i20 {f : Value → Value → Sem Value} {g : Int → Int → D} {gv : Int → Int → V} (ho : OpR X f (rI0 gv)) (hg : ∀ W H i j, Rep p W H (g i j) (gv i j)) : OpR X f (r2 p (i2 (fun _ _ => true) g)) := by
  intro pins s σ H x y v u Q I rx ry ⟨W, st, Hs, a, b, z, S, R1, R2, e, q⟩
  obtain ⟨i, j, e1, e2, hc, rfl⟩ := i2_some e
  exact ho pins s σ H x y v u Q I rx ry ⟨i, j, rvr_int R1 e1, rvr_int R2 e2, q W H _ Fut.refl S (hg W H i j)⟩
def mulOk (i j : Int) : Bool := decide (i.natAbs.log2 + j.natAbs.log2 < 1000000)
def divOk (_ j : Int) : Bool := decide (0 < j) && decide (j.natAbs.log2 < 9000)
def modOk (_ j : Int) : Bool := decide (0 < j)
def powOk (i j : Int) : Bool := decide (0 ≤ j) && decide (j ≤ 1000000) && decide (i.natAbs < 2 ^ 64)
def shrOk (_ j : Int) : Bool := decide (0 ≤ j)
def yes2 (_ _ : Int) : Bool := true
def subV := i2 yes2 fun i j => .int (i - j)
def mulV := i2 mulOk fun i j => .int (i * j)
def divV := i2 divOk fun i j => .int (i / j)
def modV := i2 modOk fun i j => .int (i % j)
def powV := i2 powOk fun i j => .int (i ^ j.toNat)
def shrV := i2 shrOk fun i j => .int (i / 2 ^ j.toNat)
def shlV := i2 powOk fun i j => .int (i * 2 ^ j.toNat)
def andV := i2 yes2 fun i j => .int (Builtin.bitAnd i j)
def ltV := i2 yes2 fun i j => .bl (decide (i < j))
def leV := i2 yes2 fun i j => .bl (decide (i ≤ j))
def gtV := i2 yes2 fun i j => .bl (decide (j < i))
def geV := i2 yes2 fun i j => .bl (decide (j ≤ i))
theorem op_subV : OpR X (binaryOp .Sub) (r2 p subV) := op_i20 op_sub fun _ _ _ _ => rfl
theorem op_mulV : OpR X (binaryOp .Mult) (r2 p mulV) := op_i2 op_mulW (fun i j h => (show i.natAbs.log2 + j.natAbs.log2 < 1000000 from of_decide_eq_true h)) fun _ _ _ _ => rfl
theorem op_divV : OpR X (binaryOp .FloorDiv) (r2 p divV) := op_i2 op_fdivW (fun i j h => by
  unfold divOk at h
  rw [Bool.and_eq_true] at h
  exact ⟨of_decide_eq_true h.1, of_decide_eq_true h.2⟩) fun _ _ _ _ => rfl
theorem op_modV : OpR X (binaryOp .Mod) (r2 p modV) := op_i2 op_mod (fun i j h => of_decide_eq_true h) fun _ _ _ _ => rfl
theorem op_powV : OpR X (binaryOp .Pow) (r2 p powV) := op_i2 op_pow (fun i j h => by
  unfold powOk at h
  rw [Bool.and_eq_true, Bool.and_eq_true] at h
  exact ⟨of_decide_eq_true h.1.1, of_decide_eq_true h.1.2, of_decide_eq_true h.2⟩) fun _ _ _ _ => rfl
theorem op_shrV : OpR X (binaryOp .RShift) (r2 p shrV) := op_i2 op_shr (fun i j h => of_decide_eq_true h) fun _ _ _ _ => rfl
theorem op_shlV : OpR X (binaryOp .LShift) (r2 p shlV) := op_i2 op_shl (fun i j h => by
  unfold powOk at h
  rw [Bool.and_eq_true, Bool.and_eq_true] at h
  exact ⟨of_decide_eq_true h.1.1, of_decide_eq_true h.1.2, of_decide_eq_true h.2⟩) fun _ _ _ _ => rfl
theorem op_andV : OpR X (binaryOp .BitAnd) (r2 p andV) := op_i20 op_and fun _ _ _ _ => rfl
theorem op_ltI : OpR X (compareOp .Lt) (r2 p ltV) := op_i20 op_lt fun _ _ _ _ => rfl
theorem op_leI : OpR X (compareOp .LtE) (r2 p leV) := op_i20 op_le fun _ _ _ _ => rfl
theorem op_gtI : OpR X (compareOp .Gt) (r2 p gtV) := op_i20 op_gt fun _ _ _ _ => rfl
theorem op_geI : OpR X (compareOp .GtE) (r2 p geV) := op_i20 op_ge fun _ _ _ _ => rfl
def imulV := i2 (fun i j => decide (-(2 ^ 64) < j) && decide (j < 2 ^ 64)) fun i j => .int (i * j)
theorem op_imulV : OpR X (inplaceOp .Mult) (r2 p imulV) := op_i2 iop_mul (fun i j h => by
  rw [Bool.and_eq_true] at h
  exact .inr ⟨of_decide_eq_true h.1, of_decide_eq_true h.2⟩) fun _ _ _ _ => rfl
/-! ### + -/
/-- the items of a list that is no read-only one -/
def asLm (st : Store) (v : RV) : Option (List D) := match v.d with
  | .lst xs => some xs
  | .ref n => match st[n]? with
    | some (.lst xs) => some xs
    | _ => none
  | _ => none
theorem RVr.listM {Hs H : Hp} {W : Wd} {st : Store} {x : RV} {v : V} {xs : List D} (S : SOk p W H st) (h : RVr p Hs W H x v) (e : asLm st x = some xs) : ∃ a vs, v = .ref a ∧ H a = some (.lst vs) ∧ RepL p W H xs vs := by
  have cc : ∀ {d : D} {a : Addr}, RepC p W H d a → asLm st (.val d) = some xs → ∃ vs, H a = some (.lst vs) ∧ RepL p W H xs vs := by
    intro d a h e
    cases d with
    | lst ys =>
      injection e with e
      subst e
      exact h
    | _ => first
      | exact h.elim
      | cases e
  cases x with
  | val d =>
    cases d with
    | lst ys =>
      injection e with e
      subst e
      obtain ⟨a, vs, e, _, q1, q2⟩ := h
      exact ⟨a, vs, e, q1, q2⟩
    | ref n =>
      obtain ⟨h1, h2⟩ := h
      have e' : (match st[n]? with | some (.lst xs) => some xs | _ => none) = some xs := e
      cases q : st[n]? with
      | none => rw [q] at e'; cases e'
      | some d =>
        rw [q] at e'
        have c := S.at_ n d q
        cases d with
        | lst ys =>
          injection e' with e'
          subst e'
          obtain ⟨vs, q1, q2⟩ := c
          exact ⟨_, vs, h2, q1, q2⟩
        | _ => first
          | exact c.elim
          | cases e'
    | _ => cases e
  | fresh d =>
    obtain ⟨a, rfl, h1, _⟩ := h
    obtain ⟨vs, q⟩ := cc h1 e
    exact ⟨a, vs, rfl, q⟩
  | peek d =>
    obtain ⟨a, rfl, h1, _⟩ := h
    obtain ⟨vs, q⟩ := cc h1 e
    exact ⟨a, vs, rfl, q⟩
def addV : Store → RV → RV → Option RV := fun st x y => match x.d, y.d with
  | .int i, .int j => some (.val (.int (i + j)))
  | .tup a, .tup b => if a.length + b.length ≤ lim then some (.val (.tup (a ++ b))) else none
  | .str a, .str b => if a.length + b.length ≤ lim then some (.val (.str (a ++ b))) else none
  | _, _ => match asLm st x, asLm st y with
    | some a, some b => if a.length + b.length ≤ lim then some (.fresh (.lst (a ++ b))) else none
    | _, _ => none
theorem repL_nil {W : Wd} {H : Hp} {xs : List D} {vs : List V} (r : RepL p W H xs vs) : vs = [] ↔ xs = [] := by
  have l := r.length
  cases vs <;> cases xs <;> first
    | (constructor <;> intro _ <;> rfl)
    | cases l
    | (constructor <;> intro z <;> cases z)
theorem op_addV (hK : p.K = X.K) : OpR X (binaryOp .Add) (r2 p addV) := by
  intro pins s σ H x y v u Q I rx ry ⟨W, st, Hs, a, b, z, S, R1, R2, e, q⟩
  unfold addV at e
  split at e
  · rename_i i j e1 e2
    injection e with e
    subst e
    exact op_add pins s σ H x y v u Q I rx ry ⟨i, j, rvr_int R1 e1, rvr_int R2 e2, q W H _ Fut.refl S rfl⟩
  · rename_i xs ys e1 e2
    split at e
    · rename_i hl
      injection e with e
      subst e
      obtain ⟨c, vs, rfl, h1, h2⟩ := rvr_ref (st := st) R1 e1
      obtain ⟨d, ws, rfl, k1, k2⟩ := rvr_ref (st := st) R2 e2
      refine op_catA pins s σ H _ _ v u Q I rx ry ⟨c, d, vs, ws, rfl, rfl, hK ▸ h1, hK ▸ k1, by rw [h2.length, k2.length]; exact lim_le hl, fun hv => ?_, fun hv hw => ?_, fun hv hw a hn => ?_⟩
      · refine q W H _ Fut.refl S ?_
        have : xs = [] := (repL_nil h2).mp hv
        subst this
        exact ⟨d, ws, rfl, k1, k2⟩
      · refine q W H _ Fut.refl S ?_
        have : ys = [] := (repL_nil k2).mp hw
        subst this
        rw [List.append_nil]
        exact ⟨c, vs, rfl, h1, h2⟩
      · exact q W _ _ (Fut.laid S hn) (S.laid hn) (tup_mk S hn (h2.app k2))
    · cases e
  · rename_i xs ys e1 e2
    split at e
    · rename_i hl
      injection e with e
      subst e
      exact op_add_str pins s σ H x y v u Q I rx ry ⟨xs, ys, rvr_str R1 e1, rvr_str R2 e2, lim_le hl, q W H _ Fut.refl S rfl⟩
    · cases e
  · split at e
    · rename_i xs ys e1 e2
      split at e
      · rename_i hl
        injection e with e
        subst e
        obtain ⟨c, vs, rfl, h1, h2⟩ := R1.listM S e1
        obtain ⟨d, ws, rfl, k1, k2⟩ := R2.listM S e2
        exact op_cat pins s σ H _ _ v u Q I rx ry ⟨c, d, vs, ws, rfl, rfl, h1, k1, by rw [h2.length, k2.length]; exact lim_le hl, fun a hn => q W _ _ (Fut.laid S hn) (S.laid hn) (fresh_mk S hn (h2.app k2))⟩
      · cases e
    · cases e
/-! ### == of scalars -/
def eqS : D → D → Option Bool
  | .non, .non => some true
  | .non, .int _ => some false
  | .int _, .non => some false
  | .non, .bl _ => some false
  | .bl _, .non => some false
  | .non, .str _ => some false
  | .str _, .non => some false
  | .int i, .int j => some (decide (i = j))
  | .bl i, .bl j => some (decide (i = j))
  | .str i, .str j => some (decide (i = j))
  | .int _, .str _ => some false
  | .str _, .int _ => some false
  | .bl _, .str _ => some false
  | .str _, .bl _ => some false
  | _, _ => none
def eqV : Store → RV → RV → Option RV := fun _ x y => match eqS x.d y.d with
  | some b => some (.val (.bl b))
  | none => none
def neV : Store → RV → RV → Option RV := fun _ x y => match eqS x.d y.d with
  | some b => some (.val (.bl (!b)))
  | none => none
def scV : D → Option V
  | .non => some .non
  | .bl b => some (.bl b)
  | .int i => some (.int i)
  | .str s => some (.str s)
  | _ => none
theorem scV_rep {W : Wd} {H Hs : Hp} {x : RV} {v w : V} (h : RVr p Hs W H x v) (e : scV x.d = some w) : v = w := by
  cases q : x.d with
  | non => rw [q] at e; injection e with e; rw [← e]; exact rvr_non h q
  | bl b => rw [q] at e; injection e with e; rw [← e]; exact rvr_bl h q
  | int b => rw [q] at e; injection e with e; rw [← e]; exact rvr_int h q
  | str b => rw [q] at e; injection e with e; rw [← e]; exact rvr_str h q
  | _ => rw [q] at e; cases e
theorem eqS_sc {d e : D} {b : Bool} (h : eqS d e = some b) : ∃ v w, scV d = some v ∧ scV e = some w ∧ scal v w = true ∧ decide (v = w) = b := by
  cases d <;> cases e <;> first
    | (cases h; done)
    | (injection h with h; subst h; exact ⟨_, _, rfl, rfl, rfl, by simp⟩)
theorem op_eqV : OpR X (compareOp .Eq) (r2 p eqV) := by
  intro pins s σ H x y v u Q I rx ry ⟨W, st, Hs, a, b, z, S, R1, R2, e, q⟩
  unfold eqV at e
  split at e
  · rename_i k ek
    injection e with e
    subst e
    obtain ⟨v1, w1, h1, h2, h3, h4⟩ := eqS_sc ek
    have ex := scV_rep R1 h1
    have ey := scV_rep R2 h2
    subst ex ey
    exact op_eq pins s σ H _ _ v u Q I rx ry ⟨h3, by rw [h4]; exact q W H _ Fut.refl S rfl⟩
  · cases e
theorem op_neV : OpR X (compareOp .NotEq) (r2 p neV) := by
  intro pins s σ H x y v u Q I rx ry ⟨W, st, Hs, a, b, z, S, R1, R2, e, q⟩
  unfold neV at e
  split at e
  · rename_i k ek
    injection e with e
    subst e
    obtain ⟨v1, w1, h1, h2, h3, h4⟩ := eqS_sc ek
    have ex := scV_rep R1 h1
    have ey := scV_rep R2 h2
    subst ex ey
    exact op_ne pins s σ H _ _ v u Q I rx ry ⟨h3, by rw [h4]; exact q W H _ Fut.refl S rfl⟩
  · cases e
/-! ### is None -/
def isN (d : D) : Bool := match d with
  | .non => true
  | _ => false
def isV : Store → RV → RV → Option RV := fun _ x y => match y.d with
  | .non => some (.val (.bl (isN x.d)))
  | _ => none
def isntV : Store → RV → RV → Option RV := fun _ x y => match y.d with
  | .non => some (.val (.bl (!isN x.d)))
  | _ => none
theorem isN_rep {W : Wd} {H Hs : Hp} {x : RV} {v : V} (h : RVr p Hs W H x v) : decide (v = .non) = isN x.d := by
  cases x with
  | fresh d =>
    obtain ⟨a, rfl, h, _⟩ := h
    cases d with
    | lst xs => exact decide_eq_false (fun z => by cases z)
    | ins c ns fs => exact decide_eq_false (fun z => by cases z)
    | dct ks xs => exact decide_eq_false (fun z => by cases z)
    | _ => exact h.elim
  | peek d =>
    obtain ⟨a, rfl, h, _⟩ := h
    cases d with
    | lst xs => exact decide_eq_false (fun z => by cases z)
    | ins c ns fs => exact decide_eq_false (fun z => by cases z)
    | dct ks xs => exact decide_eq_false (fun z => by cases z)
    | _ => exact h.elim
  | val d =>
    cases d with
    | non => have h : v = .non := h; subst h; rfl
    | bl b => have h : v = .bl b := h; subst h; rfl
    | int b => have h : v = .int b := h; subst h; rfl
    | str b => have h : v = .str b := h; subst h; rfl
    | tup xs => obtain ⟨a, vs, rfl, _⟩ := h; exact decide_eq_false (fun z => by cases z)
    | lst xs => obtain ⟨a, vs, rfl, _⟩ := h; exact decide_eq_false (fun z => by cases z)
    | rol xs => obtain ⟨a, vs, rfl, _⟩ := h; exact decide_eq_false (fun z => by cases z)
    | ref n => obtain ⟨_, rfl⟩ := h; exact decide_eq_false (fun z => by cases z)
    | ins c ns fs => obtain ⟨a, dx, vs, rfl, _⟩ := h; exact decide_eq_false (fun z => by cases z)
    | dct ks xs => obtain ⟨a, vs, rfl, _⟩ := h; exact decide_eq_false (fun z => by cases z)
theorem op_isV : OpR X (compareOp .Is) (r2 p isV) := by
  intro pins s σ H x y v u Q I rx ry ⟨W, st, Hs, a, b, z, S, R1, R2, e, q⟩
  unfold isV at e
  split at e
  · rename_i ek
    injection e with e
    subst e
    exact op_isN pins s σ H _ _ v u Q I rx ry ⟨rvr_non R2 ek, by rw [isN_rep R1]; exact q W H _ Fut.refl S rfl⟩
  · cases e
theorem op_isntV : OpR X (compareOp .IsNot) (r2 p isntV) := by
  intro pins s σ H x y v u Q I rx ry ⟨W, st, Hs, a, b, z, S, R1, R2, e, q⟩
  unfold isntV at e
  split at e
  · rename_i ek
    injection e with e
    subst e
    exact op_notN pins s σ H _ _ v u Q I rx ry ⟨rvr_non R2 ek, by rw [isN_rep R1]; exact q W H _ Fut.refl S rfl⟩
  · cases e
/-! ### subscripts -/
def ixV : Store → RV → RV → Option RV := fun st x y => match y.d with
  | .int i => match x.d with
    | .tup xs => (atI xs i).map .val
    | .str s => if s.length ≤ lim then (atI s.cps.toList i).map fun c => .val (.str ⟨#[c]⟩) else none
    | _ => match asL st x with
      | some xs => (atI xs i).map .val
      | none => none
  | _ => none
theorem atI_rep {W : Wd} {H : Hp} {xs : List D} {vs : List V} {i : Int} {d : D} (r : RepL p W H xs vs) (h : atI xs i = some d) : ∃ v, atI vs i = some v ∧ Rep p W H d v := by
  unfold atI at h ⊢
  rw [r.length]
  cases q : ixN xs.length i with
  | none => rw [q] at h; cases h
  | some j =>
    rw [q] at h
    exact r.get h
theorem ix_ok (hK : p.K = X.K) : IxR X (r2 p ixV) := by
  intro value slice pins s σ H x y v u Q I rx ry ⟨W, st, Hs, a, b, z, S, R1, R2, e, q⟩ hs
  unfold ixV at e
  split at e
  · rename_i i ei
    have ey := rvr_int R2 ei
    subst ey
    split at e
    · rename_i xs ex
      cases q2 : atI xs i with
      | none => rw [q2] at e; cases e
      | some d =>
        rw [q2] at e
        injection e with e
        subst e
        obtain ⟨c, vs, rfl, h1, h2⟩ := rvr_ref (st := st) R1 ex
        obtain ⟨w, k1, k2⟩ := atI_rep h2 q2
        exact ix_tup value slice pins s σ H _ _ v u Q I rx ry ⟨c, vs, i, w, rfl, rfl, hK ▸ h1, k1, q W H _ Fut.refl S k2⟩ hs
    · rename_i xs ex
      split at e
      · rename_i hl
        cases q2 : atI xs.cps.toList i with
        | none => rw [q2] at e; cases e
        | some d =>
          rw [q2] at e
          injection e with e
          subst e
          exact ix_str value slice pins s σ H _ _ v u Q I rx ry ⟨xs, i, d, rvr_str R1 ex, rfl, lim_le hl, q2, q W H _ Fut.refl S rfl⟩ hs
      · cases e
    · split at e
      · rename_i xs ex
        cases q2 : atI xs i with
        | none => rw [q2] at e; cases e
        | some d =>
          rw [q2] at e
          injection e with e
          subst e
          obtain ⟨c, vs, rfl, h1, h2⟩ := R1.list S ex
          obtain ⟨w, k1, k2⟩ := atI_rep h2 q2
          exact ix_list value slice pins s σ H _ _ v u Q I rx ry ⟨c, vs, i, w, rfl, rfl, hK ▸ h1, k1, q W H _ Fut.refl S k2⟩ hs
      · cases e
  · cases e
/-- a slice's end: an int, or left out -/
def cutD {α : Type} (xs : List α) (lo hi : Option Int) : List α := (xs.drop (HT.sIx xs.length 0 lo)).take (HT.sIx xs.length xs.length hi - HT.sIx xs.length 0 lo)
theorem cutD_rep {W : Wd} {H : Hp} {xs : List D} {vs : List V} {lo hi : Option Int} (r : RepL p W H xs vs) : RepL p W H (cutD xs lo hi) (cutV vs lo hi) := by
  unfold cutD cutV
  rw [r.length]
  exact (r.drop _).take _
def slV (st : Store) (x : RV) (lo hi : Option Int) : Option RV := match x.d with
  | .tup xs => some (.val (.tup (cutD xs lo hi)))
  | _ => match asL st x with
    | some xs => some (.fresh (.lst (cutD xs lo hi)))
    | none => none
def rSl (p : Prm) : V → Option Int → Option Int → Hp → VK → Prop := fun x lo hi H Q => ∃ W st Hs u z, SOk p W H st ∧ RVr p Hs W H u x ∧ slV st u lo hi = some z ∧
  ∀ W' H' w, Fut W H W' H' → SOk p W' H' st → RVr p H W' H' z w → Q w H'
theorem cutD_all {xs : List D} {lo hi : Option Int} (h : HT.sIx xs.length 0 lo = 0 ∧ HT.sIx xs.length xs.length hi = xs.length) : cutD xs lo hi = xs := by
  unfold cutD
  rw [h.1, h.2]
  simp
theorem sl_ok (hK : p.K = X.K) : SlR X (rSl p) := by
  intro pins s σ H x v vl vu lo hi sl Q I rx hs pl pu ⟨W, st, Hs, a, z, S, R1, e, q⟩
  unfold slV at e
  split at e
  · rename_i xs ex
    injection e with e
    subst e
    obtain ⟨c, vs, rfl, h1, h2⟩ := rvr_ref (st := st) R1 ex
    refine sl_tupA pins s σ H _ v vl vu lo hi sl Q I rx hs pl pu ⟨c, vs, rfl, hK ▸ h1, fun hh => ?_, fun hh a hn => ?_⟩
    · refine q W H _ Fut.refl S ?_
      rw [cutD_all (by rw [← h2.length]; exact hh)]
      exact ⟨c, vs, rfl, h1, h2⟩
    · exact q W _ _ (Fut.laid S hn) (S.laid hn) (tup_mk S hn (cutD_rep h2))
  · split at e
    · rename_i xs ex
      injection e with e
      subst e
      obtain ⟨c, vs, rfl, h1, h2⟩ := R1.list S ex
      exact sl_list pins s σ H _ v vl vu lo hi sl Q I rx hs pl pu ⟨c, vs, rfl, hK ▸ h1, fun a hn => q W _ _ (Fut.laid S hn) (S.laid hn) (fresh_mk S hn (cutD_rep h2))⟩
    · cases e
/-- e[lo:hi] -/
def oNone : Rho → Store → Option (Option Int × Store) := fun _ st => some (none, st)
def oSome (a : ESem) : Rho → Store → Option (Option Int × Store) := fun r st => match a r st with
  | some (.ok (.val (.int i)) st1) => some (some i, st1)
  | _ => none
def eSl (a : ESem) (lo hi : Rho → Store → Option (Option Int × Store)) : ESem := fun r st => match a r st with
  | some (.ok x st1) => match lo r st1 with
    | some (l, st2) => match hi r st2 with
      | some (h, st3) => match slV st3 x l h with
        | some z => some (.ok z st3)
        | none => none
      | none => none
    | none => none
  | some (.exc x st1) => some (.exc x st1)
  | none => none
def tO (p : Prm) (o : Rho → Store → Option (Option Int × Store)) : TO := fun σ H Q => ∃ W0 H0 W r st, Good p W0 H0 W σ H r st ∧ match o r st with
  | none => False
  | some (i, st') => ∀ W' H', Fut W H W' H' → SOk p W' H' st' → Q i H'
theorem _root_.L2.PO.weak {e : Option Expr} {t t' : TO} (h : PO X e t) (w : ∀ σ H Q, t' σ H Q → t σ H Q) : PO X e t' := ⟨fun pins s σ H Q I q => h.run pins s σ H Q I (w σ H Q q)⟩
theorem po_noneS : PO X none (tO p oNone) := po_none.weak fun σ H Q ⟨W0, H0, W, r, st, G, q⟩ => q W H Fut.refl G.ok
theorem po_someS {e : Expr} {f : ESem} (h : PE X e (tE p Wx f)) : PO X (some e) (tO p (oSome f)) := by
  refine (po_some h).weak fun σ H Q ⟨W0, H0, W, r, st, G, q⟩ => ?_
  unfold oSome at q
  refine tE_bind G (fun v st1 e1 W1 H1 x f1 S1 R1 G1 => ?_) (fun e st1 e1 => ?_) (fun z => ?_)
  · simp only [e1] at q
    cases v with
    | val d =>
      cases d with
      | int i => exact ⟨i, R1, q W1 H1 f1 S1⟩
      | _ => exact False.elim q
    | _ => exact False.elim q
  · simp only [e1] at q
  · simp only [z] at q
theorem pe_slS {e : Expr} {lo hi : Option Expr} {f : ESem} {l h : Rho → Store → Option (Option Int × Store)} {p2 pos : Pos} (hK : p.K = X.K) (he : PE X e (tE p Wx f)) (hl : PO X lo (tO p l)) (hh : PO X hi (tO p h)) : PE X (.Subscript e (.Slice lo hi none p2) pos) (tE p Wx (eSl f l h)) := by
  refine (pe_slice (sl_ok (p := p) hK) he hl hh).weak fun σ H Q ⟨W0, H0, W, r, st, G, q⟩ => ?_
  unfold eSl at q
  refine tE_bind G (fun v st1 e1 W1 H1 x f1 S1 R1 G1 => ?_) (fun e st1 e1 => ?_) (fun z => ?_)
  · simp only [e1] at q
    refine ⟨W0, H0, W1, r, st1, G1, ?_⟩
    cases el : l r st1 with
    | none => simp only [el] at q; exact q
    | some y =>
      obtain ⟨i, st2⟩ := y
      simp only [el] at q
      intro W2 H2 f2 S2
      have G2 := G1.to f2 S2
      refine ⟨W0, H0, W2, r, st2, G2, ?_⟩
      cases eh : h r st2 with
      | none => simp only [eh] at q; exact q
      | some y =>
        obtain ⟨j, st3⟩ := y
        simp only [eh] at q
        intro W3 H3 f3 S3
        cases ez : slV st3 v i j with
        | none => simp only [ez] at q; exact q.elim
        | some z =>
          simp only [ez] at q
          exact ⟨W3, st3, H, v, z, S3, (R1.fut f2 S1).fut f3 S2, ez, fun W4 H4 w f4 S4 R4 => q W4 H4 w (f1.trans (f2.trans (f3.trans f4))) S4 (R4.back fun a z => f3.tr a (f2.tr a (f1.tr a z)))⟩
  · simp only [e1] at q
    exact q
  · simp only [z] at q
    exact q
end
end Tz

set_option Elab.async false
set_option linter.all false
set_option maxRecDepth 100000
set_option maxHeartbeats 4000000
/-! Ts7: built-ins; a list's item stored; name op= value. -/
namespace Tz
open PySem L2 PyProof.Rows
section
variable {X : Cx} {p : Prm} {Wx : WX} {pos pp : Pos} {f g : ESem} {e e1 e2 : Expr}
/-- a built-in of one told thing -/
def rB1 (p : Prm) (fn : Store → RV → Option RV) : List V → Hp → VK → Prop := fun vs H Q => ∃ v, vs = [v] ∧ r1 p fn v H Q
theorem pe_blt1 {x : Str} {id : String} {fn : Store → RV → Option RV} (hc : CallR X (.builtin id) (rB1 p fn)) (hg : Gl X x) (hm : X.mg x = none) (hv : bootBuiltins x = some (.builtin id)) (ha : PE X e (tE p Wx f)) (hs : notStar e = true) (hn : x ≠ "__name__") (hdb : (x == ("__debug__" : Str)) = false) :
    PE X (.Call (.Name x pp) [e] [] pos) (tE p Wx (eOp1 fn f)) :=
  (pe_callB hc hg hm hv (pa_cons ha pa_nil (starEach_cons hs)) hn hdb (starEach_cons hs) rfl).weak fun _ _ _ => blt1_weak
theorem pe_ty1 {x : Str} {T : String} {fn : Store → RV → Option RV} (hc : CallR X (.type T) (rB1 p fn)) (hg : Gl X x) (hm : X.mg x = none) (hv : bootBuiltins x = some (.type T)) (ha : PE X e (tE p Wx f)) (hs : notStar e = true) (hn : x ≠ "__name__") (hdb : (x == ("__debug__" : Str)) = false) :
    PE X (.Call (.Name x pp) [e] [] pos) (tE p Wx (eOp1 fn f)) :=
  (pe_callTy hc hg hm hv (pa_cons ha pa_nil (starEach_cons hs)) hn hdb (starEach_cons hs) rfl).weak fun _ _ _ => blt1_weak
def lenV : Store → RV → Option RV := fun st x => match x.d with
  | .tup xs => some (.val (.int xs.length))
  | .str s => if s.length ≤ lim then some (.val (.int s.length)) else none
  | _ => match asL st x with
    | some xs => some (.val (.int xs.length))
    | none => none
theorem len_ok (hK : p.K = X.K) : CallR X (.builtin "len") (rB1 p lenV) := by
  intro pins s σ H xs us Q I r ⟨v, ev, W, st, Hs, u, z, S, R, e, q⟩
  subst ev
  unfold lenV at e
  split at e
  · rename_i ys ey
    injection e with e
    subst e
    obtain ⟨a, vs, rfl, h1, h2⟩ := rvr_ref (st := st) R ey
    exact call_len pins s σ H _ us Q I r ⟨_, vs.length, rfl, .inr ⟨vs, hK ▸ h1, rfl⟩, q W H _ Fut.refl S (by rw [h2.length]; exact rfl)⟩
  · rename_i s' ey
    split at e
    · rename_i hl
      injection e with e
      subst e
      have h := rvr_str R ey
      subst h
      exact call_len pins s σ H _ us Q I r ⟨_, s'.length, rfl, ⟨lim_le hl, rfl⟩, q W H _ Fut.refl S rfl⟩
    · cases e
  · split at e
    · rename_i ys ey
      injection e with e
      subst e
      obtain ⟨a, vs, rfl, h1, h2⟩ := R.list S ey
      exact call_len pins s σ H _ us Q I r ⟨_, vs.length, rfl, .inl ⟨vs, hK ▸ h1, rfl⟩, q W H _ Fut.refl S (by rw [h2.length]; exact rfl)⟩
    · cases e
def absV : Store → RV → Option RV := fun _ x => match x.d with
  | .int i => some (.val (.int i.natAbs))
  | _ => none
theorem abs_ok : CallR X (.builtin "abs") (rB1 p absV) := by
  intro pins s σ H xs us Q I r ⟨v, ev, W, st, Hs, u, z, S, R, e, q⟩
  subst ev
  unfold absV at e
  split at e
  · rename_i i ei
    injection e with e
    subst e
    have h := rvr_int R ei
    subst h
    refine call_abs pins s σ H _ us Q I r ⟨i, rfl, ?_⟩
    have e2 : (if i < 0 then -i else i) = (i.natAbs : Int) := by split <;> omega
    rw [e2]
    exact q W H _ Fut.refl S rfl
  · cases e
def intV : Store → RV → Option RV := fun _ x => match x.d with
  | .int i => some (.val (.int i))
  | .bl b => some (.val (.int (if b = true then 1 else 0)))
  | _ => none
theorem int_ok : CallR X (.type "int") (rB1 p intV) := by
  intro pins s σ H xs us Q I r ⟨v, ev, W, st, Hs, u, z, S, R, e, q⟩
  subst ev
  unfold intV at e
  split at e
  · rename_i i ei
    injection e with e
    subst e
    have h := rvr_int R ei
    subst h
    exact call_int1 pins s σ H _ us Q I r (.inl ⟨i, rfl, q W H _ Fut.refl S rfl⟩)
  · rename_i i ei
    injection e with e
    subst e
    have h := rvr_bl R ei
    subst h
    exact call_int1 pins s σ H _ us Q I r (.inr ⟨i, rfl, q W H _ Fut.refl S rfl⟩)
  · cases e
/-- a list of truths -/
def bools : List D → Option (List Bool)
  | [] => some []
  | .bl b :: xs => match bools xs with
    | some bs => some (b :: bs)
    | none => none
  | _ => none
theorem bools_rep {W : Wd} {H : Hp} : ∀ {xs : List D} {vs : List V} {bs : List Bool}, RepL p W H xs vs → bools xs = some bs → vs = bs.map V.bl
  | [], vs, bs, h, e => by
    have h : vs = [] := h
    injection e with e
    subst e h
    rfl
  | x :: xs, vs, bs, h, e => by
    obtain ⟨v, r, rfl, h1, h2⟩ := h
    cases x with
    | bl b =>
      have e : (match bools xs with | some bs => some (b :: bs) | none => none) = some bs := e
      cases q : bools xs with
      | none => rw [q] at e; cases e
      | some bs' =>
        rw [q] at e
        injection e with e
        subst e
        have h1 : v = .bl b := h1
        rw [h1, bools_rep h2 q]
        rfl
    | _ => cases e
def allV : Store → RV → Option RV := fun st x => match asL st x with
  | some xs => match bools xs with
    | some bs => some (.val (.bl (bs.all id)))
    | none => none
  | none => none
def anyV : Store → RV → Option RV := fun st x => match asL st x with
  | some xs => match bools xs with
    | some bs => some (.val (.bl (bs.any id)))
    | none => none
  | none => none
theorem all_ok (hK : p.K = X.K) (hc : X.calm = true) : CallR X (.builtin "all") (rB1 p allV) := by
  intro pins s σ H xs us Q I r ⟨v, ev, W, st, Hs, u, z, S, R, e, q⟩
  subst ev
  unfold allV at e
  split at e
  · rename_i ys ey
    split at e
    · rename_i bs eb
      injection e with e
      subst e
      obtain ⟨a, vs, rfl, h1, h2⟩ := R.list S ey
      have e2 := bools_rep h2 eb
      subst e2
      exact cr_all hc pins s σ H _ us Q I r ⟨a, bs, rfl, hK ▸ h1, q W H _ Fut.refl S rfl⟩
    · cases e
  · cases e
theorem any_ok (hK : p.K = X.K) (hc : X.calm = true) : CallR X (.builtin "any") (rB1 p anyV) := by
  intro pins s σ H xs us Q I r ⟨v, ev, W, st, Hs, u, z, S, R, e, q⟩
  subst ev
  unfold anyV at e
  split at e
  · rename_i ys ey
    split at e
    · rename_i bs eb
      injection e with e
      subst e
      obtain ⟨a, vs, rfl, h1, h2⟩ := R.list S ey
      have e2 := bools_rep h2 eb
      subst e2
      exact cr_any hc pins s σ H _ us Q I r ⟨a, bs, rfl, hK ▸ h1, q W H _ Fut.refl S rfl⟩
    · cases e
  · cases e
/-- tuple(..) of a list or a tuple -/
def tupV : Store → RV → Option RV := fun st x => match x.d with
  | .tup xs => some (.val (.tup xs))
  | _ => match asL st x with
    | some xs => some (.val (.tup xs))
    | none => none
theorem tup_ok (hK : p.K = X.K) : CallR X (.type "tuple") (rB1 p tupV) := by
  intro pins s σ H xs us Q I r ⟨v, ev, W, st, Hs, u, z, S, R, e, q⟩
  subst ev
  unfold tupV at e
  split at e
  · rename_i ys ey
    injection e with e
    subst e
    obtain ⟨a, vs, rfl, h1, h2⟩ := rvr_ref (st := st) R ey
    exact call_tuple_of pins s σ H _ us Q I r ⟨a, vs, rfl, .inr ⟨hK ▸ h1, q W H _ Fut.refl S ⟨a, vs, rfl, h1, h2⟩⟩⟩
  · split at e
    · rename_i ys ey
      injection e with e
      subst e
      obtain ⟨a, vs, rfl, h1, h2⟩ := R.list S ey
      exact call_tuple_of pins s σ H _ us Q I r ⟨a, vs, rfl, .inl ⟨hK ▸ h1, fun c hn => q W _ _ (Fut.laid S hn) (S.laid hn) (tup_mk S hn h2)⟩⟩
    · cases e
/-! two arguments -/
def rB2 (p : Prm) (fn : Store → RV → RV → Option RV) : List V → Hp → VK → Prop := fun vs H Q => ∃ v w, vs = [v, w] ∧ r2 p fn v w H Q
theorem blt2_weak {fn : Store → RV → RV → Option RV} {σ : L2.St} {H : Hp} {Q : VK} (w : tE p Wx (eOp2 fn f g) σ H Q) : tCB (rB2 p fn) (tCons (tE p Wx f) (tCons (tE p Wx g) tNil)) σ H Q := by
  obtain ⟨W0, H0, W, r, st, G, q⟩ := op2_weak w
  refine ⟨W0, H0, W, r, st, G, ?_⟩
  cases z : f r st with
  | none => rw [z] at q; exact q.elim
  | some y =>
    rw [z] at q
    cases y with
    | exc e st1 => exact q
    | ok v st1 =>
      intro W1 H1 x f1 S1 R1
      obtain ⟨V0, G0, V, r', st', G', q⟩ := q W1 H1 x f1 S1 R1
      refine ⟨V0, G0, V, r', st', G', ?_⟩
      cases z2 : g r' st' with
      | none => rw [z2] at q; exact q.elim
      | some y2 =>
        rw [z2] at q
        cases y2 with
        | exc e st2 => exact q
        | ok w st2 => exact fun W2 H2 y f2 S2 R2 => ⟨x, y, rfl, q W2 H2 y f2 S2 R2⟩
theorem pe_blt2 {x : Str} {id : String} {fn : Store → RV → RV → Option RV} (hc : CallR X (.builtin id) (rB2 p fn)) (hg : Gl X x) (hm : X.mg x = none) (hv : bootBuiltins x = some (.builtin id)) (ha : PE X e1 (tE p Wx f)) (hb : PE X e2 (tE p Wx g)) (hs : notStar e1 = true) (hs2 : notStar e2 = true) (hn : x ≠ "__name__") (hdb : (x == ("__debug__" : Str)) = false) :
    PE X (.Call (.Name x pp) [e1, e2] [] pos) (tE p Wx (eOp2 fn f g)) :=
  (pe_callB hc hg hm hv (pa_cons ha (pa_cons hb pa_nil (starEach_cons hs2)) (starEach_cons hs)) hn hdb (starEach_cons hs) (by rw [starEach_cons hs2]; rfl)).weak fun _ _ _ => blt2_weak
def max2V := i2 yes2 fun i j => .int (if j > i then j else i)
def min2V := i2 yes2 fun i j => .int (if j < i then j else i)
theorem max2_ok (hc : X.calm = true) : CallR X (.builtin "max") (rB2 p max2V) := by
  intro pins s σ H xs us Q I r ⟨v, w, ev, W, st, Hs, a, b, z, S, R1, R2, e, q⟩
  subst ev
  obtain ⟨i, j, e1, e2, _, rfl⟩ := i2_some e
  have h1 := rvr_int R1 e1
  have h2 := rvr_int R2 e2
  subst h1 h2
  exact call_max2 hc pins s σ H _ us Q I r ⟨i, j, rfl, q W H _ Fut.refl S rfl⟩
theorem min2_ok (hc : X.calm = true) : CallR X (.builtin "min") (rB2 p min2V) := by
  intro pins s σ H xs us Q I r ⟨v, w, ev, W, st, Hs, a, b, z, S, R1, R2, e, q⟩
  subst ev
  obtain ⟨i, j, e1, e2, _, rfl⟩ := i2_some e
  have h1 := rvr_int R1 e1
  have h2 := rvr_int R2 e2
  subst h1 h2
  exact call_min2 hc pins s σ H _ us Q I r ⟨i, j, rfl, q W H _ Fut.refl S rfl⟩
/-! ### isinstance of built-in types -/
inductive Ty where
  | non | bl | int | str | tup | lst | dct
  deriving DecidableEq
def Ty.name : Ty → String
  | .non => "NoneType" | .bl => "bool" | .int => "int" | .str => "str" | .tup => "tuple" | .lst => "list" | .dct => "dict"
def tyD (st : Store) : D → Option Ty
  | .non => some .non
  | .bl _ => some .bl
  | .int _ => some .int
  | .str _ => some .str
  | .tup _ => some .tup
  | .lst _ => some .lst
  | .rol _ => some .lst
  | .ref n => match st[n]? with
    | some (.lst _) => some .lst
    | _ => none
  | .ins _ _ _ => none
  | .dct _ _ => some .dct
def tyIs : Ty → Ty → Bool
  | .bl, .int => true
  | a, b => decide (a = b)
theorem tyIs_kit (a b : Ty) (hb : b ≠ .non) : kitB a.name b.name = some (tyIs a b) := by
  cases a <;> cases b <;> first
    | exact absurd rfl hb
    | decide +kernel
theorem tyX_tup {K : PySem.W.Frag} {H : Hp} {a : Addr} {vs : List V} (h : SqT K H a vs) : TyX K H (.ref a) (.type "tuple") := by
  rcases h with (h | ⟨o, h⟩) | ⟨o, _, _, h, c, _⟩
  · exact .base (.tup h)
  · exact .fTuple h
  · exact .kTuple h c
theorem tyX_lst {K : PySem.W.Frag} {H : Hp} {a : Addr} {vs : List V} (h : SqL K H a vs) : TyX K H (.ref a) (.type "list") := by
  rcases h with (h | ⟨o, h⟩) | ⟨o, _, _, h, c, _⟩
  · exact .base (.lst h)
  · exact .base (.frz h)
  · exact .kList h c
theorem tyX_of {W : Wd} {H Hs : Hp} {st : Store} {x : RV} {v : V} {t : Ty} (S : SOk p W H st) (h : RVr p Hs W H x v) (e : tyD st x.d = some t) : TyX p.K H v (.type t.name) := by
  cases q : x.d with
  | non => rw [q] at e; injection e with e; subst e; rw [rvr_non h q]; exact .base .non
  | bl b => rw [q] at e; injection e with e; subst e; rw [rvr_bl h q]; exact .base (.bl b)
  | int b => rw [q] at e; injection e with e; subst e; rw [rvr_int h q]; exact .base (.int b)
  | str b => rw [q] at e; injection e with e; subst e; rw [rvr_str h q]; exact .base (.str b)
  | tup xs =>
    rw [q] at e
    injection e with e
    subst e
    obtain ⟨a, vs, rfl, h1, h2⟩ := rvr_ref (st := st) h q
    exact tyX_tup h1
  | lst xs =>
    rw [q] at e
    injection e with e
    subst e
    obtain ⟨a, vs, rfl, h1, h2⟩ := h.list (xs := xs) S (by unfold asL; rw [q])
    exact tyX_lst h1
  | rol xs =>
    rw [q] at e
    injection e with e
    subst e
    obtain ⟨a, vs, rfl, h1, h2⟩ := h.list (xs := xs) S (by unfold asL; rw [q])
    exact tyX_lst h1
  | ref n =>
    rw [q] at e
    have e : (match st[n]? with | some (.lst _) => some Ty.lst | _ => none) = some t := e
    split at e
    · rename_i xs hx
      injection e with e
      subst e
      obtain ⟨a, vs, rfl, h1, h2⟩ := h.list (xs := xs) S (by unfold asL; rw [q]; dsimp only; rw [hx])
      exact tyX_lst h1
    · cases e
  | ins c ns fs => rw [q] at e; cases e
  | dct ks xs =>
    rw [q] at e
    injection e with e
    subst e
    have cc : ∀ {a : Addr} {vs : List V}, H a = some (.dK (ks.zip vs)) → TyX p.K H (.ref a) (.type "dict") := fun h => .base (.dK h)
    cases x with
    | val d =>
      have q : d = .dct ks xs := q
      subst q
      obtain ⟨a, vs, rfl, _, h1, _⟩ := h
      exact cc h1
    | fresh d =>
      have q : d = .dct ks xs := q
      subst q
      obtain ⟨a, rfl, ⟨vs, h1, _⟩, _⟩ := h
      exact cc h1
    | peek d =>
      have q : d = .dct ks xs := q
      subst q
      obtain ⟨a, rfl, ⟨vs, h1, _⟩, _⟩ := h
      exact cc h1
def isiV (T : Ty) : Store → RV → Option RV := fun st x => match tyD st x.d with
  | some t => some (.val (.bl (tyIs t T)))
  | none => none
theorem pe_isi {T : Ty} {n : Str} {p2 : Pos} (hK : p.K = X.K) (hT : T ≠ .non) (hg : Gl X "isinstance") (hm : X.mg "isinstance" = none) (hgn : Gl X n) (hmn : X.mg n = none) (hv : bootBuiltins n = some (.type T.name)) (hnn : n ≠ "__name__") (hdb : (n == ("__debug__" : Str)) = false)
    (ha : PE X e (tE p Wx f)) (hs : notStar e = true) : PE X (.Call (.Name "isinstance" pp) [e, .Name n p2] [] pos) (tE p Wx (eOp1 (isiV T) f)) := by
  have hty : PE X (.Name n p2) (tC (.ty T.name)) := pe_bltn hgn hmn hv rfl hnn hdb
  refine (pe_callB call_isi hg hm (by decide +kernel) (pa_cons ha (pa_cons hty pa_nil rfl) (starEach_cons hs)) (by decide) (by decide) (starEach_cons hs) rfl).weak fun σ H Q w => ?_
  obtain ⟨W0, H0, W, r, st, G, q⟩ := op1_weak w
  refine ⟨W0, H0, W, r, st, G, ?_⟩
  cases z : f r st with
  | none => rw [z] at q; exact q.elim
  | some y =>
    rw [z] at q
    cases y with
    | exc e st1 => exact q
    | ok v st1 =>
      intro W1 H1 x f1 S1 R1
      obtain ⟨W2, st2, Hs, u, zz, S2, R2, ez, k⟩ := q W1 H1 x f1 S1 R1
      unfold isiV at ez
      split at ez
      · rename_i t et
        injection ez with ez
        subst ez
        exact ⟨x, .ty T.name, _, _, _, rfl, .ty _, hK ▸ tyX_of S2 R2 et, kit_ty (tyIs_kit t T hT), k W2 H1 _ Fut.refl S2 rfl⟩
      · cases ez
end
/-! ### o[i] = e, o a name -/
def sSetIx (j : Nat) (ie e : ESem) : SSem := fun r st => match e r st with
  | some (.ok v st1) => match v.toVal with
    | some d => match r[j]? with
      | some (.own (.lst xs)) => match ie r st1 with
        | some (.ok (.val (.int k)) st2) => match ixN xs.length k with
          | some m => some (.nx (r.set j (.own (.lst (xs.set m d)))) st2)
          | none => none
        | some (.exc x st2) => some (.exc x r st2)
        | _ => none
      | some (.val (.ref n)) => match ie r st1 with
        | some (.ok (.val (.int k)) st2) => match st2[n]? with
          | some (.lst xs) => match ixN xs.length k with
            | some m => some (.nx r (st2.set n (.lst (xs.set m d))))
            | none => none
          | _ => none
        | some (.exc x st2) => some (.exc x r st2)
        | _ => none
      | _ => none
    | none => none
  | some (.exc x st1) => some (.exc x r st1)
  | none => none
section
variable {X : Cx} {p : Prm} {Wx : WX} {pos pp : Pos} {f g : ESem} {e e1 e2 : Expr} {W0 W : Wd} {H0 H : Hp} {σ : L2.St} {r : Rho} {st : Store}
/-- o is what the tree d is laid as -/
def RepO (p : Prm) (W : Wd) (H : Hp) (d : D) (o : HO) : Prop := ∀ H' a, Fw W H W H' → H' a = some o → RepC p W H' d a
theorem repO_lst {xs : List D} {vs : List V} (hr : RepL p W H xs vs) : RepO p W H (.lst xs) (.lst vs) := fun H' a f e => ⟨vs, e, RepL.fw f xs vs hr⟩
theorem repO_ins {c : Str} {ns : List Str} {fs : List D} {vs : List V} {dx : Addr} (hr : RepL p W H fs vs) (hm : c ∈ p.cls) : RepO p W H (.ins c ns fs) (.ins (p.cS c) dx (ns.zip vs)) := fun H' a f e => ⟨dx, vs, e, RepL.fw f fs vs hr, hm⟩
theorem repO_dct {ks : List Key} {xs : List D} {vs : List V} (hr : RepL p W H xs vs) : RepO p W H (.dct ks xs) (.dK (ks.zip vs)) := fun H' a f e => ⟨vs, e, RepL.fw f xs vs hr⟩
theorem Good.mutOwn (G : Good p W0 H0 W σ H r st) {i : Nat} {d dn : D} {a : Addr} {o o' : HO} (hi : r[i]? = some (.own d)) (hσ : σ[i]? = some (some (.ref a))) (ha : H a = some o) (hm : MutO o) (hr : RepO p W H dn o') :
    Good p W0 H0 W σ (upd H a o') (r.set i (.own dn)) st ∧ Fw W H W (upd H a o') := by
  obtain ⟨b, k1, k2, k3, k4, k5⟩ := G.own i d hi
  rw [hσ] at k1
  injection k1 with k1
  injection k1 with k1
  injection k1 with k1
  subst k1
  have fm : Fw W H W (upd H a o') := Fw.mut k3 ha hm
  refine ⟨⟨G.fut.mut k5 (some_ne ha), G.ok.mut k3 k4 ha hm, by rw [List.length_set]; exact G.len, fun j e h => ?_, fun j e h => ?_, fun j k d' e' b g1 g2 g3 g4 => ?_⟩, fm⟩
  · rcases get_set h with ⟨e1, e2⟩ | ⟨e1, e2⟩
    · cases e2
    · obtain ⟨v, h1, h2⟩ := G.val j e e2
      exact ⟨v, h1, Rep.fw fm e v h2⟩
  · rcases get_set h with ⟨e1, e2⟩ | ⟨e1, e2⟩
    · injection e2 with e2
      subst e1 e2
      exact ⟨a, hσ, hr _ _ fm upd_same, k3, k4, k5⟩
    · obtain ⟨b, h1, h2, h3, h4, h5⟩ := G.own j e e2
      refine ⟨b, h1, ?_, h3, h4, h5⟩
      refine h2.moved fm fun u q1 => ?_
      rw [upd_ne]
      · exact q1
      · intro z
        subst z
        exact e1 (G.one j i _ d _ e2 hi h1 hσ)
  · have old : ∀ (j : Nat) e, (r.set i (.own dn))[j]? = some (.own e) → ∃ e0, r[j]? = some (.own e0) := fun j e h => by
      rcases get_set h with ⟨e1, e2⟩ | ⟨e1, e2⟩
      · subst e1; exact ⟨d, hi⟩
      · exact ⟨e, e2⟩
    obtain ⟨d1, q1⟩ := old j d' g1
    obtain ⟨d2, q2⟩ := old k e' g2
    exact G.one j k d1 d2 b q1 q2 g3 g4
/-- a thing of the store changed -/
theorem Good.mutSt (G : Good p W0 H0 W σ H r st) {n : Nat} {dn : D} {o o' : HO} (hn : n < W.n) (ha : H (W.mu n) = some o) (hm : MutO o) (hr : RepO p W H dn o') :
    Good p W0 H0 W σ (upd H (W.mu n) o') r (st.set n dn) ∧ Fw W H W (upd H (W.mu n) o') := by
  have fm : Fw W H W (upd H (W.mu n) o') := Fw.mut (G.ok.nf n hn) ha hm
  have S : SOk p W (upd H (W.mu n) o') (st.set n dn) := by
    refine ⟨by rw [List.length_set]; exact G.ok.len, fun m d e => ?_, G.ok.nf, G.ok.inj, fun a z => ?_⟩
    · have hl := (List.getElem?_eq_some_iff.mp e).1
      rw [List.length_set, G.ok.len] at hl
      rcases get_set e with ⟨e1, e2⟩ | ⟨e1, e2⟩
      · subst e1 e2
        exact hr _ _ fm upd_same
      · have c := G.ok.at_ m d e2
        exact c.moved fm fun u q1 => by rw [upd_ne (fun z => e1 (G.ok.inj m n hl hn z))]; exact q1
    · by_cases e : a = W.mu n
      · subst e; rw [upd_same]; exact fun z => by cases z
      · rw [upd_ne e]; exact G.ok.fok a z
  refine ⟨⟨⟨G.fut.fsub, G.fut.mu, fun a o e hn' => ?_, G.fut.nf, G.fut.dom, G.fut.le, fun a z => ?_⟩, S, G.len, fun j e h => ?_, fun j e h => ?_, G.one⟩, fm⟩
  · rw [upd_ne]
    · exact G.fut.keep a o e hn'
    · intro z
      by_cases hl : n < W0.n
      · exact hn' n hl (by rw [← G.fut.mu n hl]; exact z.symm)
      · have q := G.fut.dom n (Nat.le_of_not_lt hl) hn
        rw [← z, e] at q
        cases q
  · by_cases e : a = W.mu n
    · subst e; rw [upd_same]; exact fun z => by cases z
    · rw [upd_ne e]; exact G.fut.tr a z
  · obtain ⟨v, h1, h2⟩ := G.val j e h
    exact ⟨v, h1, Rep.fw fm e v h2⟩
  · obtain ⟨b, h1, h2, h3, h4, h5⟩ := G.own j e h
    refine ⟨b, h1, ?_, h3, h4, h5⟩
    exact h2.moved fm fun u q1 => by rw [upd_ne (fun z => h4 n hn z.symm)]; exact q1
theorem repL_setn {W : Wd} {H : Hp} {xs : List D} {vs : List V} {d : D} {v : V} {k : Int} {m : Nat} (h : RepL p W H xs vs) (hm : ixN xs.length k = some m) : ixN vs.length k = some m := by
  rw [h.length]
  exact hm
theorem ps_setIx {j : Nat} {x : Str} {i : Expr} {p2 : Pos} (he : PE X e (tE p Wx f)) (ho : PE X (.Name x pp) (tVar j)) (hi : PE X i (tE p Wx g))
    (hh : ∀ te ti : TE, PE X e te → PE X i ti → PS X (.Assign [.Subscript (.Name x pp) i p2] e pos) (tAsg te (gSub (tVar j) ti rSetL))) :
    PS X (.Assign [.Subscript (.Name x pp) i p2] e pos) (tS p Wx (sSetIx j g f)) := by
  refine (hh _ _ he hi).weak fun D σ H ⟨W0, H0, W, r, st, G, q⟩ => ?_
  unfold sSetIx at q
  refine tE_bind G (fun v st1 e1 W1 H1 x f1 S1 R1 G1 => ?_) (fun e st1 e1 W1 H1 c d f1 S1 R1 => ?_) (fun z => ?_)
  · simp only [e1] at q
    cases ev : v.toVal with
    | none => simp only [ev] at q; exact q.elim
    | some d =>
      simp only [ev] at q
      obtain ⟨W2, S2, R2, mk⟩ := R1.toVal S1 ev
      have f2 : Fut W H W2 H1 := mk f1 fun _ z => z
      have G2 := G.to f2 S2
      cases ej : r[j]? with
      | none => simp only [ej] at q; exact q.elim
      | some s =>
        simp only [ej] at q
        cases s with
        | no => exact q.elim
        | own c =>
          cases c with
          | lst xs =>
            dsimp only at q
            obtain ⟨a, k1, k2, k3, k4, k5⟩ := G2.own j _ ej
            refine ⟨_, k1, ?_⟩
            refine tE_bind G2 (fun w st3 e3 W3 H3 y f3 S3 R3 G3 => ?_) (fun e st3 e3 W3 H3 c d f3 S3 R3 => ?_) (fun z => ?_)
            · simp only [e3] at q
              cases w with
              | val w =>
                cases w with
                | int k =>
                  dsimp only at q
                  have hy : y = .int k := R3
                  subst hy
                  cases em : ixN xs.length k with
                  | none => simp only [em] at q; exact q.elim
                  | some m =>
                    simp only [em] at q
                    obtain ⟨a', m1, m2, m3, m4, m5⟩ := G3.own j _ ej
                    rw [k1] at m1
                    injection m1 with m1
                    injection m1 with m1
                    injection m1 with m1
                    subst m1
                    obtain ⟨vs, n1, n2⟩ := m2
                    have R2' := Rep.fut f3 S2 d x R2
                    obtain ⟨G4, f4⟩ := G3.mutOwn ej k1 n1 trivial (repO_lst (n2.set m R2'))
                    exact ⟨a, vs, k, m, rfl, rfl, n1, by rw [n2.length]; exact em, q W3 σ _ (((f2.trans f3).fw G.ok).trans f4) G4⟩
                | _ => exact q.elim
              | _ => exact q.elim
            · simp only [e3] at q
              exact q W3 σ H3 c d ((f2.trans f3).fw G.ok) (G2.to f3 S3) R3
            · simp only [z] at q
              exact q.elim
          | _ => exact q.elim
        | val c =>
          cases c with
          | ref n =>
            dsimp only at q
            obtain ⟨v0, k1, k2, k3⟩ := G2.val j _ ej
            subst k3
            refine ⟨_, k1, ?_⟩
            refine tE_bind G2 (fun w st3 e3 W3 H3 y f3 S3 R3 G3 => ?_) (fun e st3 e3 W3 H3 c d f3 S3 R3 => ?_) (fun z => ?_)
            · simp only [e3] at q
              cases w with
              | val w =>
                cases w with
                | int k =>
                  dsimp only at q
                  have hy : y = .int k := R3
                  subst hy
                  cases es : st3[n]? with
                  | none => simp only [es] at q; exact q.elim
                  | some c =>
                    simp only [es] at q
                    cases c with
                    | lst xs =>
                      dsimp only at q
                      cases em : ixN xs.length k with
                      | none => simp only [em] at q; exact q.elim
                      | some m =>
                        simp only [em] at q
                        have hn : n < W3.n := Nat.lt_of_lt_of_le k2 f3.le
                        obtain ⟨vs, n1, n2⟩ := S3.at_ n _ es
                        have R2' := Rep.fut f3 S2 d x R2
                        obtain ⟨G4, f4⟩ := G3.mutSt hn n1 trivial (repO_lst (n2.set m R2'))
                        have emu : W2.mu n = W3.mu n := (f3.mu n k2).symm
                        rw [emu]
                        exact ⟨_, vs, k, m, rfl, rfl, n1, by rw [n2.length]; exact em, q W3 σ _ (((f2.trans f3).fw G.ok).trans f4) G4⟩
                    | _ => exact q.elim
                | _ => exact q.elim
              | _ => exact q.elim
            · simp only [e3] at q
              exact q W3 σ H3 c d ((f2.trans f3).fw G.ok) (G2.to f3 S3) R3
            · simp only [z] at q
              exact q.elim
          | _ => exact q.elim
  · simp only [e1] at q
    exact q W1 σ H1 c d (f1.fw G.ok) (G.to f1 S1) R1
  · simp only [z] at q
    exact q
theorem ps_augS1 {i : Nat} {x : Str} {op : Operator} {fn : Store → RV → RV → Option RV} {pos' : Pos} (ho : OpR X (inplaceOp op) (r2 p fn)) (he : PE X e (tE p Wx f)) (hh : ∀ te : TE, ∀ ti : TIp, PE X e te → PIp X op ti → PS X (.AugAssign (.Name x pos') op e pos) (tAug i te ti)) :
    PS X (.AugAssign (.Name x pos') op e pos) (tS p Wx (sAug fn i f)) := by
  refine (hh _ (r2 p fn) he ho).weak fun D σ H ⟨W0, H0, W, r, st, G, q⟩ => ?_
  unfold sAug at q
  cases ej : r[i]? with
  | none => simp only [ej] at q; exact q.elim
  | some s =>
    simp only [ej] at q
    cases s with
    | no => exact q.elim
    | own c => exact q.elim
    | val c =>
      dsimp only at q
      obtain ⟨v0, k1, k2⟩ := G.val i _ ej
      refine ⟨v0, k1, ?_⟩
      refine tE_bind G (fun v st1 e1 W1 H1 x f1 S1 R1 G1 => ?_) (fun e st1 e1 W1 H1 c d f1 S1 R1 => ?_) (fun z => ?_)
      · simp only [e1] at q
        cases ez : fn st1 (.val c) v with
        | none => simp only [ez] at q; exact q.elim
        | some z =>
          simp only [ez] at q
          refine ⟨W1, st1, H, .val c, v, z, S1, Rep.fut f1 G.ok c v0 k2, R1, ez, fun W2 H2 w f2 S2 R2 => ?_⟩
          have f12 := f1.trans f2
          refine gvar_run (to_target (us := [i]) G f12 S2 (R2.back fun a z => f1.tr a z) ?_)
          cases eg : gVar i z r st1 with
          | none => rw [eg] at q; exact q
          | some y =>
            rw [eg] at q
            exact fun W' σ' H' g G' _ _ => q W' σ' H' (g.fw G.ok) G'
      · simp only [e1] at q
        exact q W1 σ H1 c d (f1.fw G.ok) (G.to f1 S1) R1
      · simp only [z] at q
        exact q
end
end Tz

set_option Elab.async false
set_option linter.all false
set_option maxRecDepth 100000
set_option maxHeartbeats 1000000
/-! Ti: enumerate and zip (strict, too) over lists and tuples, as what a for walks. -/
namespace Tz
open PySem L2 PyProof.Rows
/-- k: a list; else a tuple -/
def IsK (k : Bool) (h : Heap) (a : Addr) (xs : Array Value) : Prop := match k with
  | true => h.IsList a xs
  | false => h.IsTuple a xs
def ItK (k : Bool) (h : Heap) (it a : Addr) (i : Nat) : Prop := match k with
  | true => h.IsListIter it a i
  | false => h.IsTupleIter it a i
def itO (k : Bool) (a : Addr) : Obj := match k with
  | true => { cls := .type "list_iterator", data := .fields #[.ref a, .int 0 0] }
  | false => { cls := .type "tuple_iterator", data := .fields #[.ref a, .int 0 0] }
def SqK (k : Bool) (K : PySem.W.Frag) (H : Hp) (a : Addr) (vs : List V) : Prop := match k with
  | true => SqL K H a vs
  | false => SqT K H a vs
theorem beginsK (k : Bool) (a : Addr) (xs : Array Value) : Begins (.ref a) (itO k a) fun h => IsK k h a xs := by
  cases k
  · exact begins_tuple a xs
  · exact begins_list a xs
theorem drawsK {prog : Program} {w : World} {A : Around} (hh : A.handled = none) (k : Bool) (it a : Addr) (ne : a ≠ it) (xs : Array Value) : Draws prog w A it [it, a] xs.size (fun i v => xs[i]? = some v) (fun i h => ItK k h it a i ∧ IsK k h a xs) := by
  cases k
  · exact Draws.tuple hh it a ne xs
  · exact Draws.list hh it a ne xs
/-- an iterator that stands at its end -/
theorem drawsEnd {prog : Program} {w : World} {A : Around} (hh : A.handled = none) (k : Bool) (it a : Addr) (xs : Array Value) (i : Nat) (hx : xs[i]? = none) : Draws prog w A it [it, a] i (fun _ _ => False) (fun j h => j = i ∧ ItK k h it a j ∧ IsK k h a xs) := by
  cases k
  · refine ⟨fun _ _ st => ?_, fun _ _ _ st kp => ⟨st.1, ?_, ?_⟩, fun j s Q E hj st _ => ?_, fun s Q E st hE => ?_⟩
    · obtain ⟨_, ⟨o, ho, _⟩, _⟩ := st
      exact ⟨o, ho⟩
    · exact Heap.IsTupleIter.at st.2.1 fun o e => kp it (by simp) o e
    · exact Heap.IsTuple.at st.2.2 fun o e => kp a (by simp) o e
    · exact absurd st.1 (Nat.ne_of_lt hj)
    · exact wpAny_nextOf_tuple_end hh st.2.1 st.2.2 hx hE
  · refine ⟨fun _ _ st => ?_, fun _ _ _ st kp => ⟨st.1, ?_, ?_⟩, fun j s Q E hj st _ => ?_, fun s Q E st hE => ?_⟩
    · obtain ⟨_, ⟨o, ho, _⟩, _⟩ := st
      exact ⟨o, ho⟩
    · exact Heap.IsListIter.at st.2.1 fun o e => kp it (by simp) o e
    · exact Heap.IsList.at st.2.2 fun o e => kp a (by simp) o e
    · exact absurd st.1 (Nat.ne_of_lt hj)
    · exact wpAny_nextOf_list_end hh st.2.1 st.2.2 hx hE
theorem itK_new {k : Bool} {h : Heap} {it a : Addr} (e : h.get? it = some (itO k a)) : ItK k h it a 0 := by
  cases k
  · exact ⟨_, e, rfl, rfl⟩
  · exact ⟨_, e, rfl, rfl⟩
theorem itK_at {k : Bool} {h h' : Heap} {it a : Addr} {i : Nat} (x : ItK k h it a i) (e : ∀ o, h.get? it = some o → h'.get? it = some o) : ItK k h' it a i := by
  cases k
  · obtain ⟨o, ho, r⟩ := (x : h.IsTupleIter it a i)
    exact ⟨o, e o ho, r⟩
  · obtain ⟨o, ho, r⟩ := (x : h.IsListIter it a i)
    exact ⟨o, e o ho, r⟩
theorem itK_obj {k : Bool} {h : Heap} {it a : Addr} {i : Nat} (x : ItK k h it a i) : ∃ o, h.get? it = some o ∧ ∀ v, o.data ≠ .cell v := by
  cases k
  · obtain ⟨o, ho, _, hd⟩ := (x : h.IsTupleIter it a i)
    exact ⟨o, ho, fun v q => by rw [hd] at q; cases q⟩
  · obtain ⟨o, ho, _, hd⟩ := (x : h.IsListIter it a i)
    exact ⟨o, ho, fun v q => by rw [hd] at q; cases q⟩
theorem inv_sqK {X : Cx} {pins : List (Addr × Obj)} {σ : L2.St} {H : Hp} {s : Shared} {k : Bool} {a : Addr} {vs : List V} (I : Inv X pins σ H s) (h : SqK k X.K H a vs) : ∃ its : List Value, Vals vs its ∧ IsK k s.heap a its.toArray ∧ a < s.heap.objs.size := by
  cases k
  · obtain ⟨its, rv, p, _⟩ := I.tuple h
    exact ⟨its, rv, p, by obtain ⟨o, ho, _⟩ := id p; exact Heap.lt_size ho⟩
  · obtain ⟨its, rv, p, _⟩ := I.list h
    exact ⟨its, rv, p.isList, p.lt⟩
theorem sqK_inj {X : Cx} {pins : List (Addr × Obj)} {σ : L2.St} {H : Hp} {s : Shared} {k : Bool} {a : Addr} {vs ws : List V} (I : Inv X pins σ H s) (h : SqK k X.K H a vs) (h' : SqK k X.K H a ws) : vs = ws := by
  cases k
  · exact I.tuple_inj h h'
  · exact I.list_inj h h'
/-- the things at a with their numbers, in new pairs -/
def IteK (k : Bool) (K : PySem.W.Frag) (a : Addr) : It :=
  ⟨fun i H => ∃ xs x, SqK k K H a xs ∧ xs[i]? = some x,
    fun i H v H' => ∃ T x, v = .ref T ∧ H T = none ∧ H' = upd H T (.tup [.int (i : Nat), x]) ∧ ∀ xs, SqK k K H a xs → xs[i]? = some x,
    fun i H => ∃ xs, SqK k K H a xs ∧ xs.length ≤ i⟩
theorem turn_enumK {P : Program} {w : World} {K : PySem.W.Frag} {k : Bool} {elts : List Expr} {kk : Nat} {tpos : Pos} (a e it : Addr) (h1 : e ≠ it) (h2 : a ≠ it) (h3 : a ≠ e) :
    Turn P w K (.Tuple elts kk tpos) (IteK k K a) [e, it] e (fun i h => (∃ old, IsEnum h e it ((i : Nat) : Int) old) ∧ ItK k h it a i) where
  mem := by simp
  obj := fun i h st b hb => by
    obtain ⟨⟨old, he⟩, hi⟩ := st
    have hb' : b = e ∨ b = it := by simpa using hb
    rcases hb' with z | z
    · rw [z]; exact ⟨_, he, fun v q => nomatch q⟩
    · rw [z]; exact itK_obj hi
  keep := fun i h h' st kp => ⟨let ⟨old, he⟩ := st.1; ⟨old, kp e (by simp) _ he⟩, itK_at st.2 fun o q => kp it (by simp) o q⟩
  item := by
    intro X eP ew eK cm i pins s σ H E I hf st hg
    subst eP ew eK
    obtain ⟨⟨old, he⟩, hi⟩ := st
    obtain ⟨xs, x, hq, hx⟩ := hg
    obtain ⟨its, rv, p, ha⟩ := inv_sqK I hq
    obtain ⟨u, hu, ru⟩ := rv.get hx
    have hel : e < s.heap.objs.size := Heap.lt_size he
    have hil : it < s.heap.objs.size := by obtain ⟨o, q, _⟩ := itK_obj hi; exact Heap.lt_size q
    have hlt : i < its.toArray.size := by
      have := (List.getElem?_eq_some_iff.mp hu).1
      simpa using this
    refine wpAny_pyNext_enum_itemD (drawsK (A := X.A.in1) (I.ok.hd cm) k it a h2 its.toArray) he ⟨hi, p⟩ hlt h1 (by simp [h1, h3.symm]) fun u' h' tk pu ho hst hT hsz hk => ?_
    have eu : u' = u := by
      have : its[i]? = some u' := by simpa using pu
      rw [hu] at this
      exact (Option.some.inj this).symm
    subst eu
    refine ⟨_, rfl, wpAny_letOwnedTupleGo_enum (s := { s with heap := h', toks := tk + 1 }) ho fun h2' he' sb => ?_⟩
    have hT2 : h2'.get? s.heap.objs.size = some { cls := .type "tuple", data := .seq #[.int i tk, u'] } := (sb.2 _ (Nat.ne_of_gt hel)).trans hT
    have nw : ObjOk X.prog X.w (upd H s.heap.objs.size (.tup [.int (i : Nat), x])) h2' s.heap.objs.size (.tup [.int (i : Nat), x]) :=
      ⟨by show 2 ≤ sizeLine; decide, [.int i tk, u'], .cons ⟨_, rfl⟩ (.cons ru .nil), ⟨_, hT2, rfl, _, rfl⟩⟩
    have I1 : Inv X pins σ (upd H s.heap.objs.size (.tup [.int (i : Nat), x])) { s with heap := h2', toks := tk + 1 } :=
      I.turnedNew (ch := [e, it]) (fun b ob hb q => (sb.2 b (fun z => hb (by simp [z]))).trans (hk b ob (fun z => hb (by simp [z])) (fun z => hb (by simp [z])) q)) hf (Nat.le_refl _) nw
    refine ⟨.ref s.heap.objs.size, _, I1, rfl, ⟨_, x, rfl, I.hok.fresh (Nat.le_refl _), rfl, fun ys hy => by rw [sqK_inj I hy hq]; exact hx⟩, ⟨⟨u', ?_⟩, itK_at hst.1 fun o q => (sb.2 it (Ne.symm h1)).trans q⟩, fun b hb => ?_⟩
    · have e1 : ((i + 1 : Nat) : Int) = (i : Int) + 1 := by omega
      rw [e1]
      exact he'
    · have hb' : b < s.heap.objs.size := by
        have hb' : b = e ∨ b = it := by simpa using hb
        rcases hb' with z | z
        · rw [z]; exact hel
        · rw [z]; exact hil
      rw [upd_ne (Nat.ne_of_lt hb')]
      exact (hf b hb).1
  done := by
    intro X eP ew eK cm i pins s σ H E I hf st hg
    subst eP ew eK
    obtain ⟨⟨old, he⟩, hi⟩ := st
    obtain ⟨xs, hq, hx⟩ := hg
    obtain ⟨its, rv, p, ha⟩ := inv_sqK I hq
    obtain ⟨f0, f1, f2, f3, f4, f5⟩ := hf it (by simp)
    have hl := rv.length
    have hn : its.toArray[i]? = none := by simp; omega
    exact wpAny_pyNext_enum_endD (drawsEnd (A := X.A.in1) (I.ok.hd cm) k it a its.toArray i hn) he ⟨rfl, hi, p⟩ fun h' eb => ⟨rfl, I.turned (t' := s.toks) (fun b o hb q => eb b o hb q) f0 f1 f3 f4 f5⟩
  self := fun A i s Q E st h => let ⟨⟨_, he⟩, _⟩ := st; wpAny_pyIter_enum he h
theorem meets_enumT {v : Value} {o : Obj} {Hb : Heap → Prop} (B : Begins v o Hb) :
    Meets (Builtin.«enumerate.__new__» ⟨[.type "enumerate", v], []⟩) (fun _ R s => Hb s.heap ∧
      R (.ok (.ret (.ref (s.heap.push o).objs.size))) { s with heap := (s.heap.push o).push { cls := .type "enumerate", data := .fields #[.none, .bool false, .ref s.heap.objs.size, rawInt 0, .none, .none] } }) :=
  .of_wp fun prog w A R s h => by
    obtain ⟨hp, g, d, tk, os⟩ := s
    obtain ⟨hb, h⟩ := h
    have hs := sub_enumerate
    have q : ∀ {A' : Around} {E : Value → Shared → Prop} {Q : Value → Shared → Prop}, Q (.ref hp.objs.size) ⟨hp.push o, g, d, tk, os⟩ → wpAny (model prog w) A' (pyIter v) Q E ⟨hp, g, d, tk, os⟩ :=
      fun q => B.iter prog w _ _ ⟨hp, g, d, tk, os⟩ _ hb q
    wp_walk
    refine wpAny_stack_any fun st => wpAny_pure ?_
    split
    · rename_i c _ _ _ _ _
      cases (c == Value.type "enumerate")
      · wp_walk using q
        exact ⟨_, rfl, h⟩
      · wp_walk using q
        exact ⟨_, rfl, h⟩
    · wp_walk using q
      exact ⟨_, rfl, h⟩
theorem call_enumB {prog : Program} {w : World} {A : Around} {E : Value → Shared → Prop} {s : Shared} {v : Value} {o : Obj} {Hb : Heap → Prop} {Q : Value → Shared → Prop} (B : Begins v o Hb) (hb : Hb s.heap)
    (h : ∀ h', IsEnum h' (s.heap.objs.size + 1) s.heap.objs.size 0 .none → h'.get? s.heap.objs.size = some o →
      (∀ b o, s.heap.get? b = some o → h'.get? b = some o) → Q (.ref (s.heap.objs.size + 1)) { s with heap := h' }) :
    wpAny (model prog w) A (call (.type "enumerate") [v]) Q E s := by
  refine callType_new F.called_enumerate (by decide) (F.typeCall_enumerate_1 _) (F.newCall_enumerate_1 _) (fun obj => F.args_object_init_2 obj _) F.entry_enumerate_new (meets_enumT B) ⟨hb, ?_⟩
  have hz : (s.heap.push o).objs.size = s.heap.objs.size + 1 := Heap.size_push ..
  have he := Heap.get?_push_size (s.heap.push o) (o := { cls := .type "enumerate", data := .fields #[.none, .bool false, .ref s.heap.objs.size, rawInt 0, .none, .none] }) rfl
  rw [hz] at he
  show _ ∧ _
  rw [hz]
  exact ⟨⟨_, he, rfl⟩, h _ he (Heap.get?_push_of_some _ (Heap.get?_push_size _ B.free)) fun b u x => Heap.get?_push_of_some _ (Heap.get?_push_of_some _ x)⟩
/-- enumerate(e), e a list or a tuple -/
def iEnumK (K : PySem.W.Frag) (te : TE) : TI := fun σ H R => te σ H fun x H1 => ∃ k a xs, x = .ref a ∧ SqK k K H1 a xs ∧ R (IteK k K a) H1
theorem pi_enumK {X : Cx} {e : Expr} {te : TE} {pp pos tpos : Pos} {elts : List Expr} {kk : Nat} (hg : Gl X "enumerate") (hm : X.mg "enumerate" = none) (he : PE X e te) (hs : starEach [e] X.env = [(false, eval e X.env)]) :
    PI X (.Tuple elts kk tpos) (.Call (.Name "enumerate" pp) [e] [] pos) (iEnumK X.K te) := by
  refine ⟨fun pins s σ H R I h => ?_⟩
  have ha : PA X [e] (tCons te tNil) := pa_cons he pa_nil hs
  have h2 : tCons te tNil σ H fun vs H1 => match vs with
    | [x] => ∃ k a xs, x = V.ref a ∧ SqK k X.K H1 a xs ∧ R (IteK k X.K a) H1
    | _ => False := h
  refine Call_ (ld_blt I hg hm boot_enumerate (PyProof.Rows.callWith_type1 (thn (ha.run pos pins s σ H _ I h2) fun us s1 ⟨vs, H1, I1, r1, q1⟩ => ?_) hs rfl))
  match vs, r1, q1 with
  | [x], r1, q1 =>
    obtain ⟨k, a, xs, ev, hq, q⟩ := q1
    subst ev
    cases r1 with
    | cons r rr =>
      cases rr
      cases r
      obtain ⟨its, rv, p, hal⟩ := inv_sqK I1 hq
      refine call_enumB (beginsK k a its.toArray) p fun h' he' hit hk => wpAny_pyIter_enum he' ?_
      have I2 : Inv X pins σ H1 { s1 with heap := h' } := I1.kept (t' := s1.toks) hk
      refine ⟨s1.heap.objs.size + 1, [s1.heap.objs.size + 1, s1.heap.objs.size], _, _, H1, rfl, I2, turn_enumK (k := k) a (s1.heap.objs.size + 1) s1.heap.objs.size (Nat.succ_ne_self _) (Nat.ne_of_lt hal) (Nat.ne_of_lt (Nat.lt_succ_of_lt hal)), ⟨⟨.none, he'⟩, itK_new hit⟩, fun b hb => ?_, q⟩
      have e' : b = s1.heap.objs.size + 1 ∨ b = s1.heap.objs.size := by simpa using hb
      have hle : s1.heap.objs.size ≤ b := by
        rcases e' with z | z
        · rw [z]; exact Nat.le_add_right _ _
        · rw [z]; exact Nat.le_refl _
      exact I1.fpOk hle (I1.hok.fresh hle)
/-! ### zip(e1, e2, strict=True) -/
abbrev IsZipS (h : Heap) (z TI TO : Addr) (f0 : Value) : Prop :=
  h.get? z = some { cls := .type "zip", dict := none, data := .fields #[f0, .bool false, .bool true, .ref TI, .ref TO], slots := #[] }
section
variable {prog : Program} {w : World} {A : Around} {E : Value → Shared → Prop} {s : Shared}
theorem callWith_tyKw {M : Model} {pos : Pos} {T : String} {first : List Value} {args : List (Bool × Sem Value)} {kws : List (Option Str × Sem Value)} {Q : Value → Shared → Prop}
    (hp : (args.any (·.1) || kws.any (·.1.isNone)) = false)
    (h : wpAny M A (evalArgs (.type T) true args kws) (fun a s1 => wpAny M A (call (.type T) (first ++ a.pos) a.kw) Q E s1) E s) :
    wpAny M A (callWith pos (.type T) first args kws) Q E s := by
  unfold callWith
  refine wpAny_bind (wpAny_holding (wpAny_mono h (fun a s1 h1 => wpAny_bind (wpAny_standAt ?_)) fun _ _ x => x))
  simp only [hp]
  refine wpAny_bind (wpAny_pure ?_)
  exact wpAny_bind (wpAny_mono h1 (fun r s2 hr => wpAny_bind (wpAny_holding (wpAny_point (wpAny_pure hr)))) fun _ _ x => x)
theorem typeCall_zipS (a b v : Value) : checkTypeCall "zip" ⟨[a, b], [(Str.ofString "strict", v)]⟩ = pure () := by kernel_rfl
theorem newCall_zipS (a b v : Value) : checkBuiltinCall "zip.__new__" ⟨[.type "zip", a, b], [(Str.ofString "strict", v)]⟩ = pure () := by kernel_rfl
theorem args_initS (obj a b v : Value) : argsOk "object.__init__" ⟨[obj, a, b], [(Str.ofString "strict", v)]⟩ := by unfold argsOk; kernel_rfl
def zsT (h : Heap) (o1 o2 : Obj) : Heap := ((h.push o1).push o2).push { cls := .type "tuple", data := .seq #[.ref h.objs.size, .ref (h.push o1).objs.size] }
def zsO (h : Heap) (o1 o2 : Obj) : Heap := (zsT h o1 o2).push { cls := .type "tuple", data := .seq #[.none, .none] }
def zsZ (h : Heap) (o1 o2 : Obj) : Heap := (zsO h o1 o2).push { cls := .type "zip", data := .fields #[.none, .bool false, .bool true, .ref ((h.push o1).push o2).objs.size, .ref (zsT h o1 o2).objs.size] }
theorem meets_zipS {v1 v2 : Value} {o1 o2 : Obj} {H1 H2 : Heap → Prop} (B1 : Begins v1 o1 H1) (B2 : Begins v2 o2 H2) :
    Meets (Builtin.«zip.__new__» ⟨[.type "zip", v1, v2], [(Str.ofString "strict", .bool true)]⟩) (fun _ R s => (H1 s.heap ∧ H2 s.heap) ∧
      R (.ok (.ret (.ref (zsO s.heap o1 o2).objs.size))) { s with heap := zsZ s.heap o1 o2 }) :=
  .of_wp fun prog w A R s h => by
    obtain ⟨hp, g, d, tk, os⟩ := s
    obtain ⟨⟨h1, h2⟩, h⟩ := h
    have hsb := sub_zip
    have q1 : ∀ {A' : Around} {E : Value → Shared → Prop} {Q : Value → Shared → Prop}, Q (.ref hp.objs.size) ⟨hp.push o1, g, d, tk, os⟩ → wpAny (model prog w) A' (pyIter v1) Q E ⟨hp, g, d, tk, os⟩ :=
      fun q => B1.iter prog w _ _ ⟨hp, g, d, tk, os⟩ _ h1 q
    have q2 : ∀ {A' : Around} {E : Value → Shared → Prop} {Q : Value → Shared → Prop}, Q (.ref (hp.push o1).objs.size) ⟨(hp.push o1).push o2, g, d, tk, os⟩ → wpAny (model prog w) A' (pyIter v2) Q E ⟨hp.push o1, g, d, tk, os⟩ :=
      fun q => B2.iter prog w _ _ ⟨hp.push o1, g, d, tk, os⟩ _ (B2.keeps _ _ h2 fun b o' e => Heap.get?_push_of_some _ e) q
    have e1 : (Str.ofString "strict" != ("strict" : Str)) = false := by decide +kernel
    wp_walk using q1, q2
    exact ⟨_, rfl, h⟩
theorem zipS_begins {v1 v2 : Value} {o1 o2 : Obj} {H1 H2 : Heap → Prop} {Q : Value → Shared → Prop} (B1 : Begins v1 o1 H1) (B2 : Begins v2 o2 H2) (h1 : H1 s.heap) (h2 : H2 s.heap)
    (h : ∀ h', IsZipS h' (s.heap.objs.size + 4) (s.heap.objs.size + 2) (s.heap.objs.size + 3) .none → IsTupOf2 h' (s.heap.objs.size + 2) (.ref s.heap.objs.size) (.ref (s.heap.objs.size + 1)) →
      IsTupOf2 h' (s.heap.objs.size + 3) .none .none → h'.get? s.heap.objs.size = some o1 → h'.get? (s.heap.objs.size + 1) = some o2 →
      (∀ c o, s.heap.get? c = some o → h'.get? c = some o) → Q (.ref (s.heap.objs.size + 4)) { s with heap := h' }) :
    wpAny (model prog w) A (call (.type "zip") [v1, v2] [(Str.ofString "strict", .bool true)]) Q E s := by
  refine callType_newKw F.called_zip (by decide) (typeCall_zipS _ _ _) (newCall_zipS _ _ _) (fun obj => args_initS obj _ _ _) F.entry_zip_new (meets_zipS B1 B2) ⟨⟨h1, h2⟩, ?_⟩
  have z1 : (s.heap.push o1).objs.size = s.heap.objs.size + 1 := Heap.size_push ..
  have z2 : ((s.heap.push o1).push o2).objs.size = s.heap.objs.size + 2 := by rw [Heap.size_push, z1]
  have zT : (zsT s.heap o1 o2).objs.size = s.heap.objs.size + 3 := by unfold zsT; rw [Heap.size_push, z2]
  have zO : (zsO s.heap o1 o2).objs.size = s.heap.objs.size + 4 := by unfold zsO; rw [Heap.size_push, zT]
  have pu : ∀ {hh : Heap} {o : Obj} {c : Addr} {u : Obj}, hh.get? c = some u → (hh.push o).get? c = some u := fun e => Heap.get?_push_of_some _ e
  have gZ : (zsZ s.heap o1 o2).get? (zsO s.heap o1 o2).objs.size = some { cls := .type "zip", data := .fields #[.none, .bool false, .bool true, .ref ((s.heap.push o1).push o2).objs.size, .ref (zsT s.heap o1 o2).objs.size] } := Heap.get?_push_size _ rfl
  have gO : (zsZ s.heap o1 o2).get? (zsT s.heap o1 o2).objs.size = some { cls := .type "tuple", data := .seq #[.none, .none] } := pu (Heap.get?_push_size _ rfl)
  have gT : (zsZ s.heap o1 o2).get? ((s.heap.push o1).push o2).objs.size = some { cls := .type "tuple", data := .seq #[.ref s.heap.objs.size, .ref (s.heap.push o1).objs.size] } := pu (pu (Heap.get?_push_size _ rfl))
  have g1 : (zsZ s.heap o1 o2).get? s.heap.objs.size = some o1 := pu (pu (pu (pu (Heap.get?_push_size _ B1.free))))
  have g2 : (zsZ s.heap o1 o2).get? (s.heap.push o1).objs.size = some o2 := pu (pu (pu (Heap.get?_push_size _ B2.free)))
  rw [zO, zT, z2] at gZ
  rw [zT] at gO
  rw [z2, z1] at gT
  rw [z1] at g2
  show _ ∧ _
  rw [zO]
  exact ⟨⟨_, gZ, rfl⟩, h _ gZ gT gO g1 g2 fun c o e => pu (pu (pu (pu (pu e))))⟩
theorem nextOrEnd_item {it : Addr} {fp : List Addr} {n i : Nat} {Pv : Nat → Value → Prop} {St : Nat → Heap → Prop} {Q : Option Value → Shared → Prop} (D : Draws prog w A it fp n Pv St) (hi : i < n) (st : St i s.heap)
    (hQ : ∀ x h' tk, Pv i x → St (i + 1) h' → Heap.SameBut it s.heap h' → Q (some x) { s with heap := h', toks := tk }) : wpAny (model prog w) A (Builtin.SmallTypes.nextOrEnd (.ref it)) Q E s := by
  unfold Builtin.SmallTypes.nextOrEnd
  exact wpAny_bind (wpAny_attempt (D.item i s _ _ hi st fun x h' tk a b c => wpAny_pure (hQ x h' tk a b c)))
theorem nextOrEnd_end {it : Addr} {fp : List Addr} {n : Nat} {Pv : Nat → Value → Prop} {St : Nat → Heap → Prop} {Q : Option Value → Shared → Prop} (D : Draws prog w A it fp n Pv St) (st : St n s.heap)
    (hQ : ∀ h', Heap.ExtBut it s.heap h' → Q none { s with heap := h' }) : wpAny (model prog w) A (Builtin.SmallTypes.nextOrEnd (.ref it)) Q E s := by
  unfold Builtin.SmallTypes.nextOrEnd
  refine wpAny_bind (wpAny_attempt (D.done s _ _ st fun h' e a b => ?_))
  obtain ⟨o, ho, hc⟩ := b
  refine wpAny_bind (wpAny_isInstance (T := "StopIteration") (b := true) ⟨o, ho, hc⟩ isSubtype_stop ?_)
  exact wpAny_pure (hQ _ a)
theorem stop_raised {α : Type} (hh : A.handled = none) {Q : α → Shared → Prop} (hE : ∀ h' e, (∀ c o, s.heap.get? c = some o → h'.get? c = some o) → (∃ o, h'.get? e = some o ∧ o.cls = .type "StopIteration") → E (.ref e) { s with heap := h' }) :
    wpAny (model prog w) A (Builtin.SmallTypes.stopIteration (α := α)) Q E s := by
  unfold Builtin.SmallTypes.stopIteration
  refine wpAny_bind ?_
  simp only [newExc, newTuple]
  refine wpAny_bind (wpAny_newObj_type ?_ (by size_fits))
  refine wpAny_bind (m := firstArgMember _ _) (wpAny_of_eq (a := Value.none) (by first | rfl | (simp only [firstArgMember]; rfl)) ?_)
  refine wpAny_newObj_type ?_ (by size_fits)
  simp only [raiseNew]
  refine wpAny_bind (wpAny_handled ?_)
  rw [hh]
  refine wpAny_bind (wpAny_pure (wpAny_throw ?_))
  exact hE _ _ (fun c o x => Heap.get?_push_of_some _ (Heap.get?_push_of_some _ x)) ⟨_, Heap.get?_push_size _ rfl, rfl⟩
section
variable {z TI TO i1 i2 : Addr} {fp1 fp2 : List Addr} {n1 n2 i : Nat} {P1 P2 : Nat → Value → Prop} {St1 St2 : Nat → Heap → Prop} {a1 a2 : Value}
theorem zipS_next {Q : Value → Shared → Prop} (S : ZipSep2 z TI TO i1 i2 fp1 fp2) (D1 : Draws prog w A i1 fp1 n1 P1 St1) (D2 : Draws prog w A i2 fp2 n2 P2 St2)
    (hz : IsZipS s.heap z TI TO .none) (hTI : IsTupOf2 s.heap TI (.ref i1) (.ref i2)) (hTO : IsTupOf2 s.heap TO a1 a2) (st1 : St1 i s.heap) (st2 : St2 i s.heap) (l1 : i < n1) (l2 : i < n2)
    (hQ : ∀ x1 x2 h' tk, P1 i x1 → P2 i x2 → IsZipS h' z TI TO (rawInt s.heap.objs.size) → IsTupOf2 h' TO x1 x2 → St1 (i + 1) h' → St2 (i + 1) h' → IsTupOf2 h' s.heap.objs.size x1 x2 →
      (∀ c o, c ≠ z → c ≠ TO → c ≠ i1 → c ≠ i2 → s.heap.get? c = some o → h'.get? c = some o) → Q (.ref s.heap.objs.size) { s with heap := h', toks := tk }) :
    wpAny (model prog w) A (Builtin.«zip.__next__» ⟨[.ref z], []⟩) (fun fin s' => ∃ v, fin = .done (.ret v) ∧ Q v s') E s := by
  obtain ⟨hp, g, d, tk0, os⟩ := s
  show wpAny _ _ (field (.ref z) 2 >>= _) _ _ _
  refine wpAny_bind (wpAny_field hz rfl (x := .bool true) rfl ?_)
  show wpAny _ _ (field (.ref z) 3 >>= _) _ _ _
  refine wpAny_bind (wpAny_field hz rfl (x := .ref TI) rfl ?_)
  refine wpAny_bind (wpAny_seqItems hTI rfl ?_)
  show wpAny _ _ (Builtin.SmallTypes.ownedTupleIsFree (.ref z) >>= _) _ _ _
  refine wpAny_bind ?_
  unfold Builtin.SmallTypes.ownedTupleIsFree
  refine wpAny_bind (wpAny_field hz rfl (x := .none) rfl (wpAny_pure ?_))
  simp only [if_true]
  refine wpAny_bind (wpAny_rule ?_)
  refine wpAny_bind (wpAny_field hz rfl (x := .ref TO) rfl ?_)
  refine wpAny_bind (wpAny_setField_rec hz (by simp) fun m0 hm0 sb0 => ?_)
  have hm0 : IsZipS m0 z TI TO .ellipsis := hm0
  have sb0 : Heap.SameBut z hp m0 := sb0
  refine wpAny_bind ?_
  simp only [List.zipIdx_cons, List.zipIdx_nil, List.forIn_cons, List.forIn_nil]
  refine wpAny_bind (wpAny_bind (wpAny_onRaise ?_))
  show wpAny _ _ (Builtin.SmallTypes.nextOrEnd (.ref i1)) _ _ ⟨m0, g, d, tk0, os⟩
  refine nextOrEnd_item D1 l1 (D1.over st1 sb0 S.zf1) fun x1 b1 tk1 px1 sn1 sp1 => ?_
  have sp1 : Heap.SameBut i1 m0 b1 := sp1
  have u1 : IsTupOf2 b1 TO a1 a2 := sp1.extBut _ _ S.Ti1 (sb0.extBut _ _ S.TOz hTO)
  refine wpAny_bind (wpAny_seqItems (s := ⟨b1, g, d, tk1, os⟩) u1 rfl ?_)
  refine wpAny_bind (updateSeq_IsTupOf2 (s := ⟨b1, g, d, tk1, os⟩) u1 fun m1 t1 sb1 => ?_)
  have t1 : IsTupOf2 m1 TO x1 a2 := t1
  have sb1 : Heap.SameBut TO b1 m1 := sb1
  refine wpAny_bind (wpAny_letGo (wpAny_pure ?_))
  refine wpAny_bind (wpAny_bind (wpAny_onRaise ?_))
  show wpAny _ _ (Builtin.SmallTypes.nextOrEnd (.ref i2)) _ _ ⟨m1, g, d, tk1, os⟩
  refine nextOrEnd_item D2 l2 (D2.over (D2.over (D2.over st2 sb0 S.zf2) sp1 S.sep1_2) sb1 S.Tf2) fun x2 b2 tk2 px2 sn2 sp2 => ?_
  have sp2 : Heap.SameBut i2 m1 b2 := sp2
  have u2 : IsTupOf2 b2 TO x1 a2 := sp2.extBut _ _ S.Ti2 t1
  refine wpAny_bind (wpAny_seqItems (s := ⟨b2, g, d, tk2, os⟩) u2 rfl ?_)
  refine wpAny_bind (updateSeq_IsTupOf2 (s := ⟨b2, g, d, tk2, os⟩) u2 fun m2 t2 sb2 => ?_)
  have t2 : IsTupOf2 m2 TO x1 x2 := t2
  have sb2 : Heap.SameBut TO b2 m2 := sb2
  refine wpAny_bind (wpAny_letGo (wpAny_pure (wpAny_pure ?_)))
  refine wpAny_bind (wpAny_seqItems (s := ⟨m2, g, d, tk2, os⟩) t2 rfl ?_)
  refine wpAny_bind (wpAny_newTuple ?_)
  have ez : m2.objs.size = hp.objs.size := by rw [sb2.1, sp2.1, sb1.1, sp1.1, sb0.1]
  have zz : IsZipS m2 z TI TO .ellipsis := sb2.extBut _ _ S.TOz.symm (sp2.extBut _ _ S.zi2 (sb1.extBut _ _ S.TOz.symm (sp1.extBut _ _ S.zi1 hm0)))
  have kk : ∀ c o, c ≠ z → c ≠ TO → c ≠ i1 → c ≠ i2 → hp.get? c = some o → m2.get? c = some o := fun c o c1 c2 c3 c4 e =>
    sb2.extBut _ _ c2 (sp2.extBut _ _ c4 (sb1.extBut _ _ c2 (sp1.extBut _ _ c3 (sb0.extBut _ _ c1 e))))
  have j1 : St1 (i + 1) m2 := D1.over (D1.over (D1.over sn1 sb1 S.Tf1) sp2 S.sep2_1) sb2 S.Tf1
  have j2 : St2 (i + 1) m2 := D2.over sn2 sb2 S.Tf2
  have zl : z < m2.objs.size := Heap.lt_size zz
  show wpAny _ _ (Builtin.SmallTypes.ownedTupleHandOut (.ref z) (.ref m2.objs.size) >>= _) _ _ ⟨m2.push { cls := .type "tuple", data := .seq #[x1, x2] }, g, d, tk2, os⟩
  refine wpAny_bind ?_
  unfold Builtin.SmallTypes.ownedTupleHandOut
  have hm6 : IsZipS (m2.push { cls := .type "tuple", data := .seq #[x1, x2] }) z TI TO .ellipsis := Heap.get?_push_of_some _ zz
  refine wpAny_bind (wpAny_setField_rec hm6 (by simp) fun m7 hm7 sb7 => ?_)
  have hm7 : IsZipS m7 z TI TO (rawInt m2.objs.size) := hm7
  refine wpAny_setField_rec hm7 (by simp) fun m8 hm8 sb8 => ?_
  have hm8 : IsZipS m8 z TI TO (rawInt m2.objs.size) := hm8
  have sb7 : Heap.SameBut z (m2.push { cls := .type "tuple", data := .seq #[x1, x2] }) m7 := sb7
  have sb8 : Heap.SameBut z m7 m8 := sb8
  have up : ∀ c o, c ≠ z → m2.get? c = some o → m8.get? c = some o := fun c o c1 e => sb8.extBut _ _ c1 (sb7.extBut _ _ c1 (Heap.get?_push_of_some _ e))
  have t8 : IsTupOf2 m8 m2.objs.size x1 x2 := sb8.extBut _ _ (Nat.ne_of_gt zl) (sb7.extBut _ _ (Nat.ne_of_gt zl) (Heap.get?_push_size _ rfl))
  rw [ez] at hm8 t8
  refine wpAny_pure ⟨_, rfl, ?_⟩
  show Q (.ref m2.objs.size) ⟨m8, g, d, tk2, os⟩
  rw [ez]
  exact hQ x1 x2 m8 tk2 px1 px2 hm8 (up _ _ S.TOz t2) (D1.frame _ _ _ j1 fun b hb o e => up b o (fun q => S.zf1 (q ▸ hb)) e) (D2.frame _ _ _ j2 fun b hb o e => up b o (fun q => S.zf2 (q ▸ hb)) e) t8 fun c o c1 c2 c3 c4 e => up c o c1 (kk c o c1 c2 c3 c4 e)
theorem zipS_end {Q : Fin → Shared → Prop} (hh : A.handled = none) (S : ZipSep2 z TI TO i1 i2 fp1 fp2) (D1 : Draws prog w A i1 fp1 n1 P1 St1) (D2 : Draws prog w A i2 fp2 n2 P2 St2)
    (hz : IsZipS s.heap z TI TO .none) (hTI : IsTupOf2 s.heap TI (.ref i1) (.ref i2)) (st1 : St1 n1 s.heap) (st2 : St2 n2 s.heap) (hTO : IsTupOf2 s.heap TO a1 a2)
    (hE : ∀ h' e, (∀ c o, c ≠ z → c ≠ i1 → c ≠ i2 → s.heap.get? c = some o → h'.get? c = some o) → (∃ o, h'.get? e = some o ∧ o.cls = .type "StopIteration") → E (.ref e) { s with heap := h' }) :
    wpAny (model prog w) A (Builtin.«zip.__next__» ⟨[.ref z], []⟩) Q E s := by
  obtain ⟨hp, g, d, tk0, os⟩ := s
  show wpAny _ _ (field (.ref z) 2 >>= _) _ _ _
  refine wpAny_bind (wpAny_field hz rfl (x := .bool true) rfl ?_)
  show wpAny _ _ (field (.ref z) 3 >>= _) _ _ _
  refine wpAny_bind (wpAny_field hz rfl (x := .ref TI) rfl ?_)
  refine wpAny_bind (wpAny_seqItems hTI rfl ?_)
  show wpAny _ _ (Builtin.SmallTypes.ownedTupleIsFree (.ref z) >>= _) _ _ _
  refine wpAny_bind ?_
  unfold Builtin.SmallTypes.ownedTupleIsFree
  refine wpAny_bind (wpAny_field hz rfl (x := .none) rfl (wpAny_pure ?_))
  simp only [if_true]
  refine wpAny_bind (wpAny_rule ?_)
  refine wpAny_bind (wpAny_field hz rfl (x := .ref TO) rfl ?_)
  refine wpAny_bind (wpAny_setField_rec hz (by simp) fun m0 hm0 sb0 => ?_)
  have hm0 : IsZipS m0 z TI TO .ellipsis := hm0
  have sb0 : Heap.SameBut z hp m0 := sb0
  refine wpAny_bind ?_
  simp only [List.zipIdx_cons, List.zipIdx_nil, List.forIn_cons, List.forIn_nil]
  refine wpAny_bind (wpAny_bind (wpAny_onRaise ?_))
  show wpAny _ _ (Builtin.SmallTypes.nextOrEnd (.ref i1)) _ _ ⟨m0, g, d, tk0, os⟩
  refine nextOrEnd_end D1 (D1.over st1 sb0 S.zf1) fun b1 sp1 => ?_
  have sp1 : Heap.ExtBut i1 m0 b1 := sp1
  have hz1 : IsZipS b1 z TI TO .ellipsis := sp1 _ _ S.zi1 hm0
  refine wpAny_bind (wpAny_setField_rec (s := ⟨b1, g, d, tk0, os⟩) hz1 (by simp) fun m2 hm2 sb2 => ?_)
  have sb2 : Heap.SameBut z b1 m2 := sb2
  have k1 : ∀ c o, c ≠ z → c ≠ i1 → hp.get? c = some o → m2.get? c = some o := fun c o c1 c2 e => sb2.extBut _ _ c1 (sp1 _ _ c2 (sb0.extBut _ _ c1 e))
  have st2' : St2 n2 m2 := D2.frame _ _ _ st2 fun b hb o e => k1 b o (fun q => S.zf2 (q ▸ hb)) (fun q => S.sep1_2 (q ▸ hb)) e
  refine wpAny_bind ?_
  have n0 : ¬ ((0 : Nat) > 0) := by decide
  wp_delta
  refine wpAny_ite_split (fun h => absurd h n0) (fun _ => ?_)
  simp only [List.drop_succ_cons, List.drop_zero, List.zipIdx_cons, List.zipIdx_nil, List.forIn_cons, List.forIn_nil]
  refine wpAny_bind ?_
  refine wpAny_bind ?_
  refine wpAny_bind ?_
  refine nextOrEnd_end D2 st2' fun b3 sp3 => ?_
  refine wpAny_ite_split (fun h => absurd h (by decide)) (fun _ => wpAny_pure (wpAny_pure ?_))
  refine wpAny_bind (wpAny_rule ?_)
  refine stop_raised hh fun h' e k3 he => ?_
  have sp3 : Heap.ExtBut i2 m2 b3 := sp3
  exact hE h' e (fun c o c1 c2 c3 x => k3 c o (sp3 _ _ c3 (k1 c o c1 c2 x))) he
theorem pyNext_zipS {Q : Option Value → Shared → Prop} (S : ZipSep2 z TI TO i1 i2 fp1 fp2) (D1 : Draws prog w A.in1 i1 fp1 n1 P1 St1) (D2 : Draws prog w A.in1 i2 fp2 n2 P2 St2)
    (hz : IsZipS s.heap z TI TO .none) (hTI : IsTupOf2 s.heap TI (.ref i1) (.ref i2)) (hTO : IsTupOf2 s.heap TO a1 a2) (st1 : St1 i s.heap) (st2 : St2 i s.heap) (l1 : i < n1) (l2 : i < n2)
    (hQ : ∀ x1 x2 h' tk, P1 i x1 → P2 i x2 → IsZipS h' z TI TO (rawInt s.heap.objs.size) → IsTupOf2 h' TO x1 x2 → St1 (i + 1) h' → St2 (i + 1) h' → IsTupOf2 h' s.heap.objs.size x1 x2 →
      (∀ c o, c ≠ z → c ≠ TO → c ≠ i1 → c ≠ i2 → s.heap.get? c = some o → h'.get? c = some o) → Q (some (.ref s.heap.objs.size)) { s with heap := h', toks := tk }) :
    wpAny (model prog w) A (pyNext (.ref z)) Q E s := by
  have hT : s.TypeIs (.ref z) "zip" := ⟨_, hz, rfl⟩
  unfold pyNext
  refine wpAny_bind (wpAny_attempt (wpAny_callSpecial?_slot (name := Str.ofString "__next__") hT F.slot_zip_next (wpAny_call_entry F.slot_zip_next hT F.entry_zip_next ?_ (F.args_zip_next_1 _))))
  exact zipS_next S D1 D2 hz hTI hTO st1 st2 l1 l2 fun x1 x2 h' tk y1 y2 b1 b2 d1 d2 b5 b6 => wpAny_pure (hQ x1 x2 h' tk y1 y2 b1 b2 d1 d2 b5 b6)
theorem pyNext_zipS_end {Q : Option Value → Shared → Prop} (hh : A.handled = none) (S : ZipSep2 z TI TO i1 i2 fp1 fp2) (D1 : Draws prog w A.in1 i1 fp1 n1 P1 St1) (D2 : Draws prog w A.in1 i2 fp2 n2 P2 St2)
    (hz : IsZipS s.heap z TI TO .none) (hTI : IsTupOf2 s.heap TI (.ref i1) (.ref i2)) (hTO : IsTupOf2 s.heap TO a1 a2) (st1 : St1 n1 s.heap) (st2 : St2 n2 s.heap)
    (hQ : ∀ h', (∀ c o, c ≠ z → c ≠ i1 → c ≠ i2 → s.heap.get? c = some o → h'.get? c = some o) → Q none { s with heap := h' }) : wpAny (model prog w) A (pyNext (.ref z)) Q E s := by
  have hT : s.TypeIs (.ref z) "zip" := ⟨_, hz, rfl⟩
  unfold pyNext
  refine wpAny_bind (wpAny_attempt (wpAny_callSpecial?_slot (name := Str.ofString "__next__") hT F.slot_zip_next (wpAny_call_entry F.slot_zip_next hT F.entry_zip_next ?_ (F.args_zip_next_1 _))))
  refine zipS_end hh S D1 D2 hz hTI st1 st2 hTO fun h' e k he => ?_
  obtain ⟨o, ho, hc⟩ := he
  refine wpAny_bind (wpAny_isInstance (T := "StopIteration") (b := true) ⟨o, ho, hc⟩ isSubtype_stop ?_)
  exact wpAny_pure (hQ _ k)
theorem goZipS {elts : List Expr} {x1 : Nat} {pos : Pos} {T : Addr} {Q : Unit → Shared → Prop} (hz : IsZipS s.heap z TI TO (rawInt T))
    (hQ : ∀ h', IsZipS h' z TI TO .none → Heap.SameBut z s.heap h' → Q () { s with heap := h' }) :
    wpAny (model prog w) A (letOwnedTupleGo (.Tuple elts x1 pos) (.ref z) (.ref T)) Q E s := by
  unfold letOwnedTupleGo
  refine wpAny_bind (wpAny_load hz ?_)
  refine wpAny_ite_split (fun _ => ?_) (fun h => absurd ?_ h)
  · refine wpAny_bind (wpAny_rule ?_)
    show wpAny _ _ (setField (.ref z) 0 .none) Q E s
    exact wpAny_setField_rec hz (by simp) fun h' hz' hs' => hQ h' hz' hs'
  · simp
theorem iterZipS {f0 : Value} {Q : Value → Shared → Prop} (hz : IsZipS s.heap z TI TO f0) (h : Q (.ref z) s) : wpAny (model prog w) A (pyIter (.ref z)) Q E s := by
  have hT : s.TypeIs (.ref z) "zip" := ⟨_, hz, rfl⟩
  refine wpAny_pyIter_slot hT F.slot_zip_iter (wpAny_call_entry F.slot_zip_iter hT F.entry_zip_iter ?_ (F.args_zip_iter_1 _))
  show wpAny _ _ (ret (.ref z)) _ _ s
  exact wpAny_pure ⟨_, rfl, "zip", _, hT, F.slot_zip_next.lookup, h⟩
end
end
/-- the things at a and at b side by side, in new pairs, as many of the one as of the other -/
def ItzS (k l : Bool) (K : PySem.W.Frag) (a b : Addr) : It :=
  ⟨fun i H => ∃ (xs ys : List V) (x y : V), SqK k K H a xs ∧ SqK l K H b ys ∧ xs[i]? = some x ∧ ys[i]? = some y,
    fun i H v H' => ∃ T x y, v = .ref T ∧ H T = none ∧ H' = upd H T (.tup [x, y]) ∧ (∀ xs, SqK k K H a xs → xs[i]? = some x) ∧ ∀ ys, SqK l K H b ys → ys[i]? = some y,
    fun i H => ∃ xs ys : List V, SqK k K H a xs ∧ SqK l K H b ys ∧ xs.length ≤ i ∧ ys.length ≤ i⟩
/-- the cells of a zip, apart from what it walks -/
structure Zap (z TI TO i1 i2 a b : Addr) : Prop where
  p1 : TI ≠ z
  p2 : TO ≠ z
  p3 : TI ≠ TO
  p4 : TI ≠ i1
  p5 : TI ≠ i2
  p6 : z ≠ i1
  p7 : z ≠ i2
  p8 : TO ≠ i1
  p9 : TO ≠ i2
  q1 : i1 ≠ i2
  a1 : a ≠ z
  a2 : a ≠ TO
  a3 : a ≠ i1
  a4 : a ≠ i2
  b1 : b ≠ z
  b2 : b ≠ TO
  b3 : b ≠ i1
  b4 : b ≠ i2
theorem zap_new {N a b : Nat} (ha : a < N) (hb : b < N) : Zap (N + 4) (N + 2) (N + 3) N (N + 1) a b := by
  constructor <;> (intro h; have h : @Eq Nat _ _ := h; omega)
theorem new5 {N c : Nat} (h : c = N + 4 ∨ c = N + 2 ∨ c = N + 3 ∨ c = N ∨ c = N + 1) : N ≤ c := by omega
theorem Zap.sep {z TI TO i1 i2 a b : Addr} (D : Zap z TI TO i1 i2 a b) : ZipSep2 z TI TO i1 i2 [i1, a] [i2, b] :=
  ⟨D.p1, D.p2, D.p3, D.p4, by simp, by simp [D.p6, D.a1.symm], by simp [D.p8, D.a2.symm], D.p5, by simp, by simp [D.p7, D.b1.symm], by simp [D.p9, D.b2.symm], by simp [D.q1, D.b3.symm], by simp [D.q1.symm, D.a4.symm]⟩
theorem turn_zipS {P : Program} {w : World} {K : PySem.W.Frag} {k l : Bool} {elts : List Expr} {kk : Nat} {tpos : Pos} {a b z TI TO i1 i2 : Addr} (D : Zap z TI TO i1 i2 a b) :
    Turn P w K (.Tuple elts kk tpos) (ItzS k l K a b) [z, TI, TO, i1, i2] z (fun i h => IsZipS h z TI TO .none ∧ IsTupOf2 h TI (.ref i1) (.ref i2) ∧ (∃ x y, IsTupOf2 h TO x y) ∧ ItK k h i1 a i ∧ ItK l h i2 b i) where
  mem := by simp
  obj := fun i h st c hc => by
    obtain ⟨hz, hTI, ⟨x, y, hTO⟩, h1, h2⟩ := st
    have hc' : c = z ∨ c = TI ∨ c = TO ∨ c = i1 ∨ c = i2 := by simpa using hc
    rcases hc' with q | q | q | q | q
    · rw [q]; exact ⟨_, hz, fun v q => nomatch q⟩
    · rw [q]; exact ⟨_, hTI, fun v q => nomatch q⟩
    · rw [q]; exact ⟨_, hTO, fun v q => nomatch q⟩
    · rw [q]; exact itK_obj h1
    · rw [q]; exact itK_obj h2
  keep := fun i h h' st kp => by
    obtain ⟨hz, hTI, ⟨x, y, hTO⟩, h1, h2⟩ := st
    exact ⟨kp z (by simp) _ hz, kp TI (by simp) _ hTI, ⟨x, y, kp TO (by simp) _ hTO⟩, itK_at h1 fun o q => kp i1 (by simp) o q, itK_at h2 fun o q => kp i2 (by simp) o q⟩
  item := by
    intro X eP ew eK cm i pins s σ H E I hf st hg
    subst eP ew eK
    obtain ⟨hz, hTI, ⟨x0, y0, hTO⟩, h1, h2⟩ := st
    obtain ⟨xs, ys, x, y, hqx, hqy, hx, hy⟩ := hg
    obtain ⟨its, rv, p, _⟩ := inv_sqK I hqx
    obtain ⟨jts, rv2, p2, _⟩ := inv_sqK I hqy
    obtain ⟨u, hu, ru⟩ := rv.get hx
    obtain ⟨u2, hu2, ru2⟩ := rv2.get hy
    have zl : z < s.heap.objs.size := Heap.lt_size hz
    have lt1 : i < its.toArray.size := by have := (List.getElem?_eq_some_iff.mp hu).1; simpa using this
    have lt2 : i < jts.toArray.size := by have := (List.getElem?_eq_some_iff.mp hu2).1; simpa using this
    refine pyNext_zipS D.sep (drawsK (A := X.A.in1) (I.ok.hd cm) k i1 a D.a3 its.toArray) (drawsK (A := X.A.in1) (I.ok.hd cm) l i2 b D.b4 jts.toArray) hz hTI hTO ⟨h1, p⟩ ⟨h2, p2⟩ lt1 lt2 fun v1 v2 h' tk pv1 pv2 z' TO' s1' s2' hT hk => ?_
    have e1 : v1 = u := by
      have : its[i]? = some v1 := by simpa using pv1
      rw [hu] at this
      exact (Option.some.inj this).symm
    have e2 : v2 = u2 := by
      have : jts[i]? = some v2 := by simpa using pv2
      rw [hu2] at this
      exact (Option.some.inj this).symm
    subst e1 e2
    refine ⟨_, rfl, goZipS (s := { s with heap := h', toks := tk }) z' fun h2' z2' sb => ?_⟩
    have hT2 : h2'.get? s.heap.objs.size = some { cls := .type "tuple", data := .seq #[v1, v2] } := (sb.2 _ (Nat.ne_of_gt zl)).trans hT
    have nw : ObjOk X.prog X.w (upd H s.heap.objs.size (.tup [x, y])) h2' s.heap.objs.size (.tup [x, y]) :=
      ⟨by show 2 ≤ sizeLine; decide, [v1, v2], .cons ru (.cons ru2 .nil), ⟨_, hT2, rfl, _, rfl⟩⟩
    have I1 : Inv X pins σ (upd H s.heap.objs.size (.tup [x, y])) { s with heap := h2', toks := tk } :=
      I.turnedNew (ch := [z, TI, TO, i1, i2]) (fun c o hb q => (sb.2 c (fun q' => hb (by simp [q']))).trans (hk c o (fun q' => hb (by simp [q'])) (fun q' => hb (by simp [q'])) (fun q' => hb (by simp [q'])) (fun q' => hb (by simp [q'])) q)) hf (Nat.le_refl _) nw
    refine ⟨.ref s.heap.objs.size, _, I1, rfl, ⟨_, x, y, rfl, I.hok.fresh (Nat.le_refl _), rfl, fun m hm => by rw [sqK_inj I hm hqx]; exact hx, fun m hm => by rw [sqK_inj I hm hqy]; exact hy⟩, ⟨z2', ?_, ⟨v1, v2, ?_⟩, ?_, ?_⟩, fun c hcm => ?_⟩
    · exact (sb.2 _ D.p1).trans (hk _ _ D.p1 D.p3 D.p4 D.p5 hTI)
    · exact (sb.2 _ D.p2).trans TO'
    · exact itK_at s1'.1 fun o q => (sb.2 _ D.p6.symm).trans q
    · exact itK_at s2'.1 fun o q => (sb.2 _ D.p7.symm).trans q
    · have hlt : c < s.heap.objs.size := by
        have hc' : c = z ∨ c = TI ∨ c = TO ∨ c = i1 ∨ c = i2 := by simpa using hcm
        rcases hc' with q | q | q | q | q
        · rw [q]; exact zl
        · rw [q]; exact Heap.lt_size hTI
        · rw [q]; exact Heap.lt_size hTO
        · rw [q]; obtain ⟨o, q, _⟩ := itK_obj h1; exact Heap.lt_size q
        · rw [q]; obtain ⟨o, q, _⟩ := itK_obj h2; exact Heap.lt_size q
      rw [upd_ne (Nat.ne_of_lt hlt)]
      exact (hf c hcm).1
  done := by
    intro X eP ew eK cm i pins s σ H E I hf st hg
    subst eP ew eK
    obtain ⟨hz, hTI, ⟨x0, y0, hTO⟩, h1, h2⟩ := st
    obtain ⟨xs, ys, hqx, hqy, hx, hy⟩ := hg
    obtain ⟨its, rv, p, _⟩ := inv_sqK I hqx
    obtain ⟨jts, rv2, p2, _⟩ := inv_sqK I hqy
    have n1 : its.toArray[i]? = none := by have := rv.length; simp; omega
    have n2 : jts.toArray[i]? = none := by have := rv2.length; simp; omega
    refine pyNext_zipS_end (I.ok.hd cm) D.sep (drawsEnd (A := X.A.in1) (I.ok.hd cm) k i1 a its.toArray i n1) (drawsEnd (A := X.A.in1) (I.ok.hd cm) l i2 b jts.toArray i n2) hz hTI hTO ⟨rfl, h1, p⟩ ⟨rfl, h2, p2⟩ fun h' kp => ⟨rfl, I.turnedL (t' := s.toks) (ch := [z, TI, TO, i1, i2]) (fun c o hb q => kp c o (fun q' => hb (by simp [q'])) (fun q' => hb (by simp [q'])) (fun q' => hb (by simp [q'])) q) hf⟩
  self := fun A i s Q E st h => iterZipS st.1 h
def iZipS (K : PySem.W.Frag) (t1 t2 : TE) : TI := fun σ H R => t1 σ H fun x H1 => t2 σ H1 fun y H2 => ∃ k l a b xs ys, x = .ref a ∧ y = .ref b ∧ SqK k K H2 a xs ∧ SqK l K H2 b ys ∧ R (ItzS k l K a b) H2
theorem pi_zipS {X : Cx} {e1 e2 : Expr} {t1 t2 : TE} {pp pos tpos kp kq : Pos} {j : Nat} {elts : List Expr} {kk : Nat} (hg : Gl X "zip") (hm : X.mg "zip" = none) (h1 : PE X e1 t1) (h2 : PE X e2 t2)
    (s1 : starEach [e1, e2] X.env = (false, eval e1 X.env) :: starEach [e2] X.env) (s2 : starEach [e2] X.env = [(false, eval e2 X.env)]) :
    PI X (.Tuple elts kk tpos) (.Call (.Name "zip" pp) [e1, e2] [⟨some (Str.ofString "strict"), .Constant (.bool true) j kp, kq⟩] pos) (iZipS X.K t1 t2) := by
  refine ⟨fun pins s σ H R I h => ?_⟩
  have ha : PA X [e1, e2] (tCons t1 (tCons t2 tNil)) := pa_cons h1 (pa_cons h2 pa_nil s2) s1
  have hk : PK X [⟨some (Str.ofString "strict"), .Constant (.bool true) j kp, kq⟩] (tCons (tC (.bl true)) tNil) := pk_cons (e := .Constant (.bool true) j kp) pe_bl pk_nil
  have h3 : tCons t1 (tCons t2 tNil) σ H fun vs H1 => match vs with
    | [x, y] => ∃ k l a b xs ys, x = V.ref a ∧ y = V.ref b ∧ SqK k X.K H1 a xs ∧ SqK l X.K H1 b ys ∧ R (ItzS k l X.K a b) H1
    | _ => False := h
  refine wpAny_Call_Name_kw (ld_blt I hg hm PyProof.Rows.boot_zip ?_)
  refine callWith_tyKw (by rw [s1, s2]; rfl) ?_
  refine evalArgs_kw2 rfl (thn (ha.run pos pins s σ H _ I h3) fun us sa ⟨vs, H1, I1, r1, q1⟩ => ?_) s1
  have h4 : tCons (tC (.bl true)) tNil σ H1 fun zs H2 => zs = [.bl true] ∧ H2 = H1 := ⟨rfl, rfl⟩
  refine thn (hk.run pos pins sa σ H1 _ I1 h4) fun ws sb ⟨zs, H2, I2, r2, q2⟩ => ?_
  obtain ⟨ez, eH⟩ := q2
  subst ez eH
  obtain ⟨x, y, k, l, a, b, xs, ys, ev, ex, ey, hx, hy, q⟩ : ∃ x y k l a b xs ys, vs = [x, y] ∧ x = V.ref a ∧ y = V.ref b ∧ SqK k X.K H2 a xs ∧ SqK l X.K H2 b ys ∧ R (ItzS k l X.K a b) H2 := by
    cases vs with
    | nil => exact q1.elim
    | cons x vs =>
      cases vs with
      | nil => exact q1.elim
      | cons y vs =>
        cases vs with
        | nil =>
          obtain ⟨k, l, a, b, xs, ys, q⟩ := q1
          exact ⟨x, y, k, l, a, b, xs, ys, rfl, q⟩
        | cons z vs => exact q1.elim
  subst ev ex ey
  cases r1 with
  | cons r rr =>
  cases rr with
  | cons r' rr =>
  cases rr
  cases r
  cases r'
  cases r2 with
  | cons rw rr =>
  cases rr
  cases rw
  obtain ⟨its, rv, p, la⟩ := inv_sqK I2 hx
  obtain ⟨jts, rv2, p2, lb⟩ := inv_sqK I2 hy
  refine zipS_begins (beginsK k a its.toArray) (beginsK l b jts.toArray) p p2 fun h' hz hTI hTO g1 g2 kk' => iterZipS hz ?_
  have I3 : Inv X pins σ H2 { sb with heap := h' } := I2.kept (t' := sb.toks) kk'
  refine ⟨sb.heap.objs.size + 4, [sb.heap.objs.size + 4, sb.heap.objs.size + 2, sb.heap.objs.size + 3, sb.heap.objs.size, sb.heap.objs.size + 1], _, _, H2, rfl, I3, turn_zipS (k := k) (l := l) (a := a) (b := b) ?_, ⟨hz, hTI, ⟨_, _, hTO⟩, itK_new g1, itK_new g2⟩, fun c hc => ?_, q⟩
  · exact zap_new la lb
  · have hc' : c = sb.heap.objs.size + 4 ∨ c = sb.heap.objs.size + 2 ∨ c = sb.heap.objs.size + 3 ∨ c = sb.heap.objs.size ∨ c = sb.heap.objs.size + 1 := by simpa using hc
    have hle : sb.heap.objs.size ≤ c := new5 hc'
    exact I2.fpOk hle (I2.hok.fresh hle)
end Tz

set_option Elab.async false
set_option linter.all false
set_option maxRecDepth 100000
set_option maxHeartbeats 1000000
/-! Tj: enumerate and zip of trees. -/
namespace Tz
open PySem L2 PyProof.Rows
def enumF : Nat → List D → List D
  | _, [] => []
  | n, x :: xs => .tup [.int n, x] :: enumF (n + 1) xs
def zipF : List D → List D → List D
  | x :: xs, y :: ys => .tup [x, y] :: zipF xs ys
  | _, _ => []
theorem enumF_len : ∀ (xs : List D) (n : Nat), (enumF n xs).length = xs.length
  | [], _ => rfl
  | x :: xs, n => by show (enumF (n + 1) xs).length + 1 = _; rw [enumF_len xs]; rfl
theorem enumF_get : ∀ (xs : List D) (n i : Nat) (d : D), (enumF n xs)[i]? = some d → ∃ x, xs[i]? = some x ∧ d = .tup [.int ((n + i : Nat) : Int), x]
  | [], n, i, d, h => by cases i <;> cases h
  | x :: xs, n, 0, d, h => ⟨x, rfl, (Option.some.inj h).symm⟩
  | x :: xs, n, i + 1, d, h => by
    obtain ⟨y, h1, h2⟩ := enumF_get xs (n + 1) i d h
    exact ⟨y, h1, by rw [h2, Nat.add_assoc n 1 i, Nat.add_comm 1 i]⟩
theorem zipF_len : ∀ (xs ys : List D), xs.length = ys.length → (zipF xs ys).length = xs.length
  | [], [], _ => rfl
  | x :: xs, y :: ys, h => by show (zipF xs ys).length + 1 = _; rw [zipF_len xs ys (Nat.succ.inj h)]; rfl
  | [], y :: ys, h => by cases h
  | x :: xs, [], h => by cases h
theorem zipF_get : ∀ (xs ys : List D) (i : Nat) (d : D), (zipF xs ys)[i]? = some d → ∃ x y, xs[i]? = some x ∧ ys[i]? = some y ∧ d = .tup [x, y]
  | [], _, i, d, h => by cases i <;> cases h
  | x :: xs, [], i, d, h => by cases i <;> cases h
  | x :: xs, y :: ys, 0, d, h => ⟨x, y, rfl, rfl, (Option.some.inj h).symm⟩
  | x :: xs, y :: ys, i + 1, d, h => by
    obtain ⟨a, b, h1, h2, h3⟩ := zipF_get xs ys i d h
    exact ⟨a, b, h1, h2, h3⟩
section
variable {X : Cx} {p : Prm} {Wx : WX} {f g : ESem}
theorem items_seq (hK : p.K = X.K) {W W1 : Wd} {H H1 : Hp} {st1 : Store} {v : RV} {x : V} {xs : List D} (f1 : Fut W H W1 H1) (S1 : SOk p W1 H1 st1) (R1 : RVr p H W1 H1 v x) (e : itemsOf v = some xs) :
    ∃ b W2 k vs, x = .ref b ∧ Fut W H W2 H1 ∧ SOk p W2 H1 st1 ∧ (∀ W' H', Fw W2 H1 W' H' → SqK k X.K H' b vs) ∧ RepL p W2 H1 xs vs := by
  cases v with
  | peek d => cases e
  | fresh d =>
    cases d with
    | lst ys =>
      injection e with e
      subst e
      obtain ⟨b, rfl, ⟨vs, h1, h2⟩, h3, h4, h5⟩ := R1
      exact ⟨b, W1.add b, true, vs, rfl, f1.still h5, S1.still h4 (some_ne h1), fun W' H' f => SqL.of (f.keepF b _ (.inr rfl) h1), RepL.add b _ _ h2⟩
    | _ => cases e
  | val d =>
    cases d with
    | tup ys =>
      injection e with e
      subst e
      obtain ⟨b, vs, rfl, h1, h2⟩ := R1
      rw [hK] at h1
      exact ⟨b, W1, false, vs, rfl, f1, S1, fun W' H' f => sqT_keep f h1, h2⟩
    | lst ys =>
      injection e with e
      subst e
      obtain ⟨b, vs, rfl, h1, h2, h3⟩ := R1
      exact ⟨b, W1, true, vs, rfl, f1, S1, fun W' H' f => SqL.of (f.keepF b _ h1 h2), h3⟩
    | rol ys =>
      injection e with e
      subst e
      obtain ⟨b, vs, rfl, h1, h3⟩ := R1
      rw [hK] at h1
      rcases h1 with ⟨h1, h2⟩ | h2
      · exact ⟨b, W1, true, vs, rfl, f1, S1, fun W' H' f => sqL_keep f h1 h2, h3⟩
      · exact ⟨b, W1, true, vs, rfl, f1, S1, fun W' H' f => h2 H', h3⟩
    | _ => cases e
theorem walks_enum {K : PySem.W.Frag} {W : Wd} {H : Hp} {b : Addr} {k : Bool} {vs : List V} {xs : List D} (hs : ∀ W' H', Fw W H W' H' → SqK k K H' b vs) (hr : RepL p W H xs vs) : Walks p (IteK k K b) W H (enumF 0 xs) := by
  intro W' H' st f S i
  have hv := hs W' H' f
  have hr' := RepL.fw f xs vs hr
  refine ⟨fun d e => ?_, fun hi => ⟨vs, hv, by rw [hr.length]; rw [enumF_len] at hi; exact hi⟩⟩
  obtain ⟨y, e1, e2⟩ := enumF_get xs 0 i d e
  rw [Nat.zero_add] at e2
  subst e2
  obtain ⟨v, k1, k2⟩ := hr'.get e1
  refine ⟨⟨vs, v, hv, k1⟩, fun x H'' z => ?_⟩
  obtain ⟨T, u, rfl, hT, rfl, z⟩ := z
  have q := z vs hv
  rw [k1] at q
  injection q with q
  subst q
  exact ⟨W', Fut.laid S hT, S.laid hT, tup_mk (Hs := H') S hT ⟨.int (i : Nat), [v], rfl, rfl, v, [], rfl, k2, rfl⟩⟩
theorem walks_zip {K : PySem.W.Frag} {W : Wd} {H : Hp} {a b : Addr} {k l : Bool} {vs ws : List V} {xs ys : List D} (h1 : ∀ W' H', Fw W H W' H' → SqK k K H' a vs) (h2 : ∀ W' H', Fw W H W' H' → SqK l K H' b ws) (r1 : RepL p W H xs vs) (r2 : RepL p W H ys ws) (hl : xs.length = ys.length) :
    Walks p (ItzS k l K a b) W H (zipF xs ys) := by
  intro W' H' st f S i
  have hv := h1 W' H' f
  have hw := h2 W' H' f
  have r1' := RepL.fw f xs vs r1
  have r2' := RepL.fw f ys ws r2
  refine ⟨fun d e => ?_, fun hi => ?_⟩
  · obtain ⟨x, y, e1, e2, e3⟩ := zipF_get xs ys i d e
    subst e3
    obtain ⟨v, k1, k2⟩ := r1'.get e1
    obtain ⟨w, m1, m2⟩ := r2'.get e2
    refine ⟨⟨vs, ws, v, w, hv, hw, k1, m1⟩, fun x' H'' z => ?_⟩
    obtain ⟨T, u, u', rfl, hT, rfl, z1, z2⟩ := z
    have q := z1 vs hv
    rw [k1] at q
    injection q with q
    subst q
    have q := z2 ws hw
    rw [m1] at q
    injection q with q
    subst q
    exact ⟨W', Fut.laid S hT, S.laid hT, tup_mk (Hs := H') S hT ⟨v, [w], rfl, k2, w, [], rfl, m2, rfl⟩⟩
  · rw [zipF_len xs ys hl] at hi
    exact ⟨vs, ws, hv, hw, by rw [r1.length]; exact hi, by rw [r2.length, ← hl]; exact hi⟩
def iEnumD (a : ESem) : ISem := fun r st => match a r st with
  | some (.ok x st1) => match itemsOf x with
    | some xs => some (enumF 0 xs, st1)
    | none => none
  | _ => none
def iZipD (a b : ESem) : ISem := fun r st => match a r st with
  | some (.ok x st1) => match itemsOf x with
    | some xs => match b r st1 with
      | some (.ok y st2) => match itemsOf y with
        | some ys => if xs.length = ys.length then some (zipF xs ys, st2) else none
        | none => none
      | _ => none
    | none => none
  | _ => none
theorem pi_enumD (hK : p.K = X.K) {e : Expr} {pp pos tpos : Pos} {elts : List Expr} {kk : Nat} (hg : Gl X "enumerate") (hm : X.mg "enumerate" = none) (he : PE X e (tE p Wx f)) (hs : notStar e = true) :
    PI X (.Tuple elts kk tpos) (.Call (.Name "enumerate" pp) [e] [] pos) (tI p (iEnumD f)) := by
  refine (pi_enumK hg hm he (starEach_cons hs)).weak fun σ H R ⟨W0, H0, W, r, st, G, q⟩ => ?_
  unfold iEnumD at q
  refine tE_bind G (fun v st1 e1 W1 H1 x f1 S1 R1 G1 => ?_) (fun e st1 e1 => ?_) (fun z => ?_)
  · simp only [e1] at q
    cases ez : itemsOf v with
    | none => simp only [ez] at q
    | some xs =>
      simp only [ez] at q
      obtain ⟨b, W2, k, vs, rfl, f2, S2, hsq, hr⟩ := items_seq hK f1 S1 R1 ez
      exact ⟨k, b, vs, rfl, hsq W2 H1 Fw.refl, q W2 H1 _ f2 S2 (walks_enum hsq hr)⟩
  · simp only [e1] at q
  · simp only [z] at q
theorem pi_zipD (hK : p.K = X.K) {e1 e2 : Expr} {pp pos tpos kp kq : Pos} {j : Nat} {elts : List Expr} {kk : Nat} (hg : Gl X "zip") (hm : X.mg "zip" = none) (h1 : PE X e1 (tE p Wx f)) (h2 : PE X e2 (tE p Wx g)) (s1 : notStar e1 = true) (s2 : notStar e2 = true) :
    PI X (.Tuple elts kk tpos) (.Call (.Name "zip" pp) [e1, e2] [⟨some (Str.ofString "strict"), .Constant (.bool true) j kp, kq⟩] pos) (tI p (iZipD f g)) := by
  refine (pi_zipS hg hm h1 h2 (starEach_cons s1) (starEach_cons s2)).weak fun σ H R ⟨W0, H0, W, r, st, G, q⟩ => ?_
  unfold iZipD at q
  refine tE_bind G (fun v st1 e1 W1 H1 x f1 S1 R1 G1 => ?_) (fun e st1 e1 => ?_) (fun z => ?_)
  · simp only [e1] at q
    cases ez : itemsOf v with
    | none => simp only [ez] at q
    | some xs =>
      simp only [ez] at q
      obtain ⟨a, W2, k, vs, rfl, f2, S2, hsq, hr⟩ := items_seq hK f1 S1 R1 ez
      refine tE_bind (G.to f2 S2) (fun w st2 e2 W3 H3 y f3 S3 R3 G3 => ?_) (fun e st2 e2 => ?_) (fun z => ?_)
      · simp only [e2] at q
        cases ew : itemsOf w with
        | none => simp only [ew] at q
        | some ys =>
          simp only [ew] at q
          by_cases hl : xs.length = ys.length
          · rw [if_pos hl] at q
            obtain ⟨b, W4, l, ws, rfl, f4, S4, hsq2, hr2⟩ := items_seq hK f3 S3 R3 ew
            have fw4 := f4.fw S2
            refine ⟨k, l, a, b, vs, ws, rfl, rfl, hsq _ _ fw4, hsq2 _ _ Fw.refl, q W4 H3 _ (f2.trans f4) S4 (walks_zip (fun W' H' z => hsq W' H' (fw4.trans z)) hsq2 (RepL.fw fw4 _ _ hr) hr2 hl)⟩
          · rw [if_neg hl] at q
            exact q.elim
      · simp only [e2] at q
      · simp only [z] at q
  · simp only [e1] at q
  · simp only [z] at q
end
end Tz

set_option Elab.async false
set_option linter.all false
set_option maxRecDepth 100000
set_option maxHeartbeats 1000000
/-! Tk: == of trees, fields of instances, isinstance with own classes, is of truths. -/
namespace Tz
open PySem L2 PyProof.Rows
mutual
def pd : D → PyData
  | .non => .none
  | .bl b => .bool b
  | .int i => .int i
  | .str s => .str s
  | .tup xs => .tuple (pds xs)
  | .lst xs => .list (pds xs)
  | .rol xs => .list (pds xs)
  | .ref _ => .none
  | .ins _ _ _ => .none
  | .dct _ _ => .none
def pds : List D → List PyData
  | [] => []
  | x :: xs => pd x :: pds xs
end
mutual
/-- a tree that == goes through, no deeper than n -/
def dOk (n : Nat) : D → Bool
  | .non => true
  | .bl _ => true
  | .int _ => true
  | .str x => PyData.strOk x
  | .tup xs => match n with
    | 0 => false
    | n + 1 => dOks n xs
  | .lst xs => match n with
    | 0 => false
    | n + 1 => dOks n xs
  | .rol xs => match n with
    | 0 => false
    | n + 1 => dOks n xs
  | .ref _ => false
  | .ins _ _ _ => false
  | .dct _ _ => false
def dOks (n : Nat) : List D → Bool
  | [] => true
  | x :: xs => dOk n x && dOks n xs
end
mutual
theorem dOk_pd : ∀ (n : Nat) (d : D), dOk n d = true → (pd d).canLay0 = true ∧ (pd d).depth ≤ n
  | _, .non, _ => ⟨rfl, Nat.zero_le _⟩
  | _, .bl _, _ => ⟨rfl, Nat.zero_le _⟩
  | _, .int _, _ => ⟨rfl, Nat.zero_le _⟩
  | _, .str x, h => ⟨h, Nat.zero_le _⟩
  | 0, .tup _, h => by cases h
  | 0, .lst _, h => by cases h
  | 0, .rol _, h => by cases h
  | n + 1, .tup xs, h => by
    obtain ⟨h2, h3⟩ := dOks_pd n xs h
    exact ⟨h2, Nat.succ_le_succ h3⟩
  | n + 1, .lst xs, h => by
    obtain ⟨h2, h3⟩ := dOks_pd n xs h
    exact ⟨h2, Nat.succ_le_succ h3⟩
  | n + 1, .rol xs, h => by
    obtain ⟨h2, h3⟩ := dOks_pd n xs h
    exact ⟨h2, Nat.succ_le_succ h3⟩
  | _, .ref _, h => by cases h
  | _, .ins _ _ _, h => by cases h
  | _, .dct _ _, h => by cases h
theorem dOks_pd : ∀ (n : Nat) (ds : List D), dOks n ds = true → PyData.canLayAll0 (pds ds) = true ∧ PyData.depthAll (pds ds) ≤ n
  | n, [], _ => ⟨rfl, Nat.zero_le _⟩
  | n, x :: xs, h => by
    have h : (dOk n x && dOks n xs) = true := h
    rw [Bool.and_eq_true] at h
    obtain ⟨h2, h3⟩ := dOk_pd n x h.1
    obtain ⟨k2, k3⟩ := dOks_pd n xs h.2
    refine ⟨?_, Nat.max_le.mpr ⟨h3, k3⟩⟩
    show ((pd x).canLay0 && PyData.canLayAll0 (pds xs)) = true
    rw [h2, k2]
    rfl
end
/-- == of trees -/
def dEq (a b : D) : Bool := PyData.eqv (pd a) (pd b)
def dEqs (a b : List D) : Bool := PyData.eqvAll (pds a) (pds b)
section
variable {X : Cx} {p : Prm} {Wx : WX} {f g : ESem} {e e1 e2 : Expr} {pos pp : Pos}
mutual
theorem dp_of {W : Wd} {H : Hp} : ∀ (n : Nat) (d : D) (v : V), Rep p W H d v → dOk n d = true → Dp p.K H v (pd d)
  | _, .non, v, h, _ => by
    have h : v = .non := h
    subst h
    exact .non
  | _, .bl b, v, h, _ => by
    have h : v = .bl b := h
    subst h
    exact .bl b
  | _, .int b, v, h, _ => by
    have h : v = .int b := h
    subst h
    exact .int b
  | _, .str b, v, h, _ => by
    have h : v = .str b := h
    subst h
    exact .str b
  | 0, .tup _, _, _, e => by cases e
  | 0, .lst _, _, _, e => by cases e
  | 0, .rol _, _, _, e => by cases e
  | n + 1, .tup xs, v, h, e => by
    obtain ⟨a, vs, rfl, h1, h2⟩ := h
    exact .tup h1 (dps_of n xs vs h2 e)
  | n + 1, .lst xs, v, h, e => by
    obtain ⟨a, vs, rfl, hf, h1, h2⟩ := h
    exact .lst (SqL.of h1) (dps_of n xs vs h2 e)
  | n + 1, .rol xs, v, h, e => by
    obtain ⟨a, vs, rfl, h1, h2⟩ := h
    refine .lst ?_ (dps_of n xs vs h2 e)
    rcases h1 with ⟨_, k⟩ | k
    · exact k
    · exact k H
  | _, .ref _, v, h, e => by cases e
  | _, .ins _ _ _, v, h, e => by cases e
  | _, .dct _ _, v, h, e => by cases e
theorem dps_of {W : Wd} {H : Hp} : ∀ (n : Nat) (ds : List D) (vs : List V), RepL p W H ds vs → dOks n ds = true → DpAll p.K H vs (pds ds)
  | _, [], vs, h, e => by
    have h : vs = [] := h
    subst h
    exact .nil
  | n, x :: xs, vs, h, e => by
    obtain ⟨v, r, rfl, h1, h2⟩ := h
    have e : (dOk n x && dOks n xs) = true := e
    rw [Bool.and_eq_true] at e
    exact .cons (dp_of n x v h1 e.1) (dps_of n xs r h2 e.2)
end
/-- what was told, as a tree: a list of the store among them -/
def rslD (st : Store) (v : RV) : Option D := match asL st v with
  | some xs => some (.lst xs)
  | none => some v.d
theorem rslD_ok {Hs H : Hp} {W : Wd} {st : Store} {x : RV} {v : V} {d : D} {n : Nat} (S : SOk p W H st) (h : RVr p Hs W H x v) (e : rslD st x = some d) (hd : dOk n d = true) : Dp p.K H v (pd d) := by
  unfold rslD at e
  split at e
  · rename_i xs ex
    injection e with e
    subst e
    obtain ⟨a, vs, rfl, h1, h2⟩ := h.list S ex
    cases n with
    | zero => cases hd
    | succ n => exact .lst h1 (dps_of n xs vs h2 hd)
  · rename_i ex
    injection e with e
    subst e
    refine dp_of n _ _ (h.plain ?_) hd
    cases q : x.d with
    | lst xs => unfold asL at ex; rw [q] at ex; cases ex
    | ins c ns fs => rw [q] at hd; cases hd
    | dct ks xs => rw [q] at hd; cases hd
    | _ => rfl
/-- == of what was told -/
def eqT : Store → RV → RV → Option RV := fun st x y => match eqS x.d y.d with
  | some b => some (.val (.bl b))
  | none => match rslD st x, rslD st y with
    | some a, some b => if dOk 16 a = true ∧ dOk 16 b = true then some (.val (.bl (dEq a b))) else none
    | _, _ => none
def neT : Store → RV → RV → Option RV := fun st x y => match eqT st x y with
  | some (.val (.bl b)) => some (.val (.bl (!b)))
  | _ => none
theorem dOk_shaped {d : D} (h : dOk 16 d = true) : SeqAt.shaped (pd d) = true := by
  obtain ⟨h1, h2⟩ := dOk_pd 16 d h
  unfold SeqAt.shaped
  rw [h1, decide_eq_true (by omega : (pd d).depth ≤ 64)]
  rfl
theorem eqT_some {st : Store} {x y z : RV} (e : eqT st x y = some z) : (∃ b, eqS x.d y.d = some b ∧ z = .val (.bl b)) ∨ ∃ a b, rslD st x = some a ∧ rslD st y = some b ∧ dOk 16 a = true ∧ dOk 16 b = true ∧ z = .val (.bl (PyData.eqv (pd a) (pd b))) := by
  unfold eqT at e
  split at e
  · rename_i b eb
    injection e with e
    exact .inl ⟨b, eb, e.symm⟩
  · split at e
    · rename_i a b ea eb
      split at e
      · rename_i hs
        injection e with e
        exact .inr ⟨a, b, ea, eb, hs.1, hs.2, e.symm⟩
      · cases e
    · cases e
theorem op_eqT (hK : p.K = X.K) (hu : X.A.units + 64 < cLine) : OpR X (compareOp .Eq) (r2 p eqT) := by
  intro pins s σ H x y v u Q I rx ry ⟨W, st, Hs, a, b, z, S, R1, R2, e, q⟩
  rcases eqT_some e with ⟨k, ek, rfl⟩ | ⟨d1, d2, h1, h2, s1, s2, rfl⟩
  · obtain ⟨v1, w1, h1, h2, h3, h4⟩ := eqS_sc ek
    have ex := scV_rep R1 h1
    have ey := scV_rep R2 h2
    subst ex ey
    exact op_eq pins s σ H _ _ v u Q I rx ry ⟨h3, by rw [h4]; exact q W H _ Fut.refl S rfl⟩
  · exact op_eqD hu pins s σ H x y v u Q I rx ry ⟨pd d1, pd d2, hK ▸ rslD_ok S R1 h1 s1, hK ▸ rslD_ok S R2 h2 s2, dOk_shaped s1, dOk_shaped s2, q W H _ Fut.refl S rfl⟩
theorem op_neT (hK : p.K = X.K) (hu : X.A.units + 64 < cLine) : OpR X (compareOp .NotEq) (r2 p neT) := by
  intro pins s σ H x y v u Q I rx ry ⟨W, st, Hs, a, b, z, S, R1, R2, e, q⟩
  unfold neT at e
  split at e
  · rename_i c ec
    injection e with e
    subst e
    rcases eqT_some ec with ⟨k, ek, hz⟩ | ⟨d1, d2, h1, h2, s1, s2, hz⟩
    · injection hz with hz
      injection hz with hz
      subst hz
      obtain ⟨v1, w1, h1, h2, h3, h4⟩ := eqS_sc ek
      have ex := scV_rep R1 h1
      have ey := scV_rep R2 h2
      subst ex ey
      exact op_ne pins s σ H _ _ v u Q I rx ry ⟨h3, by rw [h4]; exact q W H _ Fut.refl S rfl⟩
    · injection hz with hz
      injection hz with hz
      subst hz
      exact op_neD hu pins s σ H x y v u Q I rx ry ⟨pd d1, pd d2, hK ▸ rslD_ok S R1 h1 s1, hK ▸ rslD_ok S R2 h2 s2, dOk_shaped s1, dOk_shaped s2, q W H _ Fut.refl S rfl⟩
  · cases e
/-! ### is None, is True -/
def isT : Store → RV → RV → Option RV := fun _ x y => match y.d with
  | .non => some (.val (.bl (isN x.d)))
  | .bl b => match x.d with
    | .bl a => some (.val (.bl (decide (a = b))))
    | _ => none
  | _ => none
theorem op_isT : OpR X (compareOp .Is) (r2 p isT) := by
  intro pins s σ H x y v u Q I rx ry ⟨W, st, Hs, a, b, z, S, R1, R2, e, q⟩
  unfold isT at e
  split at e
  · rename_i ek
    injection e with e
    subst e
    exact op_isN pins s σ H _ _ v u Q I rx ry ⟨rvr_non R2 ek, by rw [isN_rep R1]; exact q W H _ Fut.refl S rfl⟩
  · rename_i c ec
    split at e
    · rename_i d ed
      injection e with e
      subst e
      exact op_isBl pins s σ H _ _ v u Q I rx ry ⟨d, c, rvr_bl R1 ed, rvr_bl R2 ec, q W H _ Fut.refl S rfl⟩
    · cases e
  · cases e
/-! ### fields -/
def insOf (st : Store) (v : RV) : Option (Str × List Str × List D) := match v.d with
  | .ins c ns fs => some (c, ns, fs)
  | .ref n => match st[n]? with
    | some (.ins c ns fs) => some (c, ns, fs)
    | _ => none
  | _ => none
theorem insOf_ok {Hs H : Hp} {W : Wd} {st : Store} {x : RV} {v : V} {c : Str} {ns : List Str} {fs : List D} (S : SOk p W H st) (h : RVr p Hs W H x v) (e : insOf st x = some (c, ns, fs)) :
    ∃ a dx vs, v = .ref a ∧ H a = some (.ins (p.cS c) dx (ns.zip vs)) ∧ RepL p W H fs vs ∧ c ∈ p.cls := by
  unfold insOf at e
  split at e
  · rename_i c' ns' fs' ed
    injection e with e
    injection e with e1 e2
    injection e2 with e2 e3
    subst e1 e2 e3
    have cc : ∀ {a : Addr}, RepC p W H x.d a → ∃ dx vs, H a = some (.ins (p.cS c') dx (ns'.zip vs)) ∧ RepL p W H fs' vs ∧ c' ∈ p.cls := fun {a} q => by
      rw [ed] at q
      exact q
    cases x with
    | val d =>
      have ed : d = .ins c' ns' fs' := ed
      subst ed
      obtain ⟨a, dx, vs, e, _, h1, h2⟩ := h
      exact ⟨a, dx, vs, e, h1, h2⟩
    | fresh d =>
      obtain ⟨a, e, h1, _⟩ := h
      obtain ⟨dx, vs, q⟩ := cc h1
      exact ⟨a, dx, vs, e, q⟩
    | peek d =>
      obtain ⟨a, e, h1, _⟩ := h
      obtain ⟨dx, vs, q⟩ := cc h1
      exact ⟨a, dx, vs, e, q⟩
  · rename_i n ed
    have hp := h.plain (by rw [ed]; rfl)
    rw [ed] at hp
    obtain ⟨h1, h2⟩ := hp
    cases q : st[n]? with
    | none => rw [q] at e; cases e
    | some d =>
      rw [q] at e
      have z := S.at_ n d q
      cases d with
      | ins c' ns' fs' =>
        injection e with e
        injection e with e1 e2
        injection e2 with e2 e3
        subst e1 e2 e3
        obtain ⟨dx, vs, q⟩ := z
        exact ⟨_, dx, vs, h2, q⟩
      | _ => first
        | exact z.elim
        | cases e
  · cases e
def lookF : List Str → List D → Str → Option D
  | n :: ns, d :: ds, f => if f = n then some d else lookF ns ds f
  | _, _, _ => none
theorem lookF_rep {W : Wd} {H : Hp} {f : Str} {d : D} : ∀ {ns : List Str} {fs : List D} {vs : List V}, RepL p W H fs vs → lookF ns fs f = some d → ∃ v, (ns.zip vs).lookup f = some v ∧ Rep p W H d v
  | [], _, _, _, e => by cases e
  | n :: ns, [], _, _, e => by cases e
  | n :: ns, x :: fs, _, h, e => by
    obtain ⟨v, r, rfl, h1, h2⟩ := h
    unfold lookF at e
    by_cases hf : f = n
    · rw [if_pos hf] at e
      injection e with e
      subst hf e
      exact ⟨v, by simp, h1⟩
    · rw [if_neg hf] at e
      obtain ⟨w, q1, q2⟩ := lookF_rep h2 e
      refine ⟨w, ?_, q2⟩
      rw [List.zip_cons_cons, List.lookup_cons, show (f == n) = false from by simpa using hf]
      exact q1
/-- e.f where e is of one of the classes cs -/
def fldV (cs : List Str) (f : Str) : Store → RV → Option RV := fun st x => match insOf st x with
  | some (c, ns, fs) => if c ∈ cs then (match lookF ns fs f with
    | some d => some (.val d)
    | none => none) else none
  | none => none
def notCall : Expr → Bool
  | .Call _ _ _ _ => false
  | _ => true
theorem pe_fldS {cs : List Str} {fl : Str} (hK : p.K = X.K) (hc : ∀ c, c ∈ cs → c ∈ p.cls → Cls X.K (p.cS c) ∧ NoAttr X.K (p.cS c) fl) (he : PE X e (tE p Wx f)) (hn : notCall e = true) : PE X (.Attribute e fl pos) (tE p Wx (eOp1 (fldV cs fl) f)) := by
  have hb : attributeBase e fl X.env (eval e X.env) = eval e X.env := by
    cases e <;> first
      | rfl
      | cases hn
  refine (pe_fld he hb).weak fun σ H Q w => ?_
  obtain ⟨W0, H0, W, r, st, G, q⟩ := op1_weak w
  refine ⟨W0, H0, W, r, st, G, ?_⟩
  cases z : f r st with
  | none => rw [z] at q; exact q
  | some y =>
    rw [z] at q
    cases y with
    | exc e st1 => exact q
    | ok v st1 =>
      intro W1 H1 x f1 S1 R1
      obtain ⟨W2, st2, Hs, u, zz, S2, R2, ez, k⟩ := q W1 H1 x f1 S1 R1
      unfold fldV at ez
      split at ez
      · rename_i c ns fs ei
        split at ez
        · rename_i hcm
          split at ez
          · rename_i d ed
            injection ez with ez
            subst ez
            obtain ⟨a, dx, vs, rfl, h1, h2, hm⟩ := insOf_ok S2 R2 ei
            obtain ⟨w, q1, q2⟩ := lookF_rep h2 ed
            obtain ⟨c1, c2⟩ := hc c hcm hm
            exact ⟨a, _, dx, _, w, rfl, h1, c1, c2, q1, k W2 H1 _ Fut.refl S2 q2⟩
          · cases ez
        · cases ez
      · cases ez
/-! ### o.f = e, o a name -/
def putN (f : Str) : List Str → List Str
  | [] => [f]
  | n :: ns => if n = f then n :: ns else n :: putN f ns
def putD (f : Str) (d : D) : List Str → List D → List D
  | n :: ns, x :: xs => if n = f then d :: xs else x :: putD f d ns xs
  | _, _ => [d]
theorem put_rep {W : Wd} {H : Hp} {fl : Str} {d : D} {w : V} : ∀ {ns : List Str} {fs : List D} {vs : List V}, ns.length = fs.length → RepL p W H fs vs → Rep p W H d w → ∃ vs', putF fl w (ns.zip vs) = (putN fl ns).zip vs' ∧ RepL p W H (putD fl d ns fs) vs'
  | [], [], vs, _, h, hd => ⟨[w], rfl, w, [], rfl, hd, rfl⟩
  | [], x :: fs, vs, hl, h, hd => by cases hl
  | n :: ns, [], vs, hl, h, hd => by cases hl
  | n :: ns, x :: fs, vs, hl, h, hd => by
    obtain ⟨v, r, rfl, h1, h2⟩ := h
    by_cases hf : n = fl
    · refine ⟨w :: r, ?_, ?_⟩
      · rw [List.zip_cons_cons]
        show (if n = fl then _ else _) = (if n = fl then _ else _ : List Str).zip (w :: r)
        rw [if_pos hf, if_pos hf]
        rfl
      · show RepL p W H (if n = fl then d :: fs else _) (w :: r)
        rw [if_pos hf]
        exact ⟨w, r, rfl, hd, h2⟩
    · obtain ⟨vs', q1, q2⟩ := put_rep (fl := fl) (Nat.succ.inj hl) h2 hd
      refine ⟨v :: vs', ?_, ?_⟩
      · rw [List.zip_cons_cons]
        show (if n = fl then _ else (n, v) :: putF fl w (ns.zip r)) = (if n = fl then _ else n :: putN fl ns : List Str).zip (v :: vs')
        rw [if_neg hf, if_neg hf, q1]
        rfl
      · show RepL p W H (if n = fl then d :: fs else x :: putD fl d ns fs) (v :: vs')
        rw [if_neg hf]
        exact ⟨v, vs', rfl, h1, q2⟩
def sSetF (j : Nat) (cs : List Str) (fl : Str) (e : ESem) : SSem := fun r st => match e r st with
  | some (.ok v st1) => match v.toVal with
    | some d => match r[j]? with
      | some (.own (.ins c ns fs)) => if c ∈ cs ∧ ns.length = fs.length ∧ ns.length < 1000 then some (.nx (r.set j (.own (.ins c (putN fl ns) (putD fl d ns fs)))) st1) else none
      | some (.val (.ref n)) => match st1[n]? with
        | some (.ins c ns fs) => if c ∈ cs ∧ ns.length = fs.length ∧ ns.length < 1000 then some (.nx r (st1.set n (.ins c (putN fl ns) (putD fl d ns fs)))) else none
        | _ => none
      | _ => none
    | none => none
  | some (.exc x st1) => some (.exc x r st1)
  | none => none
theorem sw_fld {e : Expr} {o : Expr} {fl : Str} {q : Pos} {l : Nat} {env : Env} : swapsWith e (some (.Attribute o fl q)) l env = pure false := by
  cases e <;> rfl
theorem ps_setF {j : Nat} {x : Str} {cs : List Str} {fl : Str} {q : Pos} (hK : p.K = X.K) (hc : ∀ c, c ∈ cs → c ∈ p.cls → Cls X.K (p.cS c) ∧ NoAttr X.K (p.cS c) fl) (he : PE X e (tE p Wx f)) (ho : PE X (.Name x pp) (tVar j)) :
    PS X (.Assign [.Attribute (.Name x pp) fl q] e pos) (tS p Wx (sSetF j cs fl f)) := by
  refine (ps_fld ho he sw_fld).weak fun D σ H ⟨W0, H0, W, r, st, G, q⟩ => ?_
  unfold sSetF at q
  refine tE_bind G (fun v st1 e1 W1 H1 x f1 S1 R1 G1 => ?_) (fun e st1 e1 W1 H1 c d f1 S1 R1 => ?_) (fun z => ?_)
  · simp only [e1] at q
    cases ev : v.toVal with
    | none => simp only [ev] at q; exact q.elim
    | some d =>
      simp only [ev] at q
      obtain ⟨W2, S2, R2, mk⟩ := R1.toVal S1 ev
      have f2 : Fut W H W2 H1 := mk f1 fun _ z => z
      have G2 := G.to f2 S2
      cases ej : r[j]? with
      | none => simp only [ej] at q; exact q.elim
      | some s =>
        simp only [ej] at q
        cases s with
        | no => exact q.elim
        | own c =>
          cases c with
          | ins c ns fs =>
            dsimp only at q
            by_cases hh : c ∈ cs ∧ ns.length = fs.length ∧ ns.length < 1000
            · rw [if_pos hh] at q
              obtain ⟨h1, h2, h3⟩ := hh
              obtain ⟨a, k1, k2, k3, k4, k5⟩ := G2.own j _ ej
              obtain ⟨dx, vs, m1, m2, hm⟩ := k2
              obtain ⟨vs', n1, n2⟩ := put_rep (fl := fl) h2 m2 R2
              obtain ⟨c1, c2⟩ := hc c h1 hm
              obtain ⟨G4, f4⟩ := G2.mutOwn ej k1 m1 trivial (repO_ins (p := p) (c := c) (ns := putN fl ns) (dx := dx) n2 hm)
              refine ⟨_, k1, a, _, dx, _, rfl, m1, c1, c2, ?_, ?_⟩
              · rw [List.length_zip]
                exact Nat.lt_of_le_of_lt (Nat.min_le_left _ _) h3
              · rw [n1]
                exact q W2 σ _ ((f2.fw G.ok).trans f4) G4
            · rw [if_neg hh] at q
              exact q.elim
          | _ => exact q.elim
        | val c =>
          cases c with
          | ref n =>
            dsimp only at q
            obtain ⟨v0, k1, k2, k3⟩ := G2.val j _ ej
            subst k3
            cases es : st1[n]? with
            | none => simp only [es] at q; exact q.elim
            | some c =>
              simp only [es] at q
              cases c with
              | ins c ns fs =>
                dsimp only at q
                by_cases hh : c ∈ cs ∧ ns.length = fs.length ∧ ns.length < 1000
                · rw [if_pos hh] at q
                  obtain ⟨h1, h2, h3⟩ := hh
                  obtain ⟨dx, vs, m1, m2, hm⟩ := S2.at_ n _ es
                  obtain ⟨vs', n1, n2⟩ := put_rep (fl := fl) h2 m2 R2
                  obtain ⟨c1, c2⟩ := hc c h1 hm
                  obtain ⟨G4, f4⟩ := G2.mutSt k2 m1 trivial (repO_ins (p := p) (c := c) (ns := putN fl ns) (dx := dx) n2 hm)
                  refine ⟨_, k1, _, _, dx, _, rfl, m1, c1, c2, ?_, ?_⟩
                  · rw [List.length_zip]
                    exact Nat.lt_of_le_of_lt (Nat.min_le_left _ _) h3
                  · rw [n1]
                    exact q W2 σ _ ((f2.fw G.ok).trans f4) G4
                · rw [if_neg hh] at q
                  exact q.elim
              | _ => exact q.elim
          | _ => exact q.elim
  · simp only [e1] at q
    exact q W1 σ H1 c d (f1.fw G.ok) (G.to f1 S1) R1
  · simp only [z] at q
    exact q
/-! ### isinstance, own classes among the values -/
/-- what the written part tells of an own class -/
structure CFac (K : PySem.W.Frag) (C : Addr) : Prop where
  cl : Cls K C
  ha : PySem.W.findIn K (.ref C) "__class__" = some (some (.builtin "object.__class__"))
  hn : PySem.W.specialIn K (.builtin "object.__class__") "__get__" = some (some (.builtin "getset_descriptor.__get__"))
  htk : PySem.W.takesIn K (.builtin "object.__class__") = some true
  hm : PySem.W.mroIn K C (.type "object") = some true
  ci : (PySem.W.clsIn K C).isSome = true
  ti : PySem.W.typeIn K (.ref C) = some (.type "type")
  dn : ∀ t : Ty, PySem.W.subIn K (.type t.name) (.ref C) = some false
  up : ∀ t : Ty, t ≠ .non → PySem.W.subIn K (.ref C) (.type t.name) = some false
structure CsOk (p : Prm) : Prop where
  fac : ∀ c, c ∈ p.cls → CFac p.K (p.cS c)
  apart : ∀ c d, c ∈ p.cls → d ∈ p.cls → c ≠ d → PySem.W.subIn p.K (.ref (p.cS c)) (.ref (p.cS d)) = some false ∧ p.cS c ≠ p.cS d
def tgD (st : Store) : D → Option (Ty ⊕ Str)
  | .ins c _ _ => some (.inr c)
  | .ref n => match st[n]? with
    | some (.ins c _ _) => some (.inr c)
    | some d => match tyD st d with
      | some t => some (.inl t)
      | none => none
    | none => none
  | d => match tyD st d with
    | some t => some (.inl t)
    | none => none
def tgV (p : Prm) : Ty ⊕ Str → Value
  | .inl t => .type t.name
  | .inr c => .ref (p.cS c)
theorem tgD_ins {W : Wd} {H Hs : Hp} {st : Store} {x : RV} {v : V} {c : Str} (S : SOk p W H st) (h : RVr p Hs W H x v) (e : tgD st x.d = some (.inr c)) : ∃ a dx fs, v = .ref a ∧ H a = some (.ins (p.cS c) dx fs) ∧ c ∈ p.cls := by
  cases q : x.d with
  | ins c' ns fs =>
    rw [q] at e
    injection e with e
    injection e with e
    subst e
    obtain ⟨a, dx, vs, h1, h2, _, h3⟩ := insOf_ok (c := c') (ns := ns) (fs := fs) S h (by unfold insOf; rw [q])
    exact ⟨a, dx, _, h1, h2, h3⟩
  | ref n =>
    rw [q] at e
    have e : (match st[n]? with
      | some (.ins c _ _) => some (.inr c)
      | some d => match tyD st d with
        | some t => some (.inl t)
        | none => none
      | none => none : Option (Ty ⊕ Str)) = some (.inr c) := e
    split at e
    · rename_i c' ns fs hx
      injection e with e
      injection e with e
      subst e
      obtain ⟨a, dx, vs, h1, h2, _, h3⟩ := insOf_ok (c := c') (ns := ns) (fs := fs) S h (by unfold insOf; rw [q]; dsimp only; rw [hx])
      exact ⟨a, dx, _, h1, h2, h3⟩
    · split at e <;> cases e
    · cases e
  | _ =>
    rw [q] at e
    injection e with e
    cases e
theorem tgD_ty {W : Wd} {H Hs : Hp} {st : Store} {x : RV} {v : V} {t : Ty} (S : SOk p W H st) (h : RVr p Hs W H x v) (e : tgD st x.d = some (.inl t)) : TyX p.K H v (.type t.name) := by
  have plain : ∀ {d : D}, (match tyD st d with
    | some t => some (.inl t)
    | none => none : Option (Ty ⊕ Str)) = some (.inl t) → tyD st d = some t := by
    intro d e
    split at e
    · rename_i t' et
      injection e with e
      injection e with e
      rw [et, e]
    · cases e
  cases q : x.d with
  | ins c ns fs => rw [q] at e; cases e
  | ref n =>
    rw [q] at e
    have e : (match st[n]? with
      | some (.ins c _ _) => some (.inr c)
      | some d => match tyD st d with
        | some t => some (.inl t)
        | none => none
      | none => none : Option (Ty ⊕ Str)) = some (.inl t) := e
    have hp := h.plain (by rw [q]; rfl)
    rw [q] at hp
    obtain ⟨h1, h2⟩ := hp
    split at e
    · cases e
    · rename_i d hn hx
      have et := plain e
      have c := S.at_ n d hx
      subst h2
      cases d with
      | lst xs =>
        injection et with et
        subst et
        obtain ⟨vs, c1, _⟩ := c
        exact .base (.lst c1)
      | dct ks xs =>
        injection et with et
        subst et
        obtain ⟨vs, c1, _⟩ := c
        exact .base (.dK c1)
      | ins c' ns fs => cases et
      | _ => exact c.elim
    · cases e
  | _ => exact tyX_of S h (by rw [q]; rw [q] at e; exact plain e)
theorem tgD_tyX {W : Wd} {H Hs : Hp} {st : Store} {x : RV} {v : V} {t : Ty ⊕ Str} (hc : CsOk p) (S : SOk p W H st) (h : RVr p Hs W H x v) (e : tgD st x.d = some t) : TyX p.K H v (tgV p t) := by
  cases t with
  | inl t => exact tgD_ty S h e
  | inr c =>
    obtain ⟨a, dx, fs, rfl, h1, h2⟩ := tgD_ins S h e
    have F := hc.fac c h2
    exact .base (.ins h1 F.cl F.ha F.hn F.htk F.hm)
def isiT (T : Ty) : Store → RV → Option RV := fun st x => match tgD st x.d with
  | some (.inl t) => some (.val (.bl (tyIs t T)))
  | some (.inr _) => some (.val (.bl false))
  | none => none
def isC (c : Str) : Store → RV → Option RV := fun st x => match tgD st x.d with
  | some (.inl _) => some (.val (.bl false))
  | some (.inr d) => some (.val (.bl (decide (d = c))))
  | none => none
theorem beq_no (s : String) (C : Addr) : (Value.ref C == Value.type s) = false ∧ (Value.type s == Value.ref C) = false := ⟨rfl, rfl⟩
theorem beq_refs (C E : Addr) : (Value.ref C == Value.ref E) = decide (C = E) := by
  by_cases h : C = E
  · subst h
    rw [decide_eq_true rfl]
    exact beq_iff_eq.mpr rfl
  · rw [decide_eq_false h]
    exact Bool.eq_false_iff.mpr fun q => h (by injection beq_iff_eq.mp q)
theorem kit_up {c : Str} {T : Ty} (hc : CsOk p) (h : c ∈ p.cls) (hT : T ≠ .non) : PySem.W.kitOne p.K (.ref (p.cS c)) (.type T.name) = some false := by
  unfold PySem.W.kitOne
  rw [if_neg (by rw [(beq_no _ _).1]; exact fun z => by cases z)]
  unfold PySem.W.kitCls
  have hk : PySem.W.kitMeta T.name = true := by
    cases T <;> first
      | exact absurd rfl hT
      | decide +kernel
  simp only [hk, if_true]
  exact (hc.fac c h).up T hT
theorem kit_dn {c : Str} {T : Ty} (hc : CsOk p) (h : c ∈ p.cls) : PySem.W.kitOne p.K (.type T.name) (.ref (p.cS c)) = some false := by
  have F := hc.fac c h
  unfold PySem.W.kitOne
  rw [if_neg (by rw [(beq_no _ _).2]; exact fun z => by cases z)]
  unfold PySem.W.kitCls
  simp only [F.ci, F.ti, Bool.true_and]
  rw [if_pos (by rfl)]
  exact F.dn T
theorem kit_cc {c d : Str} (hc : CsOk p) (h : c ∈ p.cls) (h2 : d ∈ p.cls) : PySem.W.kitOne p.K (.ref (p.cS c)) (.ref (p.cS d)) = some (decide (c = d)) := by
  unfold PySem.W.kitOne
  by_cases e : c = d
  · subst e
    rw [if_pos (by rw [beq_refs]; exact decide_eq_true rfl), decide_eq_true rfl]
  · obtain ⟨k1, k2⟩ := hc.apart c d h h2 e
    have F := hc.fac d h2
    rw [if_neg (by rw [beq_refs, decide_eq_false k2]; exact fun z => by cases z)]
    unfold PySem.W.kitCls
    simp only [F.ci, F.ti, Bool.true_and]
    rw [if_pos (by rfl), k1, decide_eq_false e]
theorem pe_isiT {T : Ty} {n : Str} {p2 : Pos} (hc : CsOk p) (hK : p.K = X.K) (hT : T ≠ .non) (hg : Gl X "isinstance") (hm : X.mg "isinstance" = none) (hgn : Gl X n) (hmn : X.mg n = none) (hv : bootBuiltins n = some (.type T.name)) (hnn : n ≠ "__name__") (hdb : (n == ("__debug__" : Str)) = false)
    (ha : PE X e (tE p Wx f)) (hs : notStar e = true) : PE X (.Call (.Name "isinstance" pp) [e, .Name n p2] [] pos) (tE p Wx (eOp1 (isiT T) f)) := by
  have hty : PE X (.Name n p2) (tC (.ty T.name)) := pe_bltn hgn hmn hv rfl hnn hdb
  refine (pe_callB call_isi hg hm (by decide +kernel) (pa_cons ha (pa_cons hty pa_nil rfl) (starEach_cons hs)) (by decide) (by decide) (starEach_cons hs) rfl).weak fun σ H Q w => ?_
  obtain ⟨W0, H0, W, r, st, G, q⟩ := op1_weak w
  refine ⟨W0, H0, W, r, st, G, ?_⟩
  cases z : f r st with
  | none => rw [z] at q; exact q.elim
  | some y =>
    rw [z] at q
    cases y with
    | exc e st1 => exact q
    | ok v st1 =>
      intro W1 H1 x f1 S1 R1
      obtain ⟨W2, st2, Hs, u, zz, S2, R2, ez, k⟩ := q W1 H1 x f1 S1 R1
      unfold isiT at ez
      split at ez
      · rename_i t et
        injection ez with ez
        subst ez
        exact ⟨x, .ty T.name, _, _, _, rfl, .ty _, hK ▸ tgD_tyX hc S2 R2 et, kit_ty (tyIs_kit t T hT), k W2 H1 _ Fut.refl S2 rfl⟩
      · rename_i c et
        injection ez with ez
        subst ez
        obtain ⟨_, _, _, _, _, hm⟩ := tgD_ins S2 R2 et
        exact ⟨x, .ty T.name, _, _, _, rfl, .ty _, hK ▸ tgD_tyX hc S2 R2 et, hK ▸ kit_up hc hm hT, k W2 H1 _ Fut.refl S2 rfl⟩
      · cases ez
theorem pe_isC {n : Str} {p2 : Pos} (hc : CsOk p) (hK : p.K = X.K) (hg : Gl X "isinstance") (hm : X.mg "isinstance" = none) (hgn : Gl X n) (hmn : X.mg n = some (.ref (p.cS n))) (hcn : n ∈ p.cls) (hdb : (n == ("__debug__" : Str)) = false)
    (ha : PE X e (tE p Wx f)) (hs : notStar e = true) : PE X (.Call (.Name "isinstance" pp) [e, .Name n p2] [] pos) (tE p Wx (eOp1 (isC n) f)) := by
  have hty : PE X (.Name n p2) (tC (.ref (p.cS n))) := pe_glob hgn hmn rfl hdb
  refine (pe_callB call_isi hg hm (by decide +kernel) (pa_cons ha (pa_cons hty pa_nil rfl) (starEach_cons hs)) (by decide) (by decide) (starEach_cons hs) rfl).weak fun σ H Q w => ?_
  obtain ⟨W0, H0, W, r, st, G, q⟩ := op1_weak w
  refine ⟨W0, H0, W, r, st, G, ?_⟩
  cases z : f r st with
  | none => rw [z] at q; exact q.elim
  | some y =>
    rw [z] at q
    cases y with
    | exc e st1 => exact q
    | ok v st1 =>
      intro W1 H1 x f1 S1 R1
      obtain ⟨W2, st2, Hs, u, zz, S2, R2, ez, k⟩ := q W1 H1 x f1 S1 R1
      unfold isC at ez
      split at ez
      · rename_i t et
        injection ez with ez
        subst ez
        exact ⟨x, .ref (p.cS n), _, _, _, rfl, .own _, hK ▸ tgD_tyX hc S2 R2 et, hK ▸ kit_dn hc hcn, k W2 H1 _ Fut.refl S2 rfl⟩
      · rename_i c et
        injection ez with ez
        subst ez
        obtain ⟨_, _, _, _, _, hm⟩ := tgD_ins S2 R2 et
        exact ⟨x, .ref (p.cS n), _, _, _, rfl, .own _, hK ▸ tgD_tyX hc S2 R2 et, hK ▸ kit_cc hc hm hcn, k W2 H1 _ Fut.refl S2 rfl⟩
      · cases ez
end
end Tz

set_option Elab.async false
set_option linter.all false
set_option maxRecDepth 100000
set_option maxHeartbeats 1000000
/-! To: == of instances by an own __eq__. -/
namespace PySem.W
open PySem PyProof.Rows Builtin
section
variable {prog : Program} {w : World} {A : Around} {E : Value → Shared → Prop} {s : Shared} {K : Frag} {x C f : Addr} {ox : Obj} {od : Option Obj} {name : Str} {b tb : Value}
theorem tz_ifB {M : Model} {id : String} {args : List Value} {Q : Option Value → Shared → Prop} (X : K.In s.heap) (I : InstAt s.heap x ox C od) (hs : findIn K (.ref C) name = some (some (.builtin id)))
    (hb : ∀ self, bindSpecial (.builtin id) self = pure (.builtin id, [self])) (h : wpAny M A (call (.builtin id) (.ref x :: args)) (fun v => Q (some v)) E s) : wpAny M A (callSpecialIfBound? (.ref x) name args) Q E s := by
  simp only [callSpecialIfBound?, bindSpecialIfBound?]
  refine wpAny_holding (wpAny_bind (wpAny_bind (wpAny_bind (I.type.here ((looks_findIn X hs).here ?_)))))
  refine wpAny_bind (wpAny_askSetting (wpAny_ite ?_))
  have fin : wpAny M A (call (.builtin id) ([.ref x] ++ args) >>= fun v => pure (some v)) Q E s := wpAny_bind (wpAny_mono h (fun v s' h' => wpAny_pure h') fun _ _ h' => h')
  split
  · exact wpAny_bind ((Looks.of_pure (hb _)).here (wpAny_pure (by exact fin)))
  · exact wpAny_tryCatch (wpAny_bind ((Looks.of_pure (hb _)).here (wpAny_pure (by exact fin))))
theorem tz_one {Q : Value → Shared → Prop} (hu : A.in1.units < cLine) (X : K.In s.heap) (I : InstAt s.heap x ox C od) (hm : mroIn K C (.type "object") = some true) (hs : findIn K (.ref C) "__eq__" = some (some (.ref f))) (hf : isFn K (.ref f) = true)
    (h : wpAny (model prog w) A.in1 (call (.ref f) [.ref x, b]) (fun v s' => ∃ k, v = .bool k ∧ Q (.bool (!k)) s') E s) : wpAny (model prog w) A (call (.builtin "object.__ne__") [.ref x, b]) Q E s := by
  refine wpAny_call (codeAny_call_builtin PySem.F.slot_tuple_iterator_ne.plain PySem.F.cmpEntry_ne (check_slot (i := "object.__ne__") (owner := "object") (n := "__ne__") PySem.F.cmpKind_ne PySem.F.cmpSplit_ne (I.type.andThen (looks_mroIn X hm)) (PySem.F.cmpArgs_ne _ _) ?_))
  unfold Builtin.«object.__ne__»
  refine wpAny_bind (m := slotArgs "__ne__" 1 _) (wpAny_pure ?_)
  refine wpAny_bind (m := cRoomFor _ _) (wpAny_cRoomFor hu ?_)
  refine wpAny_bind (m := callSpecialIfBound? (.ref x) (Str.ofString "__eq__") _) (ifBound_K X I hs hf (wpAny_mono h (fun r s' hq => ?_) fun _ _ y => y))
  obtain ⟨k, rfl, hq⟩ := hq
  exact wpAny_bind (wpAny_truthy_bool (wpAny_pure hq))
theorem tz_ne {Q : Value → Shared → Prop} (hu : A.units < cLine) (hu1 : A.in1.units < cLine) (X : K.In s.heap) (I : InstAt s.heap x ox C od) (hb : Looks (model prog w) s.heap (typeOf b) tb) (hn : notFirst K C tb = true) (hm : mroIn K C (.type "object") = some true)
    (ho : findIn K (.ref C) "__ne__" = some (some (.builtin "object.__ne__"))) (hs : findIn K (.ref C) "__eq__" = some (some (.ref f))) (hf : isFn K (.ref f) = true)
    (h : wpAny (model prog w) A.in1 (call (.ref f) [.ref x, b]) (fun v s' => ∃ k, v = .bool k ∧ Q (.bool (!k)) s') E s) : wpAny (model prog w) A (richCompare .NotEq (.ref x) b) Q E s := by
  have one : wpAny (model prog w) A (tryCompare (.ref x) (cmpInfo .NotEq).2.1 b) (fun r s' => ∃ v, r = some v ∧ Q v s') E s := by
    unfold tryCompare
    refine wpAny_bind (tz_ifB X I ho PySem.F.slot_tuple_iterator_ne.bind (tz_one hu1 X I hm hs hf (wpAny_mono h (fun v s' hv => ?_) fun _ _ e => e)))
    obtain ⟨k, rfl, hq⟩ := hv
    exact ⟨k, rfl, wpAny_pure ⟨_, rfl, hq⟩⟩
  unfold richCompare
  simp only [oneThing_ref]
  refine wpAny_holding (wpAny_bind (wpAny_cRoomFor hu ?_))
  refine wpAny_bind (I.type.here (wpAny_bind (hb.here ?_)))
  split
  · rename_i q
    have e : subIn K tb (.ref C) = some false := by
      rcases Bool.or_eq_true_iff.mp hn with e | e
      · rw [beq_iff_eq.mp e] at q; simp at q
      · exact beq_iff_eq.mp e
    refine wpAny_bind ((looks_subIn X e).here ?_)
    simp only [Bool.false_eq_true, if_false]
    refine wpAny_bind (wpAny_mono one (fun r s' z => ?_) fun _ _ e => e)
    obtain ⟨v, rfl, hq⟩ := z
    exact wpAny_pure hq
  · refine wpAny_bind (wpAny_pure ?_)
    simp only [Bool.false_eq_true, if_false]
    refine wpAny_bind (wpAny_mono one (fun r s' z => ?_) fun _ _ e => e)
    obtain ⟨v, rfl, hq⟩ := z
    exact wpAny_pure hq
end
end PySem.W
namespace Tz
open PySem L2 PyProof.Rows
/-- the value u called with n values tells F -/
def CallU (X : Cx) (p : Prm) (A : Around) (u : Value) (n : Nat) (F : FSem) : Prop :=
  ∀ (E : L2.St → XK) (pins : List (Addr × Obj)) (σ : L2.St) (H : Hp) (s : Shared) (Q : VK) (us : List Value) (vs : List V),
    PassesAt (L2.CX X.prog X.w) X σ (E σ) → Inv X pins σ H s → Vals vs us → vs.length = n → spF p F vs H Q (E σ) → wpAny (model X.prog X.w) A (call u us) (EP X pins σ Q) X.xe s
def lookE : List (Str × FSem) → Str → Option FSem
  | [], _ => none
  | (k, d) :: r, x => if k = x then some d else lookE r x
theorem lookE_mem {x : Str} {d : FSem} : ∀ {l : List (Str × FSem)}, lookE l x = some d → (x, d) ∈ l
  | [], h => by cases h
  | (k, e) :: r, h => by
    unfold lookE at h
    split at h
    · rename_i q
      injection h with h
      subst h q
      exact List.mem_cons_self
    · exact List.mem_cons_of_mem _ (lookE_mem h)
open Classical in
/-- == where the left one may be an instance with an own __eq__ -/
noncomputable def eqO (eqs : List (Str × FSem)) : Store → RV → RV → Option RV := fun st x y => match eqT st x y with
  | some z => some z
  | none => match x, y with
    | .val (.ins c ns fs), .val d => match lookE eqs c with
      | some F => match tgD st d with
        | some _ => match F [.ins c ns fs, d] st with
          | some (.ret (.val (.bl b)) st2) => if st2 = st then some (.val (.bl b)) else none
          | _ => none
        | none => none
      | none => none
    | _, _ => none
structure EqOk (X : Cx) (p : Prm) (eqs : List (Str × FSem)) : Prop where
  eq : ∀ c F, (c, F) ∈ eqs → ∃ f, PySem.W.findIn X.K (.ref (p.cS c)) "__eq__" = some (some (.ref f)) ∧ PySem.W.isFn X.K (.ref f) = true ∧ CallU X p X.A (.ref f) 2 F ∧ CallU X p X.A.in1 (.ref f) 2 F ∧ PySem.W.findIn X.K (.ref (p.cS c)) "__ne__" = some (some (.builtin "object.__ne__"))
theorem eqO_some {eqs : List (Str × FSem)} {st : Store} {x y z : RV} (e : eqO eqs st x y = some z) : eqT st x y = some z ∨ ∃ c ns fs d F t b, x = .val (.ins c ns fs) ∧ y = .val d ∧ (c, F) ∈ eqs ∧ tgD st d = some t ∧ F [.ins c ns fs, d] st = some (.ret (.val (.bl b)) st) ∧ z = .val (.bl b) := by
  unfold eqO at e
  split at e
  · rename_i w ew
    exact .inl (ew.trans e)
  · right
    split at e
    · rename_i c ns fs d _he
      split at e
      · rename_i F eF
        split at e
        · rename_i t et
          split at e
          · rename_i b st2 eb
            split at e
            · rename_i h
              subst h
              injection e with e
              exact ⟨c, ns, fs, d, F, t, b, rfl, rfl, lookE_mem eF, et, eb, e.symm⟩
            · cases e
          · cases e
        · cases e
      · cases e
    · cases e
section
variable {X : Cx} {p : Prm} {eqs : List (Str × FSem)}
theorem no_passes {σ : L2.St} : PassesAt (L2.CX X.prog X.w) X σ (fun _ _ _ => False) := fun _ _ _ _ _ _ z => by
  obtain ⟨_, _, _, _, _, _, _, _, _, _, _, _, h⟩ := z
  exact h.elim
theorem not_first {c : Str} {t : Ty ⊕ Str} (hc : CsOk p) (h : c ∈ p.cls) (ht : ∀ d, t = .inr d → d ∈ p.cls) : PySem.W.notFirst p.K (p.cS c) (tgV p t) = true := by
  unfold PySem.W.notFirst
  cases t with
  | inl t =>
    have e := (hc.fac c h).dn t
    show (Value.type t.name == Value.ref (p.cS c) || PySem.W.subIn p.K (.type t.name) (.ref (p.cS c)) == some false) = true
    rw [e, Bool.or_eq_true]
    exact .inr rfl
  | inr d =>
    show (Value.ref (p.cS d) == Value.ref (p.cS c) || PySem.W.subIn p.K (.ref (p.cS d)) (.ref (p.cS c)) == some false) = true
    rw [Bool.or_eq_true]
    by_cases e : d = c
    · subst e
      exact .inl (beq_iff_eq.mpr rfl)
    · rw [(hc.apart d c (ht d rfl) h e).1]
      exact .inr rfl
theorem op_eqO (hc : CsOk p) (hK : p.K = X.K) (hu : X.A.units + 64 < cLine) (he : EqOk X p eqs) : OpR X (compareOp .Eq) (r2 p (eqO eqs)) := by
  intro pins s σ H x y v u Q I rx ry ⟨W, st, Hs, a, b, z, S, R1, R2, e, q⟩
  rcases eqO_some e with e | ⟨c, ns, fs, d, F, t, k, rfl, rfl, hm, ht, eF, rfl⟩
  · exact op_eqT hK hu pins s σ H x y v u Q I rx ry ⟨W, st, Hs, a, b, z, S, R1, R2, e, q⟩
  · obtain ⟨f, hs, hf, cu, cu1, ho⟩ := he.eq c F hm
    have R1 : Rep p W H (.ins c ns fs) x := R1
    have R2 : Rep p W H d y := R2
    obtain ⟨ad, dx, vs, rfl, _, hH, hr, hcm⟩ := id R1
    cases rx
    have ty := tgD_tyX (Hs := H) (x := .val d) hc S R2 ht
    obtain ⟨P, Z, pP, _⟩ := kit_of I ry (hK ▸ ty)
    obtain ⟨mA, J, _⟩ := ins_get I.hok hH
    obtain ⟨od, J, _⟩ := J.look
    obtain ⟨m, hF⟩ := I.fr
    have hn := not_first (t := t) hc hcm fun d' e' => by
      subst e'
      obtain ⟨_, _, _, _, _, hm⟩ := tgD_ins (Hs := H) (x := .val d) S R2 ht
      exact hm
    refine PySem.W.cmp_K (op := .Eq) (tb := tgV p t) (by omega) hF I.ok.mod.kin J (Z.ty _ _ I.kIn pP) (hK ▸ hn) hs hf ?_
    refine wpAny_mono (cu (fun _ _ _ _ => False) pins σ H s (fun w H' => w = .bl k ∧ Q (.bl k) H') [.ref ad, u] [.ref ad, y] no_passes I (.cons rfl (.cons ry .nil)) rfl
      ⟨W, st, [.ins c ns fs, d], S, ⟨_, _, rfl, R1, _, _, rfl, R2, rfl⟩, ?_⟩) (fun w s' ⟨x', H', I', r', ex, q'⟩ => ?_) fun _ _ z => z
    · rw [eF]
      intro W' H' x' f' S' R'
      exact ⟨R', q W' H' _ f' S' rfl⟩
    · subst ex
      cases r'
      exact ⟨.bl k, H', I', rfl, q'⟩
noncomputable def neO (eqs : List (Str × FSem)) : Store → RV → RV → Option RV := fun st x y => match eqO eqs st x y with
  | some (.val (.bl b)) => some (.val (.bl (!b)))
  | _ => none
theorem op_neO (hc : CsOk p) (hK : p.K = X.K) (hu : X.A.units + 64 < cLine) (hu1 : X.A.in1.units < cLine) (he : EqOk X p eqs) : OpR X (compareOp .NotEq) (r2 p (neO eqs)) := by
  intro pins s σ H x y v u Q I rx ry ⟨W, st, Hs, a, b, z, S, R1, R2, e, q⟩
  unfold neO at e
  split at e
  · rename_i k ek
    injection e with e
    subst e
    rcases eqO_some ek with e | ⟨c, ns, fs, d, F, t, k', rfl, rfl, hm, ht, eF, ez⟩
    · exact op_neT hK hu pins s σ H x y v u Q I rx ry ⟨W, st, Hs, a, b, _, S, R1, R2, by unfold neT; rw [e], q⟩
    · injection ez with ez
      injection ez with ez
      subst ez
      obtain ⟨f, hs, hf, cu, cu1, ho⟩ := he.eq c F hm
      have R1 : Rep p W H (.ins c ns fs) x := R1
      have R2 : Rep p W H d y := R2
      obtain ⟨ad, dx, vs, rfl, _, hH, hr, hcm⟩ := id R1
      cases rx
      have ty := tgD_tyX (Hs := H) (x := .val d) hc S R2 ht
      obtain ⟨P, Z, pP, _⟩ := kit_of I ry (hK ▸ ty)
      obtain ⟨mA, J, _⟩ := ins_get I.hok hH
      obtain ⟨od, J, _⟩ := J.look
      have hn := not_first (t := t) hc hcm fun d' e' => by
        subst e'
        obtain ⟨_, _, _, _, _, hm⟩ := tgD_ins (Hs := H) (x := .val d) S R2 ht
        exact hm
      refine PySem.W.tz_ne (tb := tgV p t) (by omega) hu1 I.kIn J (Z.ty _ _ I.kIn pP) (hK ▸ hn) (hK ▸ (hc.fac c hcm).hm) ho hs hf ?_
      refine wpAny_mono (cu1 (fun _ _ _ _ => False) pins σ H s (fun w H' => w = .bl k ∧ Q (.bl (!k)) H') [.ref ad, u] [.ref ad, y] no_passes I (.cons rfl (.cons ry .nil)) rfl
        ⟨W, st, [.ins c ns fs, d], S, ⟨_, _, rfl, R1, _, _, rfl, R2, rfl⟩, ?_⟩) (fun w s' ⟨x', H', I', r', ex, q'⟩ => ?_) fun _ _ z => z
      · rw [eF]
        intro W' H' x' f' S' R'
        exact ⟨R', q W' H' _ f' S' rfl⟩
      · subst ex
        cases r'
        exact ⟨k, rfl, .bl (!k), H', I', rfl, q'⟩
  · cases e
end
/-- the own __eq__ of class c, on these grounds with room k -/
def CallE (P : Program) (w : World) (K : PySem.W.Frag) (mg : Str → Option Value) (base : Heap) (k : Nat) (p : Prm) (c : Str) (F : FSem) : Prop :=
  ∀ X : Cx, X.prog = P → X.w = w → X.K = K → X.mg = mg → X.base = base → Room k X.A →
    ∃ f, PySem.W.findIn X.K (.ref (p.cS c)) "__eq__" = some (some (.ref f)) ∧ PySem.W.isFn X.K (.ref f) = true ∧ CallU X p X.A (.ref f) 2 F ∧ CallU X p X.A.in1 (.ref f) 2 F ∧ PySem.W.findIn X.K (.ref (p.cS c)) "__ne__" = some (some (.builtin "object.__ne__"))
/-- == and != by the def's own table of __eq__ -/
noncomputable def eqD : List (Str × FSem) → Store → RV → RV → Option RV
  | [] => eqT
  | l => eqO l
noncomputable def neD : List (Str × FSem) → Store → RV → RV → Option RV
  | [] => neT
  | l => neO l
theorem op_eqD' {X : Cx} {p : Prm} {eqs : List (Str × FSem)} (hc : CsOk p) (hK : p.K = X.K) (hu : X.A.units + 64 < cLine) (he : EqOk X p eqs) : OpR X (compareOp .Eq) (r2 p (eqD eqs)) := by
  cases eqs with
  | nil => exact op_eqT hK hu
  | cons a l => exact op_eqO hc hK hu he
theorem op_neD' {X : Cx} {p : Prm} {eqs : List (Str × FSem)} (hc : CsOk p) (hK : p.K = X.K) (hu : X.A.units + 64 < cLine) (he : EqOk X p eqs) : OpR X (compareOp .NotEq) (r2 p (neD eqs)) := by
  cases eqs with
  | nil => exact op_neT hK hu
  | cons a l => exact op_neO hc hK hu (by show X.A.units + 1 < cLine; omega) he
end Tz

set_option Elab.async false
set_option linter.all false
set_option maxRecDepth 100000
set_option maxHeartbeats 1000000
/-! Tp: tuple * int, list(xs), sum(xs). -/
namespace Tz
open PySem
open AutoSeq1 (wpAny_loadPart')
theorem tz_tuple_mul1 (l : Addr) (items : Array Value) (n : Nat) (dd : Option Addr) (sl : Array (Option Value)) (u : Tok) :
    Meets (Builtin.«tuple.__mul__» ⟨[.ref l, .int 1 u], []⟩) (fun _ R s => s.heap.get? l = some { cls := .type "tuple", dict := dd, data := .seq items n, slots := sl } ∧ R (.ok (.ret (.ref l))) s) :=
  .of_wp fun prog w A R s h => by
    obtain ⟨hp, g, d, tk, os⟩ := s
    obtain ⟨hl, h⟩ := h
    have f1 := AutoSeq1.idx_int
    have c0 : (decide ((1 : Int) < -(2 ^ 63)) || decide ((1 : Int) ≥ 2 ^ 63)) = false := by decide +kernel
    have c1 : (items.isEmpty || (1 : Int) == 1) = true := by rw [Bool.or_eq_true]; exact .inr rfl
    wp_walk using wpAny_loadPart' hl
    repeat (first
      | (refine wpAny_ite_false (decide_eq_false (by rw [c0]; exact Bool.false_ne_true)) ?_; wp_walk using wpAny_loadPart' hl)
      | (refine wpAny_ite_true (decide_eq_true c1) ?_; wp_walk using wpAny_loadPart' hl))
    first
      | exact ⟨_, rfl, h⟩
      | exact h
end Tz
namespace Tz
open PySem L2 PyProof.Rows
def mulT : Store → RV → RV → Option RV := fun st x y => match mulV st x y with
  | some z => some z
  | none => match x.d, y.d with
    | .tup xs, .int k => if xs ≠ [] ∧ 1 ≤ k ∧ k ≤ 1000 ∧ xs.length ≤ 1000 then some (.val (.tup (List.replicate k.toNat xs).flatten)) else none
    | _, _ => none
def intsOf : List D → Option (List Int)
  | [] => some []
  | .int i :: r => match intsOf r with
    | some is => some (i :: is)
    | none => none
  | _ => none
def listV : Store → RV → Option RV := fun st x => match x.d with
  | .tup xs => some (.fresh (.lst xs))
  | _ => match asL st x with
    | some xs => some (.fresh (.lst xs))
    | none => none
def sumV : Store → RV → Option RV := fun st x => match asL st x with
  | some xs => match intsOf xs with
    | some is => some (.val (.int is.sum))
    | none => none
  | none => none
section
variable {X : Cx} {p : Prm}
theorem repL_rep {W : Wd} {H : Hp} {xs : List D} {vs : List V} (h : RepL p W H xs vs) : ∀ k : Nat, RepL p W H (List.replicate k xs).flatten (List.replicate k vs).flatten
  | 0 => rfl
  | k + 1 => by
    rw [List.replicate_succ, List.replicate_succ, List.flatten_cons, List.flatten_cons]
    exact h.app (repL_rep h k)
theorem op_repT1 : OpR X (binaryOp .Mult) fun x y H Q => ∃ l xs, x = .ref l ∧ y = .int 1 ∧ SqT X.K H l xs ∧ Q (.ref l) H := by
  intro pins s σ H x y v u Q I rx ry h
  obtain ⟨l, xs, rfl, rfl, hT, q⟩ := h
  cases rx
  obtain ⟨t, rfl⟩ := ry
  obtain ⟨its, r, ⟨⟨cls, dd, data, sl⟩, ho, hc, n, hd⟩, hs⟩ := I.tuple hT
  simp only at hc hd
  subst hc hd
  refine wpAny_binaryOp_repeat_ref (T := "tuple") (U := "int") (by decide) ⟨_, ho, rfl⟩ (fun s' => typeIs_int s' 1 t) noFill_tuple_mul PySem.F.fills_int_mul PySem.F.slot_int_rmul repeat_tuple PySem.F.slot_int_index.lookup
    (call_meets PySem.F.slot_int_rmul (typeIs_int s 1 t) PySem.F.entry_int_rmul (PySem.F.args_int_rmul_2 _ _) (int_rmul_tuple 1 t l its.toArray n dd sl)
      ⟨ho, rfl, ⟨_, ho, rfl⟩, call_meets PySem.F.slot_tuple_mul ⟨_, ho, rfl⟩ PySem.F.entry_tuple_mul (PySem.F.args_tuple_mul_2 _ _) (tz_tuple_mul1 l its.toArray n dd sl t) ⟨ho, ?_⟩⟩)
  exact ⟨.ref l, H, I, rfl, q⟩
theorem op_mulT (hK : p.K = X.K) : OpR X (binaryOp .Mult) (r2 p mulT) := by
  intro pins s σ H x y v u Q I rx ry ⟨W, st, Hs, a, b, z, S, R1, R2, e, q⟩
  unfold mulT at e
  split at e
  · rename_i w ew
    injection e with e
    subst e
    exact op_mulV pins s σ H x y v u Q I rx ry ⟨W, st, Hs, a, b, _, S, R1, R2, ew, q⟩
  · split at e
    · rename_i xs k ex ek
      split at e
      · rename_i hh
        obtain ⟨h1, h2, h3, h4⟩ := hh
        injection e with e
        subst e
        obtain ⟨l, vs, rfl, hT, hr⟩ := rvr_ref (st := st) R1 ex
        have hl := hr.length
        by_cases hk1 : k = 1
        · subst hk1
          refine op_repT1 pins s σ H _ _ v u Q I rx ry ⟨l, vs, rfl, rvr_int R2 ek, hK ▸ hT, q W H _ Fut.refl S ?_⟩
          refine ⟨l, vs, rfl, hT, ?_⟩
          have e1 : (List.replicate (1 : Int).toNat xs).flatten = xs := by simp
          rw [e1]
          exact hr
        exact op_repT pins s σ H _ _ v u Q I rx ry ⟨l, k, vs, rfl, rvr_int R2 ek, hK ▸ hT, fun z => h1 ((repL_nil hr).mp z), by omega, h3, by omega,
          fun a hn => q W _ _ (Fut.laid S hn) (S.laid hn) (tup_mk S hn (repL_rep hr k.toNat))⟩
      · cases e
    · cases e
theorem list_ok (hK : p.K = X.K) : CallR X (.type "list") (rB1 p listV) := by
  intro pins s σ H xs us Q I r ⟨v, ev, W, st, Hs, u, z, S, R, e, q⟩
  subst ev
  unfold listV at e
  split at e
  · rename_i ys ey
    injection e with e
    subst e
    obtain ⟨a, vs, rfl, h1, h2⟩ := rvr_ref (st := st) R ey
    exact call_list_of pins s σ H _ us Q I r ⟨a, vs, rfl, .inr (hK ▸ h1), fun l hn => q W _ _ (Fut.laid S hn) (S.laid hn) (fresh_mk S hn h2)⟩
  · split at e
    · rename_i ys ey
      injection e with e
      subst e
      obtain ⟨a, vs, rfl, h1, h2⟩ := R.list S ey
      exact call_list_of pins s σ H _ us Q I r ⟨a, vs, rfl, .inl (hK ▸ h1), fun l hn => q W _ _ (Fut.laid S hn) (S.laid hn) (fresh_mk S hn h2)⟩
    · cases e
theorem ints_rep {W : Wd} {H : Hp} : ∀ {xs : List D} {vs : List V} {is : List Int}, RepL p W H xs vs → intsOf xs = some is → vs = is.map V.int
  | [], vs, is, h, e => by
    injection e with e
    subst e
    exact h
  | x :: xs, vs, is, h, e => by
    obtain ⟨v, r, rfl, h1, h2⟩ := h
    cases x with
    | int i =>
      have e : (match intsOf xs with
        | some is => some (i :: is)
        | none => none) = some is := e
      split at e
      · rename_i js ej
        injection e with e
        subst e
        have h1 : v = .int i := h1
        rw [h1, ints_rep h2 ej]
        rfl
      · cases e
    | _ => cases e
theorem sum_ok (hK : p.K = X.K) (hc : X.calm = true) : CallR X (.builtin "sum") (rB1 p sumV) := by
  intro pins s σ H xs us Q I r ⟨v, ev, W, st, Hs, u, z, S, R, e, q⟩
  subst ev
  unfold sumV at e
  split at e
  · rename_i ys ey
    split at e
    · rename_i is ei
      injection e with e
      subst e
      obtain ⟨a, vs, rfl, h1, h2⟩ := R.list S ey
      have hv := ints_rep h2 ei
      subst hv
      exact cr_sum hc pins s σ H _ us Q I r ⟨a, is, rfl, hK ▸ h1, q W H _ Fut.refl S rfl⟩
    · cases e
  · cases e
end
end Tz

set_option Elab.async false
set_option linter.all false
set_option maxRecDepth 100000
set_option maxHeartbeats 1000000
/-! Tq: chains of comparisons of any length. -/
namespace Tz
open PySem L2 PyProof.Rows
def eChL : RV → List ((Store → RV → RV → Option RV) × ESem) → Rho → Store → Option ER
  | _, [], _, _ => none
  | x, (fn, b) :: l, r, st => match b r st with
    | some (.ok y st2) => match l with
      | [] => match fn st2 x y with
        | some z => some (.ok z st2)
        | none => none
      | _ :: _ => match fn st2 x y with
        | some (.val (.bl true)) => eChL y l r st2
        | some (.val (.bl false)) => some (.ok (.val (.bl false)) st2)
        | _ => none
    | some (.exc e st2) => some (.exc e st2)
    | none => none
def eChN (a : ESem) (l : List ((Store → RV → RV → Option RV) × ESem)) : ESem := fun r st => match a r st with
  | some (.ok x st1) => eChL x l r st1
  | some (.exc x st1) => some (.exc x st1)
  | none => none
inductive Links (X : Cx) (p : Prm) (Wx : WX) : List CmpOp → List Expr → List ((Store → RV → RV → Option RV) × ESem) → Prop where
  | nil : Links X p Wx [] [] []
  | cons {op : CmpOp} {b : Expr} {fn : Store → RV → RV → Option RV} {f : ESem} {ops : List CmpOp} {bs : List Expr} {l : List ((Store → RV → RV → Option RV) × ESem)}
      (ho : OpR X (compareOp op) (r2 p fn)) (hb : PE X b (tE p Wx f)) (t : Links X p Wx ops bs l) : Links X p Wx (op :: ops) (b :: bs) ((fn, f) :: l)
section
variable {X : Cx} {p : Prm} {Wx : WX} {pos : Pos}
theorem chL_ok : ∀ {ops : List CmpOp} {bs : List Expr} {l : List ((Store → RV → RV → Option RV) × ESem)}, Links X p Wx ops bs l → ∀ {W0 W : Wd} {H0 H Hs : Hp} {σ : L2.St} {r : Rho} {st : Store} {x : RV} {v : V} {u : Value} {Q : VK} {pins : List (Addr × Obj)} {s : Shared},
    Inv X pins σ H s → Good p W0 H0 W σ H r st → RVr p Hs W H x v → (∀ a, Hs a ≠ none → H a ≠ none) → RelV v u → okE p Wx W σ H Q (eChL x l r st) →
    wpAny (model X.prog X.w) X.A (compareChain pos u ops (evalEach bs X.env)) (EP X pins σ Q) X.xe s := by
  intro ops bs l L
  induction L with
  | nil => intro W0 W H0 H Hs σ r st x v u Q pins s I G R hs rv q; exact q.elim
  | @cons op b fn f ops bs l ho hb t ih =>
    intro W0 W H0 H Hs σ r st x v u Q pins s I G R hs rv q
    unfold eChL at q
    have step : ∀ {Q' : VK}, (∀ y st2, f r st = some (.ok y st2) → ∀ W2 H2 w, Fut W H W2 H2 → SOk p W2 H2 st2 → RVr p H W2 H2 y w → Good p W0 H0 W2 σ H2 r st2 → Q' w H2) → (∀ e st2, f r st = some (.exc e st2) → ∀ W1 H1 c d, Fut W H W1 H1 → SOk p W1 H1 st2 → RepEx p W1 H1 e c d → Wx c d σ H1) → f r st ≠ none → tE p Wx f σ H Q' :=
      fun h1 h2 h3 => tE_bind G h1 h2 h3
    cases t with
    | nil =>
      refine chain_last (thn (hb.run pins s σ H (fun w H2 => ∀ s2 u2, Inv X pins σ H2 s2 → RelV w u2 → wpAny (model X.prog X.w) X.A (compareOp op u u2) (EP X pins σ Q) X.xe s2) I ?_) fun u2 s2 ⟨w, H2, I2, r2, k⟩ => k s2 u2 I2 r2)
      refine step (fun y st2 e2 W2 H2 w f2 S2 R2 G2 => ?_) (fun e st2 e2 W1 H1 c d f1 S1 R1 => ?_) (fun z => ?_)
      · intro s2 u2 I2 r2'
        simp only [e2] at q
        cases ez : fn st2 x y with
        | none => simp only [ez] at q; exact q.elim
        | some z =>
          simp only [ez] at q
          exact ho pins s2 σ H2 v w u u2 Q I2 rv r2' ⟨W2, st2, Hs, x, y, z, S2, R.fut f2 G.ok, R2.back hs, ez, fun W3 H3 y3 f3 S3 R3 => q W3 H3 y3 (f2.trans f3) S3 (R3.back fun a h => f2.tr a h)⟩
      · simp only [e2] at q
        exact q W1 H1 c d f1 S1 R1
      · simp only [z] at q
        exact q
    | @cons op' b' fn' f' ops bs l ho' hb' t' =>
      refine chain_link (thn (hb.run pins s σ H (fun w H2 => ∀ s2 u2, Inv X pins σ H2 s2 → RelV w u2 → wpAny (model X.prog X.w) X.A (compareOp op u u2) (fun c s₂ => wpAny (model X.prog X.w) X.A (truthy c)
        (fun t s₃ => if t then wpAny (model X.prog X.w) X.A (compareChain pos u2 (op' :: ops) (eval b' X.env :: evalEach bs X.env)) (EP X pins σ Q) X.xe s₃ else EP X pins σ Q c s₃) X.xe s₂) X.xe s2) I ?_) fun u2 s2 ⟨w, H2, I2, r2, k⟩ => k s2 u2 I2 r2)
      refine step (fun y st2 e2 W2 H2 w f2 S2 R2 G2 => ?_) (fun e st2 e2 W1 H1 c d f1 S1 R1 => ?_) (fun z => ?_)
      · intro s2 u2 I2 r2'
        simp only [e2] at q
        cases ez : fn st2 x y with
        | none => simp only [ez] at q; exact q.elim
        | some z =>
          cases z with
          | fresh d => simp only [ez] at q; exact q.elim
          | peek d => simp only [ez] at q; exact q.elim
          | val d =>
            cases d with
            | bl k =>
              refine thn (ho pins s2 σ H2 v w u u2 (fun z H3 => z = .bl k ∧ ∃ W3, Fut W2 H2 W3 H3 ∧ SOk p W3 H3 st2) I2 rv r2' ⟨W2, st2, Hs, x, y, .val (.bl k), S2, R.fut f2 G.ok, R2.back hs, ez, fun W3 H3 y3 f3 S3 R3 => ⟨R3, W3, f3, S3⟩⟩) fun c s3 ⟨z, H3, I3, r3, ez3, W3, f3, S3⟩ => ?_
              subst ez3
              cases r3
              refine wpAny_truthy_bool ?_
              cases k with
              | false =>
                simp only [ez] at q
                exact ite_ff ⟨.bl false, H3, I3, rfl, q W3 H3 _ (f2.trans f3) S3 rfl⟩
              | true =>
                simp only [ez] at q
                refine ite_tt (ih (Hs := H) I3 (G2.to f3 S3) (R2.fut f3 S2) (fun a h => f3.tr a (f2.tr a h)) r2' ?_)
                cases zq : eChL y ((fn', f') :: l) r st2 with
                | none => rw [zq] at q; exact q
                | some o =>
                  rw [zq] at q
                  cases o with
                  | ok v4 st4 => exact fun W4 H4 x4 f4 S4 R4 => q W4 H4 x4 (f2.trans (f3.trans f4)) S4 (R4.back fun a h => f3.tr a (f2.tr a h))
                  | exc e4 st4 => exact fun W4 H4 c4 d4 f4 S4 R4 => q W4 H4 c4 d4 (f2.trans (f3.trans f4)) S4 R4
            | _ => simp only [ez] at q; exact q.elim
      · simp only [e2] at q
        exact q W1 H1 c d f1 S1 R1
      · simp only [z] at q
        exact q
theorem pe_chN {a : Expr} {f : ESem} {op op' : CmpOp} {ops : List CmpOp} {b b' : Expr} {bs : List Expr} {l : List ((Store → RV → RV → Option RV) × ESem)} (ha : PE X a (tE p Wx f)) (L : Links X p Wx (op :: op' :: ops) (b :: b' :: bs) l) (hm : lastMarks (op :: op' :: ops) (b :: b' :: bs) = false) :
    PE X (.Compare a (op :: op' :: ops) (b :: b' :: bs) pos) (tE p Wx (eChN f l)) := by
  refine ⟨fun pins s σ H Q I ⟨W0, H0, W, r, st, G, q⟩ => ?_⟩
  refine Compare_chain (thn (ha.run pins s σ H (fun v H1 => ∀ s1 u, Inv X pins σ H1 s1 → RelV v u → wpAny (model X.prog X.w) X.A (compareChain pos u (op :: op' :: ops) (evalEach (b :: b' :: bs) X.env)) (EP X pins σ Q) X.xe s1) I ?_) fun u s1 ⟨v, H1, I1, r1, k⟩ => k s1 u I1 r1) hm
  unfold eChN at q
  refine tE_bind G (fun x st1 e1 W1 H1 v f1 S1 R1 G1 => ?_) (fun e st1 e1 W1 H1 c d f1 S1 R1 => ?_) (fun z => ?_)
  · intro s1 u I1 r1
    simp only [e1] at q
    refine chL_ok L (Hs := H) I1 G1 R1 (fun a h => f1.tr a h) r1 ?_
    cases zq : eChL x l r st1 with
    | none => rw [zq] at q; exact q
    | some o =>
      rw [zq] at q
      cases o with
      | ok v4 st4 => exact fun W4 H4 x4 f4 S4 R4 => q W4 H4 x4 (f1.trans f4) S4 (R4.back fun a h => f1.tr a h)
      | exc e4 st4 => exact fun W4 H4 c4 d4 f4 S4 R4 => q W4 H4 c4 d4 (f1.trans f4) S4 R4
  · simp only [e1] at q
    exact q W1 H1 c d f1 S1 R1
  · simp only [z] at q
    exact q
/-- the same, as a test -/
def okB (p : Prm) (Wx : WX) (W : Wd) (σ : L2.St) (H : Hp) (Q : Bool → Hp → Prop) : Option ER → Prop
  | some (.ok (.val (.bl b)) st') => ∀ W' H', Fut W H W' H' → SOk p W' H' st' → Q b H'
  | some (.exc e st') => ∀ W' H' c d, Fut W H W' H' → SOk p W' H' st' → RepEx p W' H' e c d → Wx c d σ H'
  | _ => False
theorem okB_to {W W2 : Wd} {σ : L2.St} {H H2 : Hp} {Q : Bool → Hp → Prop} {o : Option ER} (f : Fut W H W2 H2) (q : okB p Wx W σ H Q o) : okB p Wx W2 σ H2 Q o := by
  cases o with
  | none => exact q
  | some o =>
    cases o with
    | exc e4 st4 => exact fun W4 H4 c4 d4 f4 S4 R4 => q W4 H4 c4 d4 (f.trans f4) S4 R4
    | ok v st4 =>
      cases v with
      | fresh d => exact q
      | peek d => exact q
      | val d =>
        cases d with
        | bl b => exact fun W4 H4 f4 S4 => q W4 H4 (f.trans f4) S4
        | _ => exact q
theorem chT_ok : ∀ {ops : List CmpOp} {bs : List Expr} {l : List ((Store → RV → RV → Option RV) × ESem)}, Links X p Wx ops bs l → ∀ {W0 W : Wd} {H0 H Hs : Hp} {σ : L2.St} {r : Rho} {st : Store} {x : RV} {v : V} {u : Value} {Q : Bool → Hp → Prop} {pins : List (Addr × Obj)} {s : Shared},
    Inv X pins σ H s → Good p W0 H0 W σ H r st → RVr p Hs W H x v → (∀ a, Hs a ≠ none → H a ≠ none) → RelV v u → okB p Wx W σ H Q (eChL x l r st) →
    wpAny (model X.prog X.w) X.A (testChain pos u ops (evalEach bs X.env)) (TP X pins σ Q) X.xe s := by
  intro ops bs l L
  induction L with
  | nil => intro W0 W H0 H Hs σ r st x v u Q pins s I G R hs rv q; exact q.elim
  | @cons op b fn f ops bs l ho hb t ih =>
    intro W0 W H0 H Hs σ r st x v u Q pins s I G R hs rv q
    unfold eChL at q
    have step : ∀ {Q' : VK}, (∀ y st2, f r st = some (.ok y st2) → ∀ W2 H2 w, Fut W H W2 H2 → SOk p W2 H2 st2 → RVr p H W2 H2 y w → Good p W0 H0 W2 σ H2 r st2 → Q' w H2) → (∀ e st2, f r st = some (.exc e st2) → ∀ W1 H1 c d, Fut W H W1 H1 → SOk p W1 H1 st2 → RepEx p W1 H1 e c d → Wx c d σ H1) → f r st ≠ none → tE p Wx f σ H Q' :=
      fun h1 h2 h3 => tE_bind G h1 h2 h3
    cases t with
    | nil =>
      refine test_last (thn (hb.run pins s σ H (fun w H2 => ∀ s2 u2, Inv X pins σ H2 s2 → RelV w u2 → wpAny (model X.prog X.w) X.A (compareOp op u u2) (fun c s₂ => wpAny (model X.prog X.w) X.A (truthy c) (TP X pins σ Q) X.xe s₂) X.xe s2) I ?_) fun u2 s2 ⟨w, H2, I2, r2, k⟩ => k s2 u2 I2 r2)
      refine step (fun y st2 e2 W2 H2 w f2 S2 R2 G2 => ?_) (fun e st2 e2 W1 H1 c d f1 S1 R1 => ?_) (fun z => ?_)
      · intro s2 u2 I2 r2'
        simp only [e2] at q
        cases ez : fn st2 x y with
        | none => simp only [ez] at q; exact q.elim
        | some z =>
          simp only [ez] at q
          cases z with
          | fresh d => exact q.elim
          | peek d => exact q.elim
          | val d =>
            cases d with
            | bl k =>
              refine thn (ho pins s2 σ H2 v w u u2 (fun z H3 => z = .bl k ∧ Q k H3) I2 rv r2' ⟨W2, st2, Hs, x, y, .val (.bl k), S2, R.fut f2 G.ok, R2.back hs, ez, fun W3 H3 y3 f3 S3 R3 => ⟨R3, q W3 H3 (f2.trans f3) S3⟩⟩) fun c s3 ⟨z, H3, I3, r3, ez3, q3⟩ => ?_
              subst ez3
              cases r3
              exact wpAny_truthy_bool ⟨H3, I3, q3⟩
            | _ => exact q.elim
      · simp only [e2] at q
        exact q W1 H1 c d f1 S1 R1
      · simp only [z] at q
        exact q
    | @cons op' b' fn' f' ops bs l ho' hb' t' =>
      refine test_link (thn (hb.run pins s σ H (fun w H2 => ∀ s2 u2, Inv X pins σ H2 s2 → RelV w u2 → wpAny (model X.prog X.w) X.A (compareOp op u u2) (fun c s₂ => wpAny (model X.prog X.w) X.A (truthy c)
        (fun t s₃ => if t then wpAny (model X.prog X.w) X.A (testChain pos u2 (op' :: ops) (eval b' X.env :: evalEach bs X.env)) (TP X pins σ Q) X.xe s₃ else TP X pins σ Q false s₃) X.xe s₂) X.xe s2) I ?_) fun u2 s2 ⟨w, H2, I2, r2, k⟩ => k s2 u2 I2 r2)
      refine step (fun y st2 e2 W2 H2 w f2 S2 R2 G2 => ?_) (fun e st2 e2 W1 H1 c d f1 S1 R1 => ?_) (fun z => ?_)
      · intro s2 u2 I2 r2'
        simp only [e2] at q
        cases ez : fn st2 x y with
        | none => simp only [ez] at q; exact q.elim
        | some z =>
          cases z with
          | fresh d => simp only [ez] at q; exact q.elim
          | peek d => simp only [ez] at q; exact q.elim
          | val d =>
            cases d with
            | bl k =>
              refine thn (ho pins s2 σ H2 v w u u2 (fun z H3 => z = .bl k ∧ ∃ W3, Fut W2 H2 W3 H3 ∧ SOk p W3 H3 st2) I2 rv r2' ⟨W2, st2, Hs, x, y, .val (.bl k), S2, R.fut f2 G.ok, R2.back hs, ez, fun W3 H3 y3 f3 S3 R3 => ⟨R3, W3, f3, S3⟩⟩) fun c s3 ⟨z, H3, I3, r3, ez3, W3, f3, S3⟩ => ?_
              subst ez3
              cases r3
              refine wpAny_truthy_bool ?_
              cases k with
              | false =>
                simp only [ez] at q
                exact ite_ff ⟨H3, I3, q W3 H3 (f2.trans f3) S3⟩
              | true =>
                simp only [ez] at q
                exact ite_tt (ih (Hs := H) I3 (G2.to f3 S3) (R2.fut f3 S2) (fun a h => f3.tr a (f2.tr a h)) r2' (okB_to (f2.trans f3) q))
            | _ => simp only [ez] at q; exact q.elim
      · simp only [e2] at q
        exact q W1 H1 c d f1 S1 R1
      · simp only [z] at q
        exact q
theorem pt_chN {a : Expr} {f : ESem} {op op' : CmpOp} {ops : List CmpOp} {b b' : Expr} {bs : List Expr} {l : List ((Store → RV → RV → Option RV) × ESem)} (ha : PE X a (tE p Wx f)) (L : Links X p Wx (op :: op' :: ops) (b :: b' :: bs) l) (hm : lastMarks (op :: op' :: ops) (b :: b' :: bs) = false) :
    PT X (.Compare a (op :: op' :: ops) (b :: b' :: bs) pos) (tT p Wx (tBool (eChN f l))) := by
  refine ⟨fun pins s σ H Q I ⟨W0, H0, W, r, st, G, q⟩ => ?_⟩
  refine isTrue_chain (thn (ha.run pins s σ H (fun v H1 => ∀ s1 u, Inv X pins σ H1 s1 → RelV v u → wpAny (model X.prog X.w) X.A (testChain pos u (op :: op' :: ops) (evalEach (b :: b' :: bs) X.env)) (TP X pins σ Q) X.xe s1) I ?_) fun u s1 ⟨v, H1, I1, r1, k⟩ => k s1 u I1 r1) hm
  have q : okB p Wx W σ H Q (eChN f l r st) := by
    unfold tBool at q
    cases zq : eChN f l r st with
    | none => rw [zq] at q; exact q
    | some o =>
      rw [zq] at q
      cases o with
      | exc e4 st4 => exact q
      | ok v st4 =>
        cases v with
        | fresh d => exact q
        | peek d => exact q
        | val d =>
          cases d with
          | bl b => exact q
          | _ => exact q
  unfold eChN at q
  refine tE_bind G (fun x st1 e1 W1 H1 v f1 S1 R1 G1 => ?_) (fun e st1 e1 W1 H1 c d f1 S1 R1 => ?_) (fun z => ?_)
  · intro s1 u I1 r1
    simp only [e1] at q
    exact chT_ok L (Hs := H) I1 G1 R1 (fun a h => f1.tr a h) r1 (okB_to f1 q)
  · simp only [e1] at q
    exact q W1 H1 c d f1 S1 R1
  · simp only [z] at q
    exact q
end
end Tz

set_option Elab.async false
set_option linter.all false
set_option maxRecDepth 100000
set_option maxHeartbeats 1000000
/-! Tr: list(range(n)). -/
namespace Tz
open PySem L2 PyProof.Rows
def eLstR (a : ESem) : ESem := fun r st => match a r st with
  | some (.ok x st1) => match x.d with
    | .int n => if 0 ≤ n ∧ n ≤ 16777216 then some (.ok (.fresh (.lst ((List.range n.toNat).map fun i : Nat => D.int (0 + i)))) st1) else none
    | _ => none
  | some (.exc x st1) => some (.exc x st1)
  | none => none
section
variable {X : Cx} {p : Prm} {Wx : WX} {f : ESem} {e : Expr} {pos pp pos2 pp2 : Pos}
theorem repL_range {W : Wd} {H : Hp} : ∀ l : List Nat, RepL p W H (l.map fun i : Nat => D.int (0 + i)) (l.map fun i : Nat => V.int (0 + i))
  | [] => rfl
  | i :: l => ⟨_, _, rfl, rfl, repL_range l⟩
theorem pe_lstR (hc : X.calm = true) (hg : Gl X "list") (hm : X.mg "list" = none) (hg2 : Gl X "range") (hm2 : X.mg "range" = none) (he : PE X e (tE p Wx f)) (hs : notStar e = true) :
    PE X (.Call (.Name "list" pp) [.Call (.Name "range" pp2) [e] [] pos2] [] pos) (tE p Wx (eLstR f)) := by
  refine (pe_listRg hc hg hm (prg_1 hg2 hm2 he (starEach_cons hs))).weak fun σ H Q ⟨W0, H0, W, r, st, G, q⟩ => ?_
  unfold eLstR at q
  refine tE_bind G (fun v st1 e1 W1 H1 x f1 S1 R1 G1 => ?_) (fun e st1 e1 => ?_) (fun z => ?_)
  · simp only [e1] at q
    cases ed : v.d with
    | int n =>
      simp only [ed] at q
      by_cases hn : 0 ≤ n ∧ n ≤ 16777216
      · rw [if_pos hn] at q
        refine ⟨n, rvr_int R1 ed, RgOk.of_le (Int.le_refl 0) hn.2 (by decide) hn.1, fun a ha => ?_⟩
        refine q W1 _ _ (f1.trans (Fut.laid S1 ha)) (S1.laid ha) ((fresh_mk S1 ha ?_).back fun a h => f1.tr a h)
        unfold rgV
        rw [Int.sub_zero]
        exact repL_range _
      · rw [if_neg hn] at q
        exact q.elim
    | _ => simp only [ed] at q; exact q.elim
  · simp only [e1] at q
    exact q
  · simp only [z] at q
    exact q
end
end Tz

set_option Elab.async false
set_option linter.all false
set_option maxRecDepth 100000
set_option maxHeartbeats 1000000
/-! Tu: zip(e1, e2) of lists and tuples, also one of each, as many turns as the shorter one has. -/
namespace Tz
open PySem L2 PyProof.Rows
def ItzN (k l : Bool) (K : PySem.W.Frag) (a b : Addr) : It :=
  ⟨fun i H => ∃ (xs ys : List V) (x y : V), SqK k K H a xs ∧ SqK l K H b ys ∧ xs[i]? = some x ∧ ys[i]? = some y,
    fun i H v H' => ∃ T x y, v = .ref T ∧ H T = none ∧ H' = upd H T (.tup [x, y]) ∧ (∀ xs, SqK k K H a xs → xs[i]? = some x) ∧ ∀ ys, SqK l K H b ys → ys[i]? = some y,
    fun i H => ∃ xs ys : List V, SqK k K H a xs ∧ SqK l K H b ys ∧ (xs.length ≤ i ∨ ys.length ≤ i)⟩
theorem turn_zipN {P : Program} {w : World} {K : PySem.W.Frag} {k l : Bool} {elts : List Expr} {kk : Nat} {tpos : Pos} {a b z TI TO i1 i2 : Addr} (D : Zap z TI TO i1 i2 a b) :
    Turn P w K (.Tuple elts kk tpos) (ItzN k l K a b) [z, TI, TO, i1, i2] z (fun i h => IsZip h z TI TO .none ∧ IsTupOf2 h TI (.ref i1) (.ref i2) ∧ (∃ x y, IsTupOf2 h TO x y) ∧ ItK k h i1 a i ∧ ItK l h i2 b i) where
  mem := by simp
  obj := fun i h st c hc => by
    obtain ⟨hz, hTI, ⟨x, y, hTO⟩, h1, h2⟩ := st
    have hc' : c = z ∨ c = TI ∨ c = TO ∨ c = i1 ∨ c = i2 := by simpa using hc
    rcases hc' with q | q | q | q | q
    · rw [q]; exact ⟨_, hz, fun v q => nomatch q⟩
    · rw [q]; exact ⟨_, hTI, fun v q => nomatch q⟩
    · rw [q]; exact ⟨_, hTO, fun v q => nomatch q⟩
    · rw [q]; exact itK_obj h1
    · rw [q]; exact itK_obj h2
  keep := fun i h h' st kp => by
    obtain ⟨hz, hTI, ⟨x, y, hTO⟩, h1, h2⟩ := st
    exact ⟨kp z (by simp) _ hz, kp TI (by simp) _ hTI, ⟨x, y, kp TO (by simp) _ hTO⟩, itK_at h1 fun o q => kp i1 (by simp) o q, itK_at h2 fun o q => kp i2 (by simp) o q⟩
  item := by
    intro X eP ew eK cm i pins s σ H E I hf st hg
    subst eP ew eK
    obtain ⟨hz, hTI, ⟨x0, y0, hTO⟩, h1, h2⟩ := st
    obtain ⟨xs, ys, x, y, hqx, hqy, hx, hy⟩ := hg
    obtain ⟨its, rv, p, _⟩ := inv_sqK I hqx
    obtain ⟨jts, rv2, p2, _⟩ := inv_sqK I hqy
    obtain ⟨u, hu, ru⟩ := rv.get hx
    obtain ⟨u2, hu2, ru2⟩ := rv2.get hy
    have zl : z < s.heap.objs.size := Heap.lt_size hz
    have lt1 : i < its.toArray.size := by have := (List.getElem?_eq_some_iff.mp hu).1; simpa using this
    have lt2 : i < jts.toArray.size := by have := (List.getElem?_eq_some_iff.mp hu2).1; simpa using this
    refine wpAny_pyNext_zipD2_item D.sep (drawsK (A := X.A.in1) (I.ok.hd cm) k i1 a D.a3 its.toArray) (drawsK (A := X.A.in1) (I.ok.hd cm) l i2 b D.b4 jts.toArray) hz hTI hTO ⟨h1, p⟩ ⟨h2, p2⟩ lt1 lt2 fun v1 v2 h' tk pv1 pv2 z' TO' s1' s2' hT _ hk => ?_
    have e1 : v1 = u := by
      have : its[i]? = some v1 := by simpa using pv1
      rw [hu] at this
      exact (Option.some.inj this).symm
    have e2 : v2 = u2 := by
      have : jts[i]? = some v2 := by simpa using pv2
      rw [hu2] at this
      exact (Option.some.inj this).symm
    subst e1 e2
    refine ⟨_, rfl, wpAny_letOwnedTupleGo_zip (s := { s with heap := h', toks := tk }) z' fun h2' z2' sb => ?_⟩
    have hT2 : h2'.get? s.heap.objs.size = some { cls := .type "tuple", data := .seq #[v1, v2] } := (sb.2 _ (Nat.ne_of_gt zl)).trans hT
    have nw : ObjOk X.prog X.w (upd H s.heap.objs.size (.tup [x, y])) h2' s.heap.objs.size (.tup [x, y]) :=
      ⟨by show 2 ≤ sizeLine; decide, [v1, v2], .cons ru (.cons ru2 .nil), ⟨_, hT2, rfl, _, rfl⟩⟩
    have I1 : Inv X pins σ (upd H s.heap.objs.size (.tup [x, y])) { s with heap := h2', toks := tk } :=
      I.turnedNew (ch := [z, TI, TO, i1, i2]) (fun c o hb q => (sb.2 c (fun q' => hb (by simp [q']))).trans (hk c o (fun q' => hb (by simp [q'])) (fun q' => hb (by simp [q'])) (fun q' => hb (by simp [q'])) (fun q' => hb (by simp [q'])) q)) hf (Nat.le_refl _) nw
    refine ⟨.ref s.heap.objs.size, _, I1, rfl, ⟨_, x, y, rfl, I.hok.fresh (Nat.le_refl _), rfl, fun m hm => by rw [sqK_inj I hm hqx]; exact hx, fun m hm => by rw [sqK_inj I hm hqy]; exact hy⟩, ⟨z2', ?_, ⟨v1, v2, ?_⟩, ?_, ?_⟩, fun c hcm => ?_⟩
    · exact (sb.2 _ D.p1).trans (hk _ _ D.p1 D.p3 D.p4 D.p5 hTI)
    · exact (sb.2 _ D.p2).trans TO'
    · exact itK_at s1'.1 fun o q => (sb.2 _ D.p6.symm).trans q
    · exact itK_at s2'.1 fun o q => (sb.2 _ D.p7.symm).trans q
    · have hlt : c < s.heap.objs.size := by
        have hc' : c = z ∨ c = TI ∨ c = TO ∨ c = i1 ∨ c = i2 := by simpa using hcm
        rcases hc' with q | q | q | q | q
        · rw [q]; exact zl
        · rw [q]; exact Heap.lt_size hTI
        · rw [q]; exact Heap.lt_size hTO
        · rw [q]; obtain ⟨o, q, _⟩ := itK_obj h1; exact Heap.lt_size q
        · rw [q]; obtain ⟨o, q, _⟩ := itK_obj h2; exact Heap.lt_size q
      rw [upd_ne (Nat.ne_of_lt hlt)]
      exact (hf c hcm).1
  done := by
    intro X eP ew eK cm i pins s σ H E I hf st hg
    subst eP ew eK
    obtain ⟨hz, hTI, ⟨x0, y0, hTO⟩, h1, h2⟩ := st
    obtain ⟨xs, ys, hqx, hqy, hend⟩ := hg
    obtain ⟨its, rv, p, _⟩ := inv_sqK I hqx
    obtain ⟨jts, rv2, p2, _⟩ := inv_sqK I hqy
    have L1 := rv.length
    have L2 := rv2.length
    have fin : ∀ h' tk, (∀ c o, c ≠ z → c ≠ TO → c ≠ i1 → c ≠ i2 → s.heap.get? c = some o → h'.get? c = some o) → (none : Option Value) = none ∧ Inv X pins σ H { s with heap := h', toks := tk } :=
      fun h' tk kp => ⟨rfl, I.turnedL (ch := [z, TI, TO, i1, i2]) (fun c o hb q => kp c o (fun q' => hb (by simp [q'])) (fun q' => hb (by simp [q'])) (fun q' => hb (by simp [q'])) (fun q' => hb (by simp [q'])) q) hf⟩
    by_cases hx : xs.length ≤ i
    · have n1 : its.toArray[i]? = none := by simp; omega
      by_cases hy : ys.length ≤ i
      · have n2 : jts.toArray[i]? = none := by simp; omega
        exact wpAny_pyNext_zipD2_end D.sep (drawsEnd (A := X.A.in1) (I.ok.hd cm) k i1 a its.toArray i n1) (drawsEnd (A := X.A.in1) (I.ok.hd cm) l i2 b jts.toArray i n2) hz hTI hTO ⟨rfl, h1, p⟩ ⟨rfl, h2, p2⟩ (Nat.le_refl _) (Nat.le_refl _) (.inl rfl) fin
      · exact wpAny_pyNext_zipD2_end D.sep (drawsEnd (A := X.A.in1) (I.ok.hd cm) k i1 a its.toArray i n1) (drawsK (A := X.A.in1) (I.ok.hd cm) l i2 b D.b4 jts.toArray) hz hTI hTO ⟨rfl, h1, p⟩ ⟨h2, p2⟩ (Nat.le_refl _) (by simp; omega) (.inl rfl) fin
    · have hy : ys.length ≤ i := by omega
      have n2 : jts.toArray[i]? = none := by simp; omega
      exact wpAny_pyNext_zipD2_end D.sep (drawsK (A := X.A.in1) (I.ok.hd cm) k i1 a D.a3 its.toArray) (drawsEnd (A := X.A.in1) (I.ok.hd cm) l i2 b jts.toArray i n2) hz hTI hTO ⟨h1, p⟩ ⟨rfl, h2, p2⟩ (by simp; omega) (Nat.le_refl _) (.inr rfl) fin
  self := fun A i s Q E st h => wpAny_pyIter_zip st.1 h
def iZipN (K : PySem.W.Frag) (t1 t2 : TE) : TI := fun σ H R => t1 σ H fun x H1 => t2 σ H1 fun y H2 => ∃ k l a b xs ys, x = .ref a ∧ y = .ref b ∧ SqK k K H2 a xs ∧ SqK l K H2 b ys ∧ R (ItzN k l K a b) H2
theorem pi_zipN {X : Cx} {e1 e2 : Expr} {t1 t2 : TE} {pp pos tpos : Pos} {elts : List Expr} {kk : Nat} (hg : Gl X "zip") (hm : X.mg "zip" = none) (h1 : PE X e1 t1) (h2 : PE X e2 t2)
    (s1 : starEach [e1, e2] X.env = (false, eval e1 X.env) :: starEach [e2] X.env) (s2 : starEach [e2] X.env = [(false, eval e2 X.env)]) (hpl : (backTo pos (starEach [e2] X.env)).any (·.1) = false) :
    PI X (.Tuple elts kk tpos) (.Call (.Name "zip" pp) [e1, e2] [] pos) (iZipN X.K t1 t2) := by
  refine ⟨fun pins s σ H R I h => ?_⟩
  have ha : PA X [e1, e2] (tCons t1 (tCons t2 tNil)) := pa_cons h1 (pa_cons h2 pa_nil s2) s1
  have h3 : tCons t1 (tCons t2 tNil) σ H fun vs H1 => match vs with
    | [x, y] => ∃ k l a b xs ys, x = V.ref a ∧ y = V.ref b ∧ SqK k X.K H1 a xs ∧ SqK l X.K H1 b ys ∧ R (ItzN k l X.K a b) H1
    | _ => False := h
  refine Call_ (ld_blt I hg hm PyProof.Rows.boot_zip (PyProof.Rows.callWith_type1 (thn (ha.run pos pins s σ H _ I h3) fun us sb ⟨vs, H2, I2, r1, q1⟩ => ?_) s1 hpl))
  obtain ⟨x, y, k, l, a, b, xs, ys, ev, ex, ey, hx, hy, q⟩ : ∃ x y k l a b xs ys, vs = [x, y] ∧ x = V.ref a ∧ y = V.ref b ∧ SqK k X.K H2 a xs ∧ SqK l X.K H2 b ys ∧ R (ItzN k l X.K a b) H2 := by
    cases vs with
    | nil => exact q1.elim
    | cons x vs =>
      cases vs with
      | nil => exact q1.elim
      | cons y vs =>
        cases vs with
        | nil =>
          obtain ⟨k, l, a, b, xs, ys, q⟩ := q1
          exact ⟨x, y, k, l, a, b, xs, ys, rfl, q⟩
        | cons z vs => exact q1.elim
  subst ev ex ey
  cases r1 with
  | cons r rr =>
  cases rr with
  | cons r' rr =>
  cases rr
  cases r
  cases r'
  obtain ⟨its, rv, p, la⟩ := inv_sqK I2 hx
  obtain ⟨jts, rv2, p2, lb⟩ := inv_sqK I2 hy
  refine zip_begins2 (beginsK k a its.toArray) (beginsK l b jts.toArray) p p2 fun h' hz hTI hTO g1 g2 _ kk' => wpAny_pyIter_zip hz ?_
  have I3 : Inv X pins σ H2 { sb with heap := h' } := I2.kept (t' := sb.toks) kk'
  refine ⟨sb.heap.objs.size + 4, [sb.heap.objs.size + 4, sb.heap.objs.size + 2, sb.heap.objs.size + 3, sb.heap.objs.size, sb.heap.objs.size + 1], _, _, H2, rfl, I3, turn_zipN (k := k) (l := l) (a := a) (b := b) ?_, ⟨hz, hTI, ⟨_, _, hTO⟩, itK_new g1, itK_new g2⟩, fun c hc => ?_, q⟩
  · exact zap_new la lb
  · have hc' : c = sb.heap.objs.size + 4 ∨ c = sb.heap.objs.size + 2 ∨ c = sb.heap.objs.size + 3 ∨ c = sb.heap.objs.size ∨ c = sb.heap.objs.size + 1 := by simpa using hc
    have hle : sb.heap.objs.size ≤ c := new5 hc'
    exact I2.fpOk hle (I2.hok.fresh hle)
theorem zipF_lenN : ∀ (xs ys : List D), (zipF xs ys).length = min xs.length ys.length
  | [], ys => by cases ys <;> rfl
  | x :: xs, [] => rfl
  | x :: xs, y :: ys => by
    show (zipF xs ys).length + 1 = _
    rw [zipF_lenN xs ys]
    simp only [List.length_cons]
    omega
section
variable {p : Prm} {X : Cx} {Wx : WX} {f g : ESem}
theorem walks_zipN {K : PySem.W.Frag} {W : Wd} {H : Hp} {a b : Addr} {k l : Bool} {vs ws : List V} {xs ys : List D} (h1 : ∀ W' H', Fw W H W' H' → SqK k K H' a vs) (h2 : ∀ W' H', Fw W H W' H' → SqK l K H' b ws) (r1 : RepL p W H xs vs) (r2 : RepL p W H ys ws) :
    Walks p (ItzN k l K a b) W H (zipF xs ys) := by
  intro W' H' st f S i
  have hv := h1 W' H' f
  have hw := h2 W' H' f
  have r1' := RepL.fw f xs vs r1
  have r2' := RepL.fw f ys ws r2
  refine ⟨fun d e => ?_, fun hi => ?_⟩
  · obtain ⟨x, y, e1, e2, e3⟩ := zipF_get xs ys i d e
    subst e3
    obtain ⟨v, k1, k2⟩ := r1'.get e1
    obtain ⟨w, m1, m2⟩ := r2'.get e2
    refine ⟨⟨vs, ws, v, w, hv, hw, k1, m1⟩, fun x' H'' z => ?_⟩
    obtain ⟨T, u, u', rfl, hT, rfl, z1, z2⟩ := z
    have q := z1 vs hv
    rw [k1] at q
    injection q with q
    subst q
    have q := z2 ws hw
    rw [m1] at q
    injection q with q
    subst q
    exact ⟨W', Fut.laid S hT, S.laid hT, tup_mk (Hs := H') S hT ⟨v, [w], rfl, k2, w, [], rfl, m2, rfl⟩⟩
  · rw [zipF_lenN xs ys] at hi
    exact ⟨vs, ws, hv, hw, by rw [r1.length, r2.length]; omega⟩
def iZipM (a b : ESem) : ISem := fun r st => match a r st with
  | some (.ok x st1) => match itemsOf x with
    | some xs => match b r st1 with
      | some (.ok y st2) => match itemsOf y with
        | some ys => some (zipF xs ys, st2)
        | none => none
      | _ => none
    | none => none
  | _ => none
theorem pi_zipM (hK : p.K = X.K) {e1 e2 : Expr} {pp pos tpos : Pos} {elts : List Expr} {kk : Nat} (hg : Gl X "zip") (hm : X.mg "zip" = none) (h1 : PE X e1 (tE p Wx f)) (h2 : PE X e2 (tE p Wx g)) (s1 : notStar e1 = true) (s2 : notStar e2 = true) :
    PI X (.Tuple elts kk tpos) (.Call (.Name "zip" pp) [e1, e2] [] pos) (tI p (iZipM f g)) := by
  refine (pi_zipN hg hm h1 h2 (starEach_cons s1) (starEach_cons s2) (star_none (es := [e2]) (by rw [List.all_cons, s2]; rfl))).weak fun σ H R ⟨W0, H0, W, r, st, G, q⟩ => ?_
  unfold iZipM at q
  refine tE_bind G (fun v st1 e1 W1 H1 x f1 S1 R1 G1 => ?_) (fun e st1 e1 => ?_) (fun z => ?_)
  · simp only [e1] at q
    cases ez : itemsOf v with
    | none => simp only [ez] at q
    | some xs =>
      simp only [ez] at q
      obtain ⟨a, W2, k, vs, rfl, f2, S2, hsq, hr⟩ := items_seq hK f1 S1 R1 ez
      refine tE_bind (G.to f2 S2) (fun w st2 e2 W3 H3 y f3 S3 R3 G3 => ?_) (fun e st2 e2 => ?_) (fun z => ?_)
      · simp only [e2] at q
        cases ew : itemsOf w with
        | none => simp only [ew] at q
        | some ys =>
          simp only [ew] at q
          obtain ⟨b, W4, l, ws, rfl, f4, S4, hsq2, hr2⟩ := items_seq hK f3 S3 R3 ew
          have fw4 := f4.fw S2
          refine ⟨k, l, a, b, vs, ws, rfl, rfl, hsq _ _ fw4, hsq2 _ _ Fw.refl, q W4 H3 _ (f2.trans f4) S4 (walks_zipN (fun W' H' z => hsq W' H' (fw4.trans z)) hsq2 (RepL.fw fw4 _ _ hr) hr2)⟩
      · simp only [e2] at q
      · simp only [z] at q
  · simp only [e1] at q
  · simp only [z] at q
end
end Tz

set_option Elab.async false
set_option linter.all false
set_option maxRecDepth 100000
set_option maxHeartbeats 1000000
/-! Tt: methods of own classes called; len and truth of their instances. -/
namespace Tz
open PySem L2 PyProof.Rows
/-- class, method, values by place, keywords -/
abbrev MKey := Str × Str × Nat × List Str
def lookM : List (MKey × FSem) → MKey → Option FSem
  | [], _ => none
  | (k, F) :: r, x => if k = x then some F else lookM r x
theorem lookM_mem {x : MKey} {F : FSem} : ∀ {l : List (MKey × FSem)}, lookM l x = some F → (x, F) ∈ l
  | [], h => by cases h
  | (k, G) :: r, h => by
    unfold lookM at h
    split at h
    · rename_i e
      injection h with h
      subst h e
      exact List.mem_cons_self
    · exact List.mem_cons_of_mem _ (lookM_mem h)
/-- the def at f called with n values by place and keywords ks tells F -/
def CallV (X : Cx) (p : Prm) (A : Around) (f : Addr) (n : Nat) (ks : List Str) (F : FSem) : Prop :=
  ∀ (E : L2.St → XK) (pins : List (Addr × Obj)) (σ : L2.St) (H : Hp) (s : Shared) (Q : VK) (us ws : List Value) (vs zs : List V),
    PassesAt (L2.CX X.prog X.w) X σ (E σ) → Inv X pins σ H s → Vals vs us → Vals zs ws → vs.length = n → zs.length = ks.length → spF p F (vs ++ zs) H Q (E σ) →
      wpAny (model X.prog X.w) A (call (.ref f) us (ks.zip ws)) (EP X pins σ Q) X.xe s
def MethV (X : Cx) (p : Prm) (k : MKey) (F : FSem) : Prop := ∃ f, Cls X.K (p.cS k.1) ∧ Meth X.K (p.cS k.1) k.2.1 f ∧ CallV X p X.A f (k.2.2.1 + 1) k.2.2.2 F
def MtsOk (X : Cx) (p : Prm) (l : List (MKey × FSem)) : Prop := ∀ k F, (k, F) ∈ l → MethV X p k F
def eMeth (l : List (MKey × FSem)) (m : Str) (np : Nat) (ks : List Str) (o : ESem) (t : ASem) : ESem := fun r st => match o r st with
  | some (.ok (.val d) st1) => match insOf st1 (.val d) with
    | some (c, ns, fs) => if ns.contains m = true then none else (match lookM l (c, m, np, ks) with
      | some F => match t r st1 with
        | some (.ok ds st2) => match F (d :: ds) st2 with
          | some (.ret v st3) => some (.ok v st3)
          | some (.exc x st3) => some (.exc x st3)
          | none => none
        | some (.exc x st2) => some (.exc x st2)
        | none => none
      | none => none)
    | none => none
  | some (.exc x st1) => some (.exc x st1)
  | _ => none
theorem zip_no {α : Type} {m : Str} : ∀ {ns : List Str} {vs : List α}, ns.contains m = false → (ns.zip vs).lookup m = none
  | [], _, _ => rfl
  | _ :: _, [], _ => rfl
  | n :: ns, v :: vs, h => by
    rw [List.contains_cons, Bool.or_eq_false_iff] at h
    rw [List.zip_cons_cons, List.lookup_cons, h.1]
    exact zip_no h.2
section
variable {X : Cx} {p : Prm} {Wx : WX} {f g : ESem} {al : ASem}
theorem meth_weak {l : List (MKey × FSem)} {m : Str} {np : Nat} {ks : List Str} {σ : L2.St} {H : Hp} {Q : VK} (w : tE p Wx (eMeth l m np ks f al) σ H Q) :
    tE p Wx f σ H fun x H1 => ∃ (c : Str) (ns : List Str) (F : FSem) (a dx : Addr) (vs0 : List V), x = .ref a ∧ H1 a = some (.ins (p.cS c) dx (ns.zip vs0)) ∧ c ∈ p.cls ∧ ns.contains m = false ∧ lookM l (c, m, np, ks) = some F ∧
      tA p Wx al σ H1 fun vs H2 => spF p F (.ref a :: vs) H2 Q (WE Wx σ) := by
  obtain ⟨W0, H0, W, r, st, G, q⟩ := w
  unfold eMeth at q
  refine tE_bind G (fun v st1 e1 W1 H1 x f1 S1 R1 G1 => ?_) (fun e st1 e1 => ?_) (fun z => ?_)
  · simp only [e1] at q
    cases v with
    | fresh d => exact q.elim
    | peek d => exact q.elim
    | val d =>
      dsimp only at q
      cases ei : insOf st1 (.val d) with
      | none => simp only [ei] at q; exact q.elim
      | some y =>
        obtain ⟨c, ns, fs⟩ := y
        simp only [ei] at q
        by_cases hm : ns.contains m = true
        · rw [if_pos hm] at q; exact q.elim
        · rw [if_neg hm] at q
          cases el : lookM l (c, m, np, ks) with
          | none => simp only [el] at q; exact q.elim
          | some F =>
            simp only [el] at q
            obtain ⟨a, dx, vs0, rfl, h1, h2, h3⟩ := insOf_ok S1 R1 ei
            refine ⟨c, ns, F, a, dx, vs0, rfl, h1, h3, by simpa using hm, el, ?_⟩
            refine tA_bind G1 (fun ds st2 e2 W2 H2 xs f2 S2 R2 G2 => ?_) (fun e st2 e2 W2 H2 c d f2 S2 R2 => ?_) (fun z => ?_)
            · simp only [e2] at q
              refine ⟨W2, st2, d :: ds, S2, ⟨_, _, rfl, Rep.fut f2 S1 d _ R1, R2⟩, ?_⟩
              cases ez : F (d :: ds) st2 with
              | none => simp only [ez] at q; exact q.elim
              | some y =>
                simp only [ez] at q
                cases y with
                | ret v st3 => exact fun W' H' x f S R => q W' H' x (f1.trans (f2.trans f)) S (R.back fun a z => f2.tr a (f1.tr a z))
                | exc e st3 => exact fun W' H' c d f S R => q W' H' c d (f1.trans (f2.trans f)) S R
            · simp only [e2] at q
              exact q W2 H2 c d (f1.trans f2) S2 R2
            · simp only [z] at q
              exact q.elim
  · simp only [e1] at q
    exact q
  · simp only [z] at q
    exact q
/-- a call's attribute read by its own rule -/
def fewB (n m : Nat) : Bool := decide (n + m + (if m = 0 then 0 else 1) < 30)
theorem meth_eq {o : Expr} {m : Str} {apos pos : Pos} {args : List Expr} {kws : List Keyword} {env : Env} (hn : notCall o = true) (hs : args.all notStar = true) {ks : List Str} (hk : kws.map kwName = ks.map some)
    (hf : fewB args.length kws.length = true) (hl : (apos.endLine == pos.line) = true) : eval (.Call (.Attribute o m apos) args kws pos) env = (do
      let ov ← eval o env
      standAt apos.atName
      let (f, first) ← holding [ov] (getMethod ov m (do return (← importBound o env).getD true))
      callWith pos f first (backTo pos (starEach args env)) (backToKw pos (keywordEach kws env))) := by
  have hb : attributeBase o m env (eval o env) = eval o env := by
    cases o <;> first
      | rfl
      | cases hn
  have hform : methodCallForm (args.length + kws.length) (backTo pos (starEach args env)) (backToKw pos (keywordEach kws env)) = true := by
    unfold methodCallForm
    have a1 : (backTo pos (starEach args env)).all (fun x => !x.1) = true := by
      have z := star_none (pos := pos) (env := env) hs
      rw [List.all_eq_true]
      intro x hx
      rw [List.any_eq_false] at z
      have := z x hx
      simpa using this
    have a2 := kw_all (pos := pos) (env := env) hk
    have a3 : (backToKw pos (keywordEach kws env)).isEmpty = kws.isEmpty := by
      cases kws with
      | nil => rfl
      | cons k ks => obtain ⟨n, e, q⟩ := k; rfl
    unfold fewB at hf
    have hf := of_decide_eq_true hf
    rw [a1, a2, a3, Bool.true_and, Bool.true_and, decide_eq_true_eq]
    cases kws with
    | nil => exact hf
    | cons k ks => exact hf
  show (attributeBase o m env (eval o env) >>= fun ov => standAt apos.atName >>= fun _ => methodCall o m apos pos env ov (args.length + kws.length) (backTo pos (starEach args env)) (backToKw pos (keywordEach kws env))) = _
  rw [hb]
  unfold methodCall methodCallPos calleeOf
  simp only [hform, hl]
  rfl
variable {l : List (MKey × FSem)} {m : Str} {o : Expr} {apos pos : Pos}
theorem pe_methN {e : Expr} {es : List Expr} {fs : List ESem} (ho : PE X o (tE p Wx f)) (hn : notCall o = true) (ok : MtsOk X p l) (tk : Takes X Wx) (hf : fewB (es.length + 1) 0 = true) (hl : (apos.endLine == pos.line) = true)
    (hfs : fs.length = es.length) (ha : PA X (e :: es) (tA p Wx (argsS (g :: fs)))) (hs : (e :: es).all notStar = true) :
    PE X (.Call (.Attribute o m apos) (e :: es) [] pos) (tE p Wx (eMeth l m (es.length + 1) [] f (argsS (g :: fs)))) := by
  refine ⟨fun pins s σ H Q I h => ?_⟩
  have hsn := hs
  rw [List.all_cons, Bool.and_eq_true] at hsn
  refine PySem.W.methodCall_KW (thn (ho.run pins s σ H _ I (meth_weak h)) fun u s1 ⟨x, H1, I1, rx, c, ns, F, a, dx, vs0, ex, ea, hc, hm, hk, q⟩ => ?_) (meth_eq hn hs (ks := []) rfl hf hl)
  subst ex
  obtain rfl : u = Value.ref a := rx
  obtain ⟨fa, c1, c2, c3⟩ := ok _ _ (lookM_mem hk)
  refine getmeth_ok I1 ea c1 c2 (zip_no hm) ?_
  have q2 := tA_len (es := es) (n := es.length + 1) (fun r st ds st1 z => by rw [args_len _ _ _ _ _ z, List.length_cons, hfs]) q
  refine PySem.W.callWith_K (first := [.ref a]) (h₀ := X.base) I.ok.mod.kin c2.kp (thn (ha.run pos pins s1 σ H1 _ I1 q2) fun us s2 ⟨vs, H2, I2, r, hlen, q3⟩ => ⟨I2.kIn, ?_⟩) (starEach_cons hsn.1) (star_none hsn.2)
  exact c3 (WE Wx) pins σ H2 s2 Q (.ref a :: us) [] (.ref a :: vs) [] (passAt tk σ) I2 (.cons rfl r) .nil (by rw [List.length_cons, hlen]) rfl (by rw [List.append_nil]; exact q3)
theorem pe_meth0S (ho : PE X o (tE p Wx f)) (hn : notCall o = true) (ok : MtsOk X p l) (tk : Takes X Wx) (hl : (apos.endLine == pos.line) = true) :
    PE X (.Call (.Attribute o m apos) [] [] pos) (tE p Wx (eMeth l m 0 [] f aNil)) := by
  refine ⟨fun pins s σ H Q I h => ?_⟩
  refine PySem.W.methodCall_KW (thn (ho.run pins s σ H _ I (meth_weak h)) fun u s1 ⟨x, H1, I1, rx, c, ns, F, a, dx, vs0, ex, ea, hc, hm, hk, q⟩ => ?_) (meth_eq hn rfl (ks := []) rfl rfl hl)
  subst ex
  obtain rfl : u = Value.ref a := rx
  obtain ⟨fa, c1, c2, c3⟩ := ok _ _ (lookM_mem hk)
  refine getmeth_ok I1 ea c1 c2 (zip_no hm) ?_
  obtain ⟨W0, H0, W, r, st, G, q⟩ := q
  have q2 := q W H1 [] Fut.refl G.ok rfl
  exact PySem.W.callWith_K0 (first := [.ref a]) I1.kIn c2.kp (c3 (WE Wx) pins σ H1 s1 Q [.ref a] [] [.ref a] [] (passAt tk σ) I1 (.cons rfl .nil) .nil rfl rfl q2)
theorem pe_methK {gs : List ESem} {kws : List Keyword} {ks : List Str} (ho : PE X o (tE p Wx f)) (hn : notCall o = true) (ok : MtsOk X p l) (tk : Takes X Wx) (hk : kws.map kwName = ks.map some) (hf : fewB 0 kws.length = true) (hl : (apos.endLine == pos.line) = true)
    (hl2 : gs.length = ks.length) (hkw : PK X kws (tA p Wx (argsS gs))) :
    PE X (.Call (.Attribute o m apos) [] kws pos) (tE p Wx (eMeth l m 0 ks f (argsS gs))) := by
  refine ⟨fun pins s σ H Q I h => ?_⟩
  refine PySem.W.methodCall_KW (thn (ho.run pins s σ H _ I (meth_weak h)) fun u s1 ⟨x, H1, I1, rx, c, ns, F, a, dx, vs0, ex, ea, hc, hm, hkk, q⟩ => ?_) (meth_eq hn rfl hk hf hl)
  subst ex
  obtain rfl : u = Value.ref a := rx
  obtain ⟨fa, c1, c2, c3⟩ := ok _ _ (lookM_mem hkk)
  refine getmeth_ok I1 ea c1 c2 (zip_no hm) ?_
  have h3 := tA_len (es := []) (n := ks.length) (fun r st ds st1 z => by rw [args_len _ _ _ _ _ z, hl2]) q
  refine PySem.W.callWith_KW0 (first := [.ref a]) (h₀ := X.base) I.ok.mod.kin c2.kp (kw_all hk) ?_ (by rw [kw_any hk]; rfl)
  refine thn (hkw.run pos pins s1 σ H1 _ I1 h3) fun ws s2 ⟨zs, H2, I2, rz, q2, q3⟩ => ⟨I2.kIn, ?_⟩
  rw [kw_names hk]
  exact c3 (WE Wx) pins σ H2 s2 Q [.ref a] ws [.ref a] zs (passAt tk σ) I2 (.cons rfl .nil) rz rfl q2 q3
theorem pe_methNK {e : Expr} {es : List Expr} {fs gs : List ESem} {kws : List Keyword} {ks : List Str} (ho : PE X o (tE p Wx f)) (hn : notCall o = true) (ok : MtsOk X p l) (tk : Takes X Wx) (hk : kws.map kwName = ks.map some) (hf : fewB (es.length + 1) kws.length = true) (hl : (apos.endLine == pos.line) = true)
    (hfs : fs.length = es.length) (hl2 : gs.length = ks.length) (ha : PA X (e :: es) (tA p Wx (argsS (g :: fs)))) (hkw : PK X kws (tA p Wx (argsS gs))) (hs : (e :: es).all notStar = true) :
    PE X (.Call (.Attribute o m apos) (e :: es) kws pos) (tE p Wx (eMeth l m (es.length + 1) ks f (aApp (argsS (g :: fs)) (argsS gs)))) := by
  refine ⟨fun pins s σ H Q I h => ?_⟩
  have hsn := hs
  rw [List.all_cons, Bool.and_eq_true] at hsn
  refine PySem.W.methodCall_KW (thn (ho.run pins s σ H _ I (meth_weak h)) fun u s1 ⟨x, H1, I1, rx, c, ns, F, a, dx, vs0, ex, ea, hc, hm, hkk, q⟩ => ?_) (meth_eq hn hs hk hf hl)
  subst ex
  obtain rfl : u = Value.ref a := rx
  obtain ⟨fa, c1, c2, c3⟩ := ok _ _ (lookM_mem hkk)
  refine getmeth_ok I1 ea c1 c2 (zip_no hm) ?_
  have h2 := tA_len (es := es) (n := es.length + 1) (fun r st ds st1 z => by rw [args_len _ _ _ _ _ z, List.length_cons, hfs]) (aApp_run q)
  refine PySem.W.callWith_KW (first := [.ref a]) (h₀ := X.base) I.ok.mod.kin c2.kp (kw_all hk) (thn (ha.run pos pins s1 σ H1 _ I1 h2) fun us s2 ⟨vs, H2, I2, r, hlen, q3⟩ => ?_) (by rw [star_none hs, kw_any hk]; rfl) (starEach_cons hsn.1)
  have h3 := tA_len (es := es) (n := ks.length) (fun r st ds st1 z => by rw [args_len _ _ _ _ _ z, hl2]) q3
  refine thn (hkw.run pos pins s2 σ H2 _ I2 h3) fun ws s3 ⟨zs, H3, I3, rz, q4, q5⟩ => ⟨I3.kIn, ?_⟩
  rw [kw_names hk]
  exact c3 (WE Wx) pins σ H3 s3 Q (.ref a :: us) ws (.ref a :: vs) zs (passAt tk σ) I3 (.cons rfl r) rz (by rw [List.length_cons, hlen]) q4 (by rw [List.cons_append]; exact q5)
end
/-! ### len and truth by an own __len__ -/
/-- class and special name: the def called with the instance alone -/
def lookS : List ((Str × Str) × FSem) → Str × Str → Option FSem
  | [], _ => none
  | (k, F) :: r, x => if k = x then some F else lookS r x
theorem lookS_mem {x : Str × Str} {F : FSem} : ∀ {l : List ((Str × Str) × FSem)}, lookS l x = some F → (x, F) ∈ l
  | [], h => by cases h
  | (k, G) :: r, h => by
    unfold lookS at h
    split at h
    · rename_i e
      injection h with h
      subst h e
      exact List.mem_cons_self
    · exact List.mem_cons_of_mem _ (lookS_mem h)
structure SpV (X : Cx) (p : Prm) (k : Str × Str) (F : FSem) : Prop where
  ex : ∃ f, PySem.W.findIn X.K (.ref (p.cS k.1)) k.2 = some (some (.ref f)) ∧ PySem.W.isFn X.K (.ref f) = true ∧ CallU X p X.A (.ref f) 1 F ∧ CallU X p X.A.in1 (.ref f) 1 F ∧ CallU X p X.A.in1.in1 (.ref f) 1 F ∧ CallU X p X.A.in1.in1.in1 (.ref f) 1 F
  nob : PySem.W.findIn X.K (.ref (p.cS k.1)) "__bool__" = some none
def SpsOk (X : Cx) (p : Prm) (l : List ((Str × Str) × FSem)) : Prop := ∀ k F, (k, F) ∈ l → SpV X p k F
open Classical in
/-- what a special of one instance tells, where the store stays -/
noncomputable def spec (l : List ((Str × Str) × FSem)) (nm : Str) (st : Store) (d : D) : Option D := match insOf st (.val d) with
  | some (c, _, _) => match lookS l (c, nm) with
    | some F => match F [d] st with
      | some (.ret (.val e) st2) => if st2 = st then some e else none
      | _ => none
    | none => none
  | none => none
theorem spec_some {l : List ((Str × Str) × FSem)} {nm : Str} {st : Store} {d e : D} (h : spec l nm st d = some e) : ∃ c ns fs F, insOf st (.val d) = some (c, ns, fs) ∧ ((c, nm), F) ∈ l ∧ F [d] st = some (.ret (.val e) st) := by
  unfold spec at h
  split at h
  · rename_i c ns fs ei
    split at h
    · rename_i F eF
      split at h
      · rename_i e2 st2 ez
        split at h
        · rename_i hst
          injection h with h
          subst h hst
          exact ⟨c, ns, fs, F, ei, lookS_mem eF, ez⟩
        · cases h
      · cases h
    · cases h
  · cases h
section
variable {X : Cx} {p : Prm} {l : List ((Str × Str) × FSem)}
/-- the special called -/
theorem spec_run {W : Wd} {H : Hp} {st : Store} {d e : D} {F : FSem} {A : Around} {f a : Addr} {pins : List (Addr × Obj)} {σ : L2.St} {s : Shared} {Q : V → Hp → Prop} (cu : CallU X p A (.ref f) 1 F) (I : Inv X pins σ H s) (S : SOk p W H st) (R : Rep p W H d (.ref a)) (eF : F [d] st = some (.ret (.val e) st))
    (q : ∀ W' H' w, Fut W H W' H' → SOk p W' H' st → Rep p W' H' e w → Q w H') : wpAny (model X.prog X.w) A (call (.ref f) [.ref a]) (EP X pins σ Q) X.xe s := by
  refine cu (fun _ _ _ _ => False) pins σ H s Q [.ref a] [.ref a] no_passes I (.cons rfl .nil) rfl ⟨W, st, [d], S, ⟨_, _, rfl, R, rfl⟩, ?_⟩
  rw [eF]
  exact fun W' H' x' f' S' R' => q W' H' x' f' S' R'
noncomputable def lenO (l : List ((Str × Str) × FSem)) : Store → RV → Option RV := fun st x => match lenV st x with
  | some z => some z
  | none => match x with
    | .val d => match spec l "__len__" st d with
      | some (.int n) => if 0 ≤ n ∧ n < 2 ^ 62 then some (.val (.int n)) else none
      | _ => none
    | _ => none
theorem len_okO (hK : p.K = X.K) (ok : SpsOk X p l) : CallR X (.builtin "len") (rB1 p (lenO l)) := by
  intro pins s σ H xs us Q I rx h
  obtain ⟨v, rfl, W, st, Hs, u, z, S, R, e, q⟩ := h
  unfold lenO at e
  split at e
  · rename_i z' ez
    injection e with e
    subst e
    exact len_ok hK pins s σ H [v] us Q I rx ⟨v, rfl, W, st, Hs, u, _, S, R, ez, q⟩
  · split at e
    · rename_i d _
      split at e
      · rename_i n en
        split at e
        · rename_i hn
          injection e with e
          subst e
          obtain ⟨c, ns, fs, F, ei, hm, eF⟩ := spec_some en
          have R : Rep p W H d v := R
          obtain ⟨a, dx, vs, rfl, hH, hr, hcm⟩ := insOf_ok (Hs := H) (x := .val d) S R ei
          obtain ⟨f, k1, k2, c0, c1, _⟩ := (ok _ _ hm).ex
          obtain ⟨u', eu, ru⟩ := rx.one
          subst eu
          cases ru
          obtain ⟨mA, J, _⟩ := ins_get I.hok hH
          obtain ⟨od, J, _⟩ := J.look
          obtain ⟨m, hF⟩ := I.fr
          refine PySem.W.len_K hF I.ok.mod.kin J k1 k2 ?_
          refine wpAny_mono (spec_run c1 I S R eF (Q := fun w H' => w = .int n ∧ Q (.int n) H') fun W' H' w f' S' R' => ⟨R', q W' H' _ f' S' rfl⟩) (fun w s' ⟨x', H', I', r', ex, q'⟩ => ?_) fun _ _ z => z
          subst ex
          obtain ⟨t, rfl⟩ := r'
          exact ⟨⟨hn.1, by omega⟩, .int n, H', I'.tok _, ⟨_, rfl⟩, q'⟩
        · cases e
      · cases e
    · cases e
noncomputable def truthO (l : List ((Str × Str) × FSem)) (st : Store) (x : RV) : Option Bool := match truth st x with
  | some b => some b
  | none => match x with
    | .val d => match spec l "__len__" st d with
      | some (.int n) => if 0 ≤ n ∧ n < 2 ^ 62 then some (n != 0) else none
      | _ => none
    | _ => none
end
end Tz
namespace PySem.W
open PySem PySem.Calls PyProof.Rows Builtin
section
variable {prog : Program} {w : World} {A : Around} {E : Value → Shared → Prop} {s : Shared} {K : Frag} {x C L f : Addr} {h₀ : Heap} {m : Str → Option Value} {ox : Obj} {od : Option Obj}
/-- truth by an own __len__ -/
theorem tz_truthL {Q : Bool → Shared → Prop} (F : Fr h₀ L s.heap m) (X₀ : K.In h₀) (I : InstAt s.heap x ox C od) (hb : findIn K (.ref C) "__bool__" = some none) (hs : findIn K (.ref C) "__len__" = some (some (.ref f))) (hf : isFn K (.ref f) = true)
    (h : wpAny (model prog w) A.in1 (call (.ref f) [.ref x]) (LenBack fun v s' => ∃ n t, v = .int n t ∧ Q (n != 0) s') E s) : wpAny (model prog w) A (truthy (.ref x)) Q E s := by
  have X := X₀.keeps F.keep
  unfold truthy
  refine wpAny_bind (m := callSpecial? (.ref x) (Str.ofString "__bool__")) (wpAny_bind (wpAny_bind (I.type.here ((looks_findIn X hb).here (wpAny_pure ?_)))))
  refine wpAny_bind (wpAny_bind (I.type.here ((looks_findIn X hs).here ?_)))
  show wpAny _ _ (if (some (Value.ref f)).isNone = true then _ else _) _ _ _
  rw [if_neg (by simp)]
  have key : wpAny (model prog w) A (runValue (.builtin "len" ⟨[.ref x], []⟩)) (fun r s' => ∃ n t, r = .int n t ∧ Q (n != 0) s') E s := by
    refine wpAny_runValue (codeAny_builtin entry_len ?_)
    rw [Around.under_plainId plain_len _]
    have body : wpAny (model prog w) A.in1 (Builtin.«len» ⟨[.ref x], []⟩) (fun fin s' => ∃ r, fin = .done (.ret r) ∧ ∃ n t, r = .int n t ∧ Q (n != 0) s') E s := by
      unfold Builtin.«len»
      refine wpAny_bind (m := oneArg "len" _) (wpAny_pure ?_)
      refine wpAny_bind (m := callSpecial? (.ref x) (Str.ofString "__len__")) (special_fn X I hs (beq_iff_eq.mp hf) (wpAny_mono h (fun r s' hr => ?_) fun _ _ y => y))
      cases r <;> first | exact hr.elim | skip
      rename_i n u
      obtain ⟨⟨h0, h1⟩, hq⟩ := hr
      obtain ⟨n', t', e, hq⟩ := hq
      cases e
      refine wpAny_bind (wpAny_holding (wpAny_pure ?_))
      refine wpAny_bind (wpAny_letGo ?_)
      show wpAny _ _ (if n < 0 then _ else _) _ _ _
      rw [if_neg (by omega)]
      show wpAny _ _ (if n ≥ 2 ^ 63 then _ else _) _ _ _
      rw [if_neg (by omega)]
      exact wpAny_bind (wpAny_mkInt (wpAny_pure ⟨_, rfl, _, _, rfl, hq⟩))
    exact wpAny_mono body (fun fin s' h' => by obtain ⟨r, rfl, hq⟩ := h'; exact hq) fun _ _ e => e
  refine wpAny_bind (m := runValue (.builtin "len" ⟨[.ref x], []⟩)) ?_
  refine wpAny_mono key (fun v s' hv => ?_) fun _ _ y => y
  obtain ⟨n, t, rfl, hq⟩ := hv
  exact wpAny_pure hq
end
end PySem.W

namespace Tz
open PySem L2 PyProof.Rows
section
variable {X : Cx} {p : Prm} {Wx : WX} {f : ESem} {e : Expr} {l : List ((Str × Str) × FSem)}
def rT (p : Prm) (l : List ((Str × Str) × FSem)) : V → Hp → (Bool → Hp → Prop) → Prop := fun x H Q => ∃ W st Hs u b, SOk p W H st ∧ RVr p Hs W H u x ∧ truthO l st u = some b ∧ ∀ W' H', Fut W H W' H' → SOk p W' H' st → Q b H'
theorem tru_okO (hK : p.K = X.K) (ok : SpsOk X p l) : TruR X (rT p l) := by
  intro pins s σ H x v Q I rx ⟨W, st, Hs, u, b, S, R, e, q⟩
  unfold truthO at e
  split at e
  · rename_i k ek
    injection e with e
    subst e
    exact tru_ok pins s σ H x v Q I rx ⟨_, hK ▸ tru_of S R ek, q W H Fut.refl S⟩
  · split at e
    · rename_i d _
      split at e
      · rename_i n en
        split at e
        · rename_i hn
          injection e with e
          subst e
          obtain ⟨c, ns, fs, F, ei, hm, eF⟩ := spec_some en
          have R : Rep p W H d x := R
          obtain ⟨a, dx, vs, rfl, hH, hr, hcm⟩ := insOf_ok (Hs := H) (x := .val d) S R ei
          obtain ⟨f, k1, k2, c0, c1, _⟩ := (ok _ _ hm).ex
          cases rx
          obtain ⟨mA, J, _⟩ := ins_get I.hok hH
          obtain ⟨od, J, _⟩ := J.look
          obtain ⟨m, hF⟩ := I.fr
          refine PySem.W.tz_truthL hF I.ok.mod.kin J (ok _ _ hm).nob k1 k2 ?_
          refine wpAny_mono (spec_run c1 I S R eF (Q := fun w H' => w = .int n ∧ Q (n != 0) H') fun W' H' w f' S' R' => ⟨R', q W' H' f' S'⟩) (fun w s' ⟨x', H', I', r', ex, q'⟩ => ?_) fun _ _ z => z
          subst ex
          obtain ⟨t, rfl⟩ := r'
          exact ⟨⟨hn.1, by omega⟩, n, _, rfl, H', I'.tok _, q'⟩
        · cases e
      · cases e
    · cases e
noncomputable def tValO (l : List ((Str × Str) × FSem)) (a : ESem) : TSem := fun r st => match a r st with
  | some (.ok x st1) => match truthO l st1 x with
    | some b => some (.ok b st1)
    | none => none
  | some (.exc x st1) => some (.exc x st1)
  | none => none
noncomputable def tValD : List ((Str × Str) × FSem) → ESem → TSem
  | [] => tVal
  | l => tValO l
theorem tvalO_weak {σ : L2.St} {H : Hp} {Q : Bool → Hp → Prop} (w : tT p Wx (tValO l f) σ H Q) : tE p Wx f σ H fun x H' => rT p l x H' Q := by
  obtain ⟨W0, H0, W, r, st, G, q⟩ := w
  unfold tValO at q
  refine tE_bind G (fun v st1 e1 W1 H1 x f1 S1 R1 G1 => ?_) (fun e st1 e1 => ?_) (fun z => ?_)
  · simp only [e1] at q
    cases ez : truthO l st1 v with
    | none => rw [ez] at q; exact q.elim
    | some b =>
      rw [ez] at q
      exact ⟨W1, st1, H, v, b, S1, R1, ez, fun W' H' f2 S2 => q W' H' (f1.trans f2) S2⟩
  · simp only [e1] at q
    exact q
  · simp only [z] at q
    exact q
theorem pt_truR {a : Expr} {ta : TE} {r : V → Hp → (Bool → Hp → Prop) → Prop} (ha : PE X a ta) (hr : TruR X r) (he : ∀ whole, isTrue a X.env whole = (do let v ← whole; standAt a.pos; holding [v] (truthy v))) :
    PT X a (fun σ H Q => ta σ H fun x H' => r x H' Q) :=
  ⟨fun pins s σ H Q I h => isTrue_plain (thn (ha.run pins s σ H _ I h) fun v s1 ⟨x, H1, I1, r1, q1⟩ => hr pins s1 σ H1 x v Q I1 r1 q1) (he _)⟩
theorem pt_valD (hK : p.K = X.K) (ok : SpsOk X p l) (ha : PE X e (tE p Wx f)) (he : ∀ whole, isTrue e X.env whole = (do let v ← whole; standAt e.pos; holding [v] (truthy v))) : PT X e (tT p Wx (tValD l f)) := by
  cases l with
  | nil => exact pt_valS hK ha he
  | cons a l => exact (pt_truR ha (tru_okO hK ok) he).weak fun _ _ _ => tvalO_weak
/-- not e as a value -/
theorem pe_notD {pos : Pos} (hK : p.K = X.K) (ok : SpsOk X p l) (ha : PE X e (tE p Wx f)) : PE X (.UnaryOp .Not e pos) (tE p Wx (eTest (tNotS (tValD l f)))) := by
  cases l with
  | nil => exact pe_notS hK ha
  | cons a l =>
    refine ⟨fun pins s σ H Q I h => ?_⟩
    have hr := tru_okO (X := X) (p := p) hK ok
    have h2 : tE p Wx f σ H fun x H' => rT p (a :: l) x H' fun b H' => Q (.bl (!b)) H' := by
      refine tvalO_weak ?_
      obtain ⟨W0, H0, W, r, st, G, q⟩ := h
      refine ⟨W0, H0, W, r, st, G, ?_⟩
      unfold eTest tNotS tValD at q
      dsimp only at q
      cases z : tValO (a :: l) f r st with
      | none => simp only [z] at q; exact q
      | some y =>
        simp only [z] at q
        cases y with
        | ok b st1 => exact fun W' H' f' S' => q W' H' _ f' S' rfl
        | exc x st1 => exact q
    refine PyProof.Rows.UnaryOp_ (thn (ha.run pins s σ H _ I h2) fun v s1 ⟨x, H1, I1, r1, q1⟩ => ?_)
    refine PyProof.Rows.not_of (wpAny_mono (hr pins s1 σ H1 x v _ I1 r1 q1) (fun b s2 ⟨H2, I2, q2⟩ => ?_) fun _ _ z => z)
    exact ⟨.bl (!b), H2, I2, rfl, q2⟩
end
/-- a special of class k.1, on these grounds with room k -/
def CallS (P : Program) (w : World) (K : PySem.W.Frag) (mg : Str → Option Value) (base : Heap) (j : Nat) (p : Prm) (k : Str × Str) (F : FSem) : Prop :=
  ∀ X : Cx, X.prog = P → X.w = w → X.K = K → X.mg = mg → X.base = base → Room j X.A → SpV X p k F
def CallM (P : Program) (w : World) (K : PySem.W.Frag) (mg : Str → Option Value) (base : Heap) (j : Nat) (p : Prm) (k : MKey) (F : FSem) : Prop :=
  ∀ X : Cx, X.prog = P → X.w = w → X.K = K → X.mg = mg → X.base = base → Room j X.A → MethV X p k F
noncomputable def lenD : List ((Str × Str) × FSem) → Store → RV → Option RV
  | [] => lenV
  | l => lenO l
theorem len_okD {X : Cx} {p : Prm} {l : List ((Str × Str) × FSem)} (hK : p.K = X.K) (ok : SpsOk X p l) : CallR X (.builtin "len") (rB1 p (lenD l)) := by
  cases l with
  | nil => exact len_ok hK
  | cons a l => exact len_okO hK ok
end Tz

set_option Elab.async false
set_option linter.all false
set_option maxRecDepth 100000
set_option maxHeartbeats 1000000
/-! Tv: in, not in, .index of trees; sums with a start, of tuples; turned about. -/
namespace Tz
open PySem L2 PyProof.Rows
section
variable {X : Cx} {p : Prm} {Wx : WX} {f g : ESem} {e o : Expr} {pos apos : Pos}
/-- the items of a list or a tuple, as a tree -/
def itD : D → Option (List D)
  | .lst xs => some xs
  | .tup xs => some xs
  | .rol xs => some xs
  | _ => none
def inV : Store → RV → RV → Option RV := fun st x y => match rslD st x, rslD st y with
  | some a, some b => match itD b with
    | some ys => if dOk 16 a = true ∧ dOk 16 b = true then some (.val (.bl (ys.any fun z => dEq z a))) else none
    | none => none
  | _, _ => none
def notInV : Store → RV → RV → Option RV := fun st x y => match inV st x y with
  | some (.val (.bl b)) => some (.val (.bl (!b)))
  | _ => none
theorem pds_any {a : PyData} : ∀ xs : List D, ((pds xs).any fun z => PyData.eqv z a) = xs.any fun z => PyData.eqv (pd z) a
  | [] => rfl
  | x :: xs => by
    show (PyData.eqv (pd x) a || ((pds xs).any fun z => PyData.eqv z a)) = _
    rw [pds_any xs]
    rfl
theorem inV_some {st : Store} {x y z : RV} (h : inV st x y = some z) : ∃ a b ys, rslD st x = some a ∧ rslD st y = some b ∧ itD b = some ys ∧ dOk 16 a = true ∧ dOk 16 b = true ∧ z = .val (.bl (ys.any fun z => dEq z a)) := by
  unfold inV at h
  split at h
  · rename_i a b ea eb
    split at h
    · rename_i ys ey
      split at h
      · rename_i hs
        injection h with h
        exact ⟨a, b, ys, ea, eb, ey, hs.1, hs.2, h.symm⟩
      · cases h
    · cases h
  · cases h
theorem canL {b : D} {zs : List PyData} (sb : dOk 16 b = true) (hz : pd b = .list zs ∨ pd b = .tuple zs) : PyData.canLayAll0 zs = true := by
  have sb' := dOk_shaped sb
  rcases hz with hz | hz
  · rw [hz] at sb'
    exact SeqAt.canLay_of_shaped sb'
  · rw [hz] at sb'
    exact SeqAt.canLay_of_shaped sb'
theorem in_core (hu : X.A.units + 65 < cLine) {pins : List (Addr × Obj)} {s : Shared} {σ : L2.St} {H : Hp} {x y : V} {v u : Value} {a b : D} {ys : List D} {Q : Value → Shared → Prop} (I : Inv X pins σ H s) (rx : RelV x v) (ry : RelV y u)
    (hx : Dp X.K H x (pd a)) (hy : Dp X.K H y (pd b)) (ey : itD b = some ys) (sa : dOk 16 a = true) (sb : dOk 16 b = true) (q : Q (.bool (ys.any fun z => dEq z a)) s) : wpAny (model X.prog X.w) X.A (compareOp .In v u) Q X.xe s := by
  obtain ⟨as, r1⟩ := Dp.reads I (pd a) x v hx rx
  obtain ⟨bs, r2⟩ := Dp.reads I (pd b) y u hy ry
  have sa' := dOk_shaped sa
  have sb' := dOk_shaped sb
  have q' : Q (.bool ((pds ys).any fun z => PyData.eqv z (pd a))) s := by rw [pds_any]; exact q
  cases b with
  | lst xs =>
    injection ey with ey
    subst ey
    exact SeqAt.in_list_reads r2 r1 (canL sb (.inl rfl)) (SeqAt.canLay_of_shaped sa') (room_in_shaped sa' hu) q'
  | rol xs =>
    injection ey with ey
    subst ey
    exact SeqAt.in_list_reads r2 r1 (canL sb (.inl rfl)) (SeqAt.canLay_of_shaped sa') (room_in_shaped sa' hu) q'
  | tup xs =>
    injection ey with ey
    subst ey
    exact SeqAt.in_tuple_reads r2 r1 (canL sb (.inr rfl)) (SeqAt.canLay_of_shaped sa') (room_in_shaped sa' hu) q'
  | _ => cases ey
theorem op_inV (hK : p.K = X.K) (hu : X.A.units + 65 < cLine) : OpR X (compareOp .In) (r2 p inV) := by
  intro pins s σ H x y v u Q I rx ry ⟨W, st, Hs, c, d, z, S, R1, R2, e, q⟩
  obtain ⟨a, b, ys, ea, eb, ey, sa, sb, rfl⟩ := inV_some e
  exact in_core hu I rx ry (hK ▸ rslD_ok S R1 ea sa) (hK ▸ rslD_ok S R2 eb sb) ey sa sb ⟨.bl _, H, I, rfl, q W H _ Fut.refl S rfl⟩
theorem notin_core (hu : X.A.units + 65 < cLine) {pins : List (Addr × Obj)} {s : Shared} {σ : L2.St} {H : Hp} {x y : V} {v u : Value} {a b : D} {ys : List D} {Q : Value → Shared → Prop} (I : Inv X pins σ H s) (rx : RelV x v) (ry : RelV y u)
    (hx : Dp X.K H x (pd a)) (hy : Dp X.K H y (pd b)) (ey : itD b = some ys) (sa : dOk 16 a = true) (sb : dOk 16 b = true) (q : Q (.bool (!ys.any fun z => dEq z a)) s) : wpAny (model X.prog X.w) X.A (compareOp .NotIn v u) Q X.xe s := by
  obtain ⟨as, r1⟩ := Dp.reads I (pd a) x v hx rx
  obtain ⟨bs, r2⟩ := Dp.reads I (pd b) y u hy ry
  have sa' := dOk_shaped sa
  have sb' := dOk_shaped sb
  have q' : Q (.bool (!(pds ys).any fun z => PyData.eqv z (pd a))) s := by rw [pds_any]; exact q
  cases b with
  | lst xs =>
    injection ey with ey
    subst ey
    exact SeqAt.notIn_list_reads r2 r1 (canL sb (.inl rfl)) (SeqAt.canLay_of_shaped sa') (room_in_shaped sa' hu) q'
  | rol xs =>
    injection ey with ey
    subst ey
    exact SeqAt.notIn_list_reads r2 r1 (canL sb (.inl rfl)) (SeqAt.canLay_of_shaped sa') (room_in_shaped sa' hu) q'
  | tup xs =>
    injection ey with ey
    subst ey
    exact SeqAt.notIn_tuple_reads r2 r1 (canL sb (.inr rfl)) (SeqAt.canLay_of_shaped sa') (room_in_shaped sa' hu) q'
  | _ => cases ey
theorem op_notInV (hK : p.K = X.K) (hu : X.A.units + 65 < cLine) : OpR X (compareOp .NotIn) (r2 p notInV) := by
  intro pins s σ H x y v u Q I rx ry ⟨W, st, Hs, c, d, z, S, R1, R2, e, q⟩
  unfold notInV at e
  split at e
  · rename_i k ek
    injection e with e
    subst e
    obtain ⟨a, b, ys, ea, eb, ey, sa, sb, ez⟩ := inV_some ek
    injection ez with ez
    injection ez with ez
    subst ez
    exact notin_core hu I rx ry (hK ▸ rslD_ok S R1 ea sa) (hK ▸ rslD_ok S R2 eb sb) ey sa sb ⟨.bl _, H, I, rfl, q W H _ Fut.refl S rfl⟩
  · cases e
/-! ### t.index(x) -/
def firstIx (a : D) : List D → Option Nat
  | [] => none
  | z :: zs => if dEq z a = true then some 0 else (firstIx a zs).map (· + 1)
theorem firstIx_some {a : D} : ∀ {zs : List D} {j : Nat}, firstIx a zs = some j → ∃ z, zs[j]? = some z ∧ dEq z a = true ∧ ∀ (m : Nat) z', m < j → zs[m]? = some z' → dEq z' a = false
  | [], j, h => by cases h
  | z :: zs, j, h => by
    unfold firstIx at h
    split at h
    · rename_i hz
      injection h with h
      subst h
      exact ⟨z, rfl, hz, fun m z' hm => absurd hm (Nat.not_lt_zero m)⟩
    · rename_i hz
      cases q : firstIx a zs with
      | none => rw [q] at h; cases h
      | some k =>
        rw [q] at h
        injection h with h
        subst h
        obtain ⟨w, h1, h2, h3⟩ := firstIx_some q
        refine ⟨w, h1, h2, fun m z' hm hz' => ?_⟩
        cases m with
        | zero =>
          injection hz' with hz'
          subst hz'
          simpa using hz
        | succ m => exact h3 m z' (by have : m + 1 < k + 1 := hm; omega) hz'
def indexV : Store → RV → RV → Option RV := fun st x y => match rslD st x, rslD st y with
  | some b, some a => match itD b with
    | some zs => if dOk 16 a = true ∧ dOk 16 b = true then (match firstIx a zs with
      | some j => some (.val (.int (j : Nat)))
      | none => none) else none
    | none => none
  | _, _ => none
theorem indexV_some {st : Store} {x y z : RV} (h : indexV st x y = some z) : ∃ b a zs j, rslD st x = some b ∧ rslD st y = some a ∧ itD b = some zs ∧ dOk 16 a = true ∧ dOk 16 b = true ∧ firstIx a zs = some j ∧ z = .val (.int (j : Nat)) := by
  unfold indexV at h
  split at h
  · rename_i b a eb ea
    split at h
    · rename_i zs ez
      split at h
      · rename_i hs
        split at h
        · rename_i j ej
          injection h with h
          exact ⟨b, a, zs, j, eb, ea, ez, hs.1, hs.2, ej, h.symm⟩
        · cases h
      · cases h
    · cases h
  · cases h
theorem pds_get : ∀ (zs : List D) (m : Nat), (pds zs)[m]? = (zs[m]?).map pd
  | [], m => by cases m <;> rfl
  | z :: zs, 0 => rfl
  | z :: zs, m + 1 => pds_get zs m
/-- a list that is no thing of the store -/
def seqTag : RV → Option Bool
  | .val (.lst _) => some true
  | .fresh (.lst _) => some true
  | .peek (.lst _) => some true
  | _ => none
def eIndex (a b : ESem) : ESem := fun r st => match a r st with
  | some (.ok x st1) => match seqTag x with
    | some _ => match b r st1 with
      | some (.ok y st2) => match indexV st2 x y with
        | some z => some (.ok z st2)
        | none => none
      | some (.exc e st2) => some (.exc e st2)
      | none => none
    | none => none
  | some (.exc e st1) => some (.exc e st1)
  | none => none
theorem tag_ty {W : Wd} {H Hs : Hp} {st : Store} {x : RV} {v : V} {k : Bool} (S : SOk p W H st) (h : RVr p Hs W H x v) (e : seqTag x = some k) : ∃ a vs, v = .ref a ∧ (k = true → SqL p.K H a vs) ∧ (k = false → False) := by
  unfold seqTag at e
  split at e
  · injection e with e
    subst e
    obtain ⟨a, vs, rfl, h1, h2⟩ := h.list S rfl
    exact ⟨a, vs, rfl, fun _ => h1, fun z => by cases z⟩
  · injection e with e
    subst e
    obtain ⟨a, vs, rfl, h1, h2⟩ := h.list S rfl
    exact ⟨a, vs, rfl, fun _ => h1, fun z => by cases z⟩
  · injection e with e
    subst e
    obtain ⟨a, vs, rfl, h1, h2⟩ := h.list S rfl
    exact ⟨a, vs, rfl, fun _ => h1, fun z => by cases z⟩
  · cases e
theorem tag_pd {st : Store} {x : RV} {k : Bool} {b : D} {zs : List D} (e : seqTag x = some k) (er : rslD st x = some b) (ez : itD b = some zs) : (k = true → pd b = .list (pds zs)) ∧ (k = false → pd b = .tuple (pds zs)) := by
  have one : ∀ xs : List D, rslD st x = some (.lst xs) → k = true → (k = true → pd b = .list (pds zs)) ∧ (k = false → pd b = .tuple (pds zs)) := by
    intro xs h hk
    rw [h] at er
    injection er with er
    subst er
    injection ez with ez
    subst ez
    exact ⟨fun _ => rfl, fun z => by rw [hk] at z; cases z⟩
  unfold seqTag at e
  split at e
  · injection e with e
    exact one _ rfl e.symm
  · injection e with e
    exact one _ rfl e.symm
  · injection e with e
    exact one _ rfl e.symm
  · cases e
theorem pe_indexS {cpos : Pos} (hK : p.K = X.K) (hu : X.A.units + 65 < cLine) (ho : PE X o (tE p Wx f)) (hn : notCall o = true) (he : PE X e (tE p Wx g)) (hs : notStar e = true) (hl : (apos.endLine == cpos.line) = true) :
    PE X (.Call (.Attribute o "index" apos) [e] [] cpos) (tE p Wx (eIndex f g)) := by
  have hst : starEach [e] X.env = (false, eval e X.env) :: starEach [] X.env := starEach_cons hs
  have hfew : ((backTo cpos (starEach [e] X.env)).all (fun x => !x.1) && (backToKw cpos (keywordEach [] X.env)).all (fun x => x.1.isSome)
      && decide ([e].length + ([] : List Keyword).length + (if ([] : List Keyword).isEmpty then 0 else 1) < 30)) = true := by
    rw [hst]
    rfl
  have hb : attributeBase o "index" X.env (eval o X.env) = eval o X.env := by
    cases o <;> first
      | rfl
      | cases hn
  have ha : PA X [e] (tCons (tE p Wx g) tNil) := pa_cons he pa_nil hst
  refine ⟨fun pins s σ H Q I h => ?_⟩
  have w : tE p Wx f σ H fun x H1 => ∃ k a vs0, x = V.ref a ∧ (k = true → SqL p.K H1 a vs0) ∧ (k = false → False) ∧ tE p Wx g σ H1 fun y H2 => ∃ b a' zs j, Dp p.K H2 x (pd b) ∧ Dp p.K H2 y (pd a') ∧ ((k = true → pd b = .list (pds zs)) ∧ (k = false → pd b = .tuple (pds zs))) ∧
      dOk 16 a' = true ∧ dOk 16 b = true ∧ firstIx a' zs = some j ∧ Q (.int (j : Nat)) H2 := by
    obtain ⟨W0, H0, W, r, st, G, q⟩ := h
    unfold eIndex at q
    refine tE_bind G (fun x st1 e1 W1 H1 v f1 S1 R1 G1 => ?_) (fun e st1 e1 => ?_) (fun z => ?_)
    · simp only [e1] at q
      cases ek : seqTag x with
      | none => simp only [ek] at q; exact q.elim
      | some k =>
        simp only [ek] at q
        obtain ⟨a, vs0, ev, t1, t2⟩ := tag_ty S1 R1 ek
        refine ⟨k, a, vs0, ev, t1, t2, tE_bind G1 (fun y st2 e2 W2 H2 w f2 S2 R2 G2 => ?_) (fun e st2 e2 W2 H2 c d f2 S2 R2 => ?_) (fun z => ?_)⟩
        · simp only [e2] at q
          cases ez : indexV st2 x y with
          | none => simp only [ez] at q; exact q.elim
          | some z =>
            simp only [ez] at q
            obtain ⟨b, a', zs, j, h1, h2, h3, h4, h5, h6, rfl⟩ := indexV_some ez
            exact ⟨b, a', zs, j, rslD_ok S2 (RVr.fut f2 S1 R1) h1 h5, rslD_ok S2 R2 h2 h4, tag_pd ek h1 h3, h4, h5, h6, q W2 H2 _ (f1.trans f2) S2 rfl⟩
        · simp only [e2] at q
          exact q W2 H2 c d (f1.trans f2) S2 R2
        · simp only [z] at q
          exact q.elim
    · simp only [e1] at q
      exact q
    · simp only [z] at q
      exact q
  have fin : ∀ {zs : List D} {a' : D} {j : Nat}, firstIx a' zs = some j → ∃ z, (pds zs)[j]? = some z ∧ PyData.eqv z (pd a') = true ∧ ∀ (m : Nat) (z' : PyData), m < j → (pds zs)[m]? = some z' → PyData.eqv z' (pd a') = false := by
    intro zs a' j hj
    obtain ⟨z, hz, hzj, hno⟩ := firstIx_some hj
    refine ⟨pd z, by rw [pds_get, hz]; rfl, hzj, fun m z' hm h => ?_⟩
    rw [pds_get] at h
    cases e : zs[m]? with
    | none => rw [e] at h; cases h
    | some w =>
      rw [e] at h
      injection h with h
      rw [← h]
      exact hno m w hm e
  refine wpAny_Call_method_late hb hfew hl rfl (thn (ho.run pins s σ H _ I w) fun v s1 ⟨x, H1, I1, r1, k, a, vs0, ev, t1, t2, q1⟩ => ?_)
  subst ev
  obtain rfl : v = Value.ref a := r1
  have q2 : tCons (tE p Wx g) tNil σ H1 fun ys H2 => ∃ y, ys = [y] ∧ ∃ b a' zs j, Dp p.K H2 (.ref a) (pd b) ∧ Dp p.K H2 y (pd a') ∧ ((k = true → pd b = .list (pds zs)) ∧ (k = false → pd b = .tuple (pds zs))) ∧
      dOk 16 a' = true ∧ dOk 16 b = true ∧ firstIx a' zs = some j ∧ Q (.int (j : Nat)) H2 := by
    obtain ⟨W0, H0, W, r, st, G, q⟩ := q1
    refine ⟨W0, H0, W, r, st, G, ?_⟩
    cases z : g r st with
    | none => rw [z] at q; exact q
    | some y =>
      rw [z] at q
      cases y with
      | ok y st1 => exact fun W' H' w f' S' R' => ⟨w, rfl, q W' H' w f' S' R'⟩
      | exc e st1 => exact q
  have go : ∀ id : String, (∀ (s2 : Shared) (H2 : Hp) (ys : List V) (us : List Value), Inv X pins σ H2 s2 → Vals ys us → (∃ y, ys = [y] ∧ ∃ b a' zs j, Dp p.K H2 (.ref a) (pd b) ∧ Dp p.K H2 y (pd a') ∧ ((k = true → pd b = .list (pds zs)) ∧ (k = false → pd b = .tuple (pds zs))) ∧
      dOk 16 a' = true ∧ dOk 16 b = true ∧ firstIx a' zs = some j ∧ Q (.int (j : Nat)) H2) → wpAny (model X.prog X.w) X.A (call (.builtin id) (.ref a :: us)) (EP X pins σ Q) X.xe s2) →
      wpAny (model X.prog X.w) X.A (callWith cpos (.builtin id) [.ref a] (backTo cpos (starEach [e] X.env)) []) (EP X pins σ Q) X.xe s1 := by
    intro id hq
    have hA := ha.run cpos pins s1 σ H1 _ I1 q2
    rw [hst] at hA ⊢
    refine Calls.callWith_builtin (by rfl) (Calls.evalArgs_plain ?_)
    exact thn hA fun us s2 ⟨ys, H2, I2, r2, q3⟩ => hq s2 H2 ys us I2 r2 q3
  cases k with
  | true =>
    obtain ⟨m1, m2⟩ := tyV_is (T := "list") I1 (x := .ref a) (v := .ref a) rfl (.inl ⟨rfl, vs0, hK ▸ t1 rfl⟩)
    refine ⟨"list", "list.index", PySem.F.plainAttrs_list, PySem.F.slot_list_index, PySem.F.type_list_index, m1, m2, go _ fun s2 H2 ys us I2 r2 ⟨y, ey, b, a', zs, j, d1, d2, d3, d4, d5, d6, q4⟩ => ?_⟩
    subst ey
    have e3 := d3.1 rfl
    rw [e3] at d1
    obtain ⟨z, h1, h2, h3⟩ := fin d6
    have sl := dOk_shaped d5
    rw [e3] at sl
    exact mt_indexD hu pins s2 σ H2 (.ref a) [y] (.ref a) us Q I2 rfl r2 ⟨a, y, _, _, j, z, rfl, rfl, hK ▸ d1, hK ▸ d2, sl, dOk_shaped d4, h1, h2, h3, q4⟩
  | false => exact (t2 rfl).elim
/-! ### is not None, is not True -/
def isntT : Store → RV → RV → Option RV := fun _ x y => match y.d with
  | .non => some (.val (.bl (!isN x.d)))
  | .bl b => match x.d with
    | .bl a => some (.val (.bl (!decide (a = b))))
    | _ => none
  | _ => none
theorem op_isntT : OpR X (compareOp .IsNot) (r2 p isntT) := by
  intro pins s σ H x y v u Q I rx ry ⟨W, st, Hs, a, b, z, S, R1, R2, e, q⟩
  unfold isntT at e
  split at e
  · rename_i ek
    injection e with e
    subst e
    exact op_notN pins s σ H _ _ v u Q I rx ry ⟨rvr_non R2 ek, by rw [isN_rep R1]; exact q W H _ Fut.refl S rfl⟩
  · rename_i c ec
    split at e
    · rename_i d ed
      injection e with e
      subst e
      have ex := rvr_bl R1 ed
      have ey := rvr_bl R2 ec
      subst ex ey
      cases (show v = Value.bool d from rx)
      cases (show u = Value.bool c from ry)
      have q' := q W H (.bl (!decide (d = c))) Fut.refl S rfl
      by_cases e : d = c
      · subst e
        exact wpAny_isNot_self rfl ⟨.bl false, H, I, rfl, by simpa using q'⟩
      · exact wpAny_isNot_other rfl (fun z => e (Value.bool.inj z)) ⟨.bl true, H, I, rfl, by simpa [e] using q'⟩
    · cases e
  · cases e
end
end Tz

set_option Elab.async false
set_option linter.all false
set_option maxRecDepth 100000
set_option maxHeartbeats 1000000
/-! Tx: sum of tuples, with a start of 0; in, not in by an own __eq__. -/
namespace PySem
open Sem (wp)
section
variable {prog : Program} {w : World} {A : Around} {E : Value → Shared → Prop} {s : Shared}
theorem tz_function_tree {id : String} {b : Builtin} {args : List Value} {kw : List (Str × Value)} {Q : Value → Shared → Prop} (hk : builtinKind id = none) (hp : plainId id = true)
    (hb : entryFor table id = some b) (ha : argsOk id ⟨args, kw⟩)
    (hc : wpAny (model prog w) A.in1 (b ⟨args, kw⟩) (fun fin s' => match fin with
      | .done f => (match (Except.ok f : Result) with | .ok (.ret v) => Q v s' | .ok _ => False | .error e => E e s')
      | .again c' => c'.quiet = true ∧ codeAny (model prog w) A c' (fun r s' => match r with | .ok (.ret v) => Q v s' | .ok _ => False | .error e => E e s') s') E s) :
    wpAny (model prog w) A (call (.builtin id) args kw) Q E s := by
  refine wpAny_call (codeAny_call_builtin hp hb ?_)
  simp only [checkBuiltinCall, hk]
  cases hsig : Manifest.signature? id with
  | none => exact wpAny_pure hc
  | some sig =>
    simp only [argsOk, hsig] at ha
    have h2 : Bind.checkArgs id sig ⟨args, kw⟩ = pure () := ha
    show wpAny _ A.in1 (Bind.checkArgs id sig ⟨args, kw⟩) _ _ s
    rw [h2]; exact wpAny_pure hc
theorem tz_args_sum0 (a b : Value) : argsOk "sum" ⟨[a], [(Str.ofString "start", b)]⟩ := by unfold argsOk; kernel_rfl
theorem tz_sum0_walkG {x : Value} {t0 : Tok} {Q : Value → Shared → Prop}
    (h : wpAny (model prog w) A.in1 (pyIter x) (fun it s₂ => ∃ I fp wr n P St val, it = .ref I ∧ Walks prog w A.in1 I fp wr n P St ∧ St 0 s₂.heap ∧ (∀ b ∈ fp, b < s₂.heap.objs.size) ∧
      (∀ i v, P i v → ∃ t, v = .int (val i) t) ∧
      ∀ h' tk t', (∀ b o, b ∉ wr → s₂.heap.get? b = some o → h'.get? b = some o) → Q (.int (preSum val n) t') { s₂ with heap := h', toks := tk }) E s) :
    wpAny (model prog w) A (call (.builtin "sum") [x] [(Str.ofString "start", .int 0 t0)]) Q E s := by
  refine tz_function_tree F.kind_sum F.plain_sum F.entry_sum (tz_args_sum0 _ _) ?_
  unfold Builtin.«sum»
  simp only [List.length_cons, List.length_nil]
  rw [if_neg (by decide)]
  refine wpAny_bind (wpAny_of_eq (show Builtin.Builtins.bindParams "sum" ["start"] 0 ⟨[], [(Str.ofString "start", .int 0 t0)]⟩ = pure [some (.int 0 t0)] from by first | rfl | kernel_rfl) ?_)
  refine wpAny_bind (wpAny_mono h (fun it s₂ h₂ => ?_) fun _ _ e => e)
  obtain ⟨I, fp, wr, n, P, St, val, rfl, W, hst, hfp, hval, hQ⟩ := h₂
  refine wpAny_bind (wpAny_bind (wpAny_rule ?_))
  refine wpAny_pure ?_
  refine wpAny_bind (wpAny_mkInt ?_)
  refine wpAny_bind (wpAny_pure ?_)
  simp only [List.forIn_cons, List.forIn_nil]
  refine wpAny_bind (wpAny_bind (wpAny_bind (wpAny_isInstance (T := "int") (b := false) (typeIs_int _ _ _) sub_int_str ?_)))
  simp only [Bool.false_eq_true, if_false]
  refine wpAny_pure (wpAny_bind (wpAny_bind (wpAny_isInstance (T := "int") (b := false) (typeIs_int _ _ _) sub_int_bytes ?_)))
  simp only [Bool.false_eq_true, if_false]
  refine wpAny_pure (wpAny_bind (wpAny_bind (wpAny_isInstance (T := "int") (b := false) (typeIs_int _ _ _) sub_int_bytearray ?_)))
  simp only [Bool.false_eq_true, if_false]
  refine wpAny_pure (wpAny_pure ?_)
  refine wpAny_bind (wpAny_newObj_type ?_)
  have hSf : s₂.heap.objs.size ∉ fp := fun hm => Nat.lt_irrefl _ (hfp _ hm)
  refine wpAny_pure ⟨plainId_quiet F.plain_sum_loop _, codeAny_sum_loopG W val hval s₂.heap.objs.size hSf n 0 _ s₂.toks 0 0 (Or.inl rfl) rfl (Nat.zero_le _)
    (W.frame _ _ _ hst fun b _ o e => Heap.get?_push_of_some _ e) (Heap.get?_push_size _ rfl) fun h' tk t' hk => ?_⟩
  exact hQ h' tk t' fun b o hbw e => hk b o hbw (Nat.ne_of_lt (Heap.lt_size e)) (Heap.get?_push_of_some _ e)
end
end PySem
namespace PySem
open Sem (wp) 
open PyProof.Rows
theorem tz_preSum {ns : List Int} : ∀ n : Nat, preSum (fun i => ns.getD i 0) n = (ns.take n).sum
  | 0 => by simp [preSum]
  | n + 1 => by
    show preSum (fun i => ns.getD i 0) n + ns.getD n 0 = _
    rw [tz_preSum n, List.take_succ, List.sum_append, List.getD_eq_getElem?_getD]
    cases h : ns[n]? with
    | none => simp
    | some v => simp
section
variable {prog : Program} {w : World} {A : Around} {E : Value → Shared → Prop} {s : Shared} {l : Addr} {its : List Value} {ns : List Int} {Q : Value → Shared → Prop}
theorem tz_val (hi : IntsAre its ns) : ∀ i v, its.toArray[i]? = some v → ∃ t, v = Value.int ((fun i => ns.getD i 0) i) t := fun i v e => by
  obtain ⟨n, t, rfl, hn⟩ := hi.at i v (by simpa using e)
  exact ⟨t, by simp [List.getD_eq_getElem?_getD, hn]⟩
theorem tz_iterT (hh : A.handled = none) (ht : s.heap.IsTuple l its.toArray) (hi : IntsAre its ns)
    (h : ∀ h' tk t', (∀ b o, s.heap.get? b = some o → h'.get? b = some o) → Q (.int ns.sum t') { s with heap := h', toks := tk }) :
    wpAny (model prog w) A.in1 (pyIter (.ref l)) (fun it s₂ => ∃ I fp wr n P St val, it = .ref I ∧ Walks prog w A.in1 I fp wr n P St ∧ St 0 s₂.heap ∧ (∀ b ∈ fp, b < s₂.heap.objs.size) ∧
      (∀ i v, P i v → ∃ t, v = .int (val i) t) ∧
      ∀ h' tk t', (∀ b o, b ∉ wr → s₂.heap.get? b = some o → h'.get? b = some o) → Q (.int (preSum val n) t') { s₂ with heap := h', toks := tk }) E s := by
  have hlt : l < s.heap.objs.size := by obtain ⟨_, e, _⟩ := ht; exact Heap.lt_size e
  refine wpAny_pyIter_tuple ht ⟨s.heap.objs.size, [s.heap.objs.size, l], [s.heap.objs.size], its.toArray.size, _, _, fun i => ns.getD i 0, rfl, Walks.tuple (A := A.in1) hh _ l (Nat.ne_of_lt hlt) its.toArray, ⟨⟨_, Heap.get?_push_size _ rfl, rfl, rfl⟩, ht.push _⟩, fun b hb => ?_, tz_val hi, fun h' tk t' hk => ?_⟩
  · show b < (s.heap.push _).objs.size
    rw [Heap.size_push]
    rcases List.mem_cons.mp hb with rfl | hb
    · exact Nat.lt_succ_self _
    · rcases List.mem_cons.mp hb with rfl | hb
      · exact Nat.lt_succ_of_lt hlt
      · cases hb
  · have := h h' tk t' fun b o e => hk b o (fun hm => by
      have hb := Heap.lt_size e
      rcases List.mem_cons.mp hm with rfl | hm
      · exact Nat.lt_irrefl _ hb
      · cases hm) (Heap.get?_push_of_some _ e)
    rw [tz_preSum, List.take_of_length_le (by have := hi.length; simp; omega)]
    exact this
theorem tz_iterL (hh : A.handled = none) (ht : s.heap.IsList l its.toArray) (hi : IntsAre its ns)
    (h : ∀ h' tk t', (∀ b o, s.heap.get? b = some o → h'.get? b = some o) → Q (.int ns.sum t') { s with heap := h', toks := tk }) :
    wpAny (model prog w) A.in1 (pyIter (.ref l)) (fun it s₂ => ∃ I fp wr n P St val, it = .ref I ∧ Walks prog w A.in1 I fp wr n P St ∧ St 0 s₂.heap ∧ (∀ b ∈ fp, b < s₂.heap.objs.size) ∧
      (∀ i v, P i v → ∃ t, v = .int (val i) t) ∧
      ∀ h' tk t', (∀ b o, b ∉ wr → s₂.heap.get? b = some o → h'.get? b = some o) → Q (.int (preSum val n) t') { s₂ with heap := h', toks := tk }) E s := by
  have hlt : l < s.heap.objs.size := by obtain ⟨_, e, _⟩ := ht; exact Heap.lt_size e
  refine wpAny_pyIter_list ht ⟨s.heap.objs.size, [s.heap.objs.size, l], [s.heap.objs.size], its.toArray.size, _, _, fun i => ns.getD i 0, rfl, Walks.list (A := A.in1) hh _ l (Nat.ne_of_lt hlt) its.toArray, ⟨⟨_, Heap.get?_push_size _ rfl, rfl, rfl⟩, ht.push _⟩, fun b hb => ?_, tz_val hi, fun h' tk t' hk => ?_⟩
  · show b < (s.heap.push _).objs.size
    rw [Heap.size_push]
    rcases List.mem_cons.mp hb with rfl | hb
    · exact Nat.lt_succ_self _
    · rcases List.mem_cons.mp hb with rfl | hb
      · exact Nat.lt_succ_of_lt hlt
      · cases hb
  · have := h h' tk t' fun b o e => hk b o (fun hm => by
      have hb := Heap.lt_size e
      rcases List.mem_cons.mp hm with rfl | hm
      · exact Nat.lt_irrefl _ hb
      · cases hm) (Heap.get?_push_of_some _ e)
    rw [tz_preSum, List.take_of_length_le (by have := hi.length; simp; omega)]
    exact this
end
end PySem
namespace Tz
open PySem L2 PyProof.Rows
/-- the whole numbers in a list or a tuple, added -/
def sumW : Store → RV → Option RV := fun st x => match x.d with
  | .tup xs => match intsOf xs with
    | some is => some (.val (.int is.sum))
    | none => none
  | _ => sumV st x
section
variable {X : Cx} {p : Prm}
theorem sumW_some {W : Wd} {H Hs : Hp} {st : Store} {x z : RV} {v : V} (S : SOk p W H st) (R : RVr p Hs W H x v) (e : sumW st x = some z) :
    ∃ (a : Addr) (is : List Int), v = .ref a ∧ z = .val (.int is.sum) ∧ (SqT p.K H a (is.map V.int) ∨ SqL p.K H a (is.map V.int)) := by
  unfold sumW at e
  split at e
  · rename_i ys ey
    split at e
    · rename_i is ei
      injection e with e
      subst e
      obtain ⟨a, vs, rfl, h1, h2⟩ := rvr_ref (st := st) R ey
      have hv := ints_rep h2 ei
      subst hv
      exact ⟨a, is, rfl, rfl, .inl h1⟩
    · cases e
  · unfold sumV at e
    split at e
    · rename_i ys ey
      split at e
      · rename_i is ei
        injection e with e
        subst e
        obtain ⟨a, vs, rfl, h1, h2⟩ := R.list S ey
        have hv := ints_rep h2 ei
        subst hv
        exact ⟨a, is, rfl, rfl, .inr h1⟩
      · cases e
    · cases e
theorem sumW_ok (hK : p.K = X.K) (hc : X.calm = true) : CallR X (.builtin "sum") (rB1 p sumW) := by
  intro pins s σ H xs us Q I r ⟨v, ev, W, st, Hs, u, z, S, R, e, q⟩
  subst ev
  obtain ⟨a, is, rfl, rfl, h | h⟩ := sumW_some S R e
  · obtain ⟨its, rv, ht, _⟩ := I.tuple (hK ▸ h)
    rw [Vals.ref1 r]
    exact call_sum_walkG (tz_iterT (I.ok.hd hc) ht rv.ints fun h' tk t' hk => ⟨.int _, H, I.kept hk, ⟨_, rfl⟩, q W H _ Fut.refl S rfl⟩)
  · obtain ⟨its, rv, ht, _⟩ := I.list (hK ▸ h)
    rw [Vals.ref1 r]
    exact call_sum_walkG (tz_iterL (I.ok.hd hc) ht.isList rv.ints fun h' tk t' hk => ⟨.int _, H, I.kept hk, ⟨_, rfl⟩, q W H _ Fut.refl S rfl⟩)
/-- sum(xs, start=0) -/
def rS0 (p : Prm) : List V → List V → Hp → VK → Prop := fun vs zs H Q => zs = [.int 0] ∧ rB1 p sumW vs H Q
theorem sum0_ok (hK : p.K = X.K) (hc : X.calm = true) : CallRK X (.builtin "sum") [Str.ofString "start"] (rS0 p) := by
  intro pins s σ H xs zs us ws Q I r rz ⟨ez, v, ev, W, st, Hs, u, z, S, R, e, q⟩
  subst ev ez
  obtain ⟨w1, rfl, e1⟩ := vals1 rz
  obtain ⟨t0, rfl⟩ : ∃ t0, w1 = Value.int 0 t0 := e1
  obtain ⟨a, is, rfl, rfl, h | h⟩ := sumW_some S R e
  · obtain ⟨its, rv, ht, _⟩ := I.tuple (hK ▸ h)
    rw [Vals.ref1 r]
    exact tz_sum0_walkG (tz_iterT (I.ok.hd hc) ht rv.ints fun h' tk t' hk => ⟨.int _, H, I.kept hk, ⟨_, rfl⟩, q W H _ Fut.refl S rfl⟩)
  · obtain ⟨its, rv, ht, _⟩ := I.list (hK ▸ h)
    rw [Vals.ref1 r]
    exact tz_sum0_walkG (tz_iterL (I.ok.hd hc) ht.isList rv.ints fun h' tk t' hk => ⟨.int _, H, I.kept hk, ⟨_, rfl⟩, q W H _ Fut.refl S rfl⟩)
variable {Wx : WX} {pos pp : Pos} {f : ESem} {e : Expr}
def sum0Of (kws : List Keyword) : Bool := match kws with
  | [⟨some n, .Constant (.int 0) _ _, _⟩] => decide (n = Str.ofString "start")
  | _ => false
theorem sum0_weak {σ : L2.St} {H : Hp} {Q : VK} (w : tE p Wx (eOp1 sumW f) σ H Q) : tCKw (rS0 p) (tCons (tE p Wx f) tNil) (tCons (tC (.int 0)) tNil) σ H Q := by
  have q := op1_weak w
  obtain ⟨W0, H0, W, r, st, G, q⟩ := q
  refine ⟨W0, H0, W, r, st, G, ?_⟩
  cases z : f r st with
  | none => rw [z] at q; exact q.elim
  | some y =>
    rw [z] at q
    cases y with
    | ok v st1 => exact fun W1 H1 x f1 S1 R1 => ⟨rfl, x, rfl, q W1 H1 x f1 S1 R1⟩
    | exc e st1 => exact q
theorem pe_sum0 {x : Str} {kws : List Keyword} (hK : p.K = X.K) (hc : X.calm = true) (hg : Gl X x) (hm : X.mg x = none) (hx : x = "sum") (hk : sum0Of kws = true) (ha : PE X e (tE p Wx f)) (hs : notStar e = true) :
    PE X (.Call (.Name x pp) [e] kws pos) (tE p Wx (eOp1 sumW f)) := by
  unfold sum0Of at hk
  split at hk
  · rename_i n k1 k2 k3
    have hk := of_decide_eq_true hk
    subst hk hx
    exact (pe_callBK (ks := [Str.ofString "start"]) (sum0_ok hK hc) hg hm (by decide +kernel) (pa_cons ha pa_nil (starEach_cons hs)) (pk_cons pe_int pk_nil) (by decide) (by decide) (by rw [starEach_cons hs]; rfl) (by rw [starEach_cons hs]; rfl) rfl rfl rfl).weak fun _ _ _ => sum0_weak
  · cases hk
end
end Tz

set_option Elab.async false
set_option linter.all false
set_option maxRecDepth 100000
set_option maxHeartbeats 1000000
/-! Ty: in, not in by an own __eq__. -/
namespace Tzi
open PySem PySem.SeqAt
open AutoSeq1 (wpAny_loadPart')
open MeetsSeq MeetsSeq2 MeetsSeq3 SeqRoads2
open GQ (FinOf)
section
variable {prog : Program} {w : World} {A : Around} {R : Result → Shared → Prop}
/-- what a turn of the search tells -/
abbrev Turn (R : Result → Shared → Prop) (I : Shared → Prop) : Bool → Shared → Prop := fun r s' => match r with
  | true => R (.ok (.ret (.bool true))) s'
  | false => I s'
theorem in_loop (l : Addr) (x : Value) (N : Nat) (I : Nat → Shared → Prop)
    (turn : ∀ i s, I i s → ∃ items : Array Value, s.heap.IsList l items ∧ items.size = N ∧ ∀ h : i < items.size, wpAny (model prog w) A.in1 (eqBool items[i] x) (Turn R (I (i + 1))) (fun e s' => R (.error e) s') s)
    (no : ∀ s, I N s → R (.ok (.ret (.bool false))) s) (k : Nat) :
    ∀ i : Nat, N - i = k → i ≤ N → ∀ s, I i s → wpAny (model prog w) A.in1 (Builtin.«list.__contains__.loop» ⟨[.ref l, x, rawInt i], []⟩) (FinOf prog w A R) (fun e s' => R (.error e) s') s := by
  induction k with
  | zero =>
    intro i hk hi s h
    obtain ⟨items, ⟨⟨cls, dd, data, sl⟩, ho, hc, n, hd⟩, hs, _⟩ := turn _ _ h
    simp only at hc hd
    subst hc hd
    have hi' : i = N := by omega
    have hR : R (.ok (.ret (.bool false))) s := no s (hi' ▸ h)
    obtain ⟨hp, g, d, tk, os⟩ := s
    wp_walk using wpAny_loadPart' ho
    have hi1 : items[((i : Nat) : Int).toNat]? = none := by simp; omega
    rw [hi1]
    wp_walk
    exact hR
  | succ k ih =>
    intro i hk hi s h
    obtain ⟨items, ⟨⟨cls, dd, data, sl⟩, ho, hc, n, hd⟩, hs, ht⟩ := turn _ _ h
    simp only at hc hd
    subst hc hd
    have hlt : i < items.size := by omega
    have ht := ht hlt
    obtain ⟨hp, g, d, tk, os⟩ := s
    wp_walk using wpAny_loadPart' ho
    have hi1 : items[((i : Nat) : Int).toNat]? = some items[i] := by simp [hlt]
    rw [hi1]
    refine wpAny_bind (wpAny_mono ht (fun r s2 h2 => ?_) fun _ _ x => x)
    cases r with
    | true =>
      wp_walk
      exact h2
    | false =>
      have hrec := ih (i + 1) (by omega) (by omega) s2 h2
      have hc : ((i : Int) + 1) = ((i + 1 : Nat) : Int) := by omega
      wp_walk
      rw [hc]
      exact ⟨plainId_quiet plain_contains_loop _, codeAny_builtin entry_contains_loop (by
        rw [Around.under_plainId plain_contains_loop _]
        exact hrec)⟩
theorem in_list (l : Addr) (x : Value) (N : Nat) (I : Nat → Shared → Prop)
    (turn : ∀ i s, I i s → ∃ items : Array Value, s.heap.IsList l items ∧ items.size = N ∧ ∀ h : i < items.size, wpAny (model prog w) A.in1 (eqBool items[i] x) (Turn R (I (i + 1))) (fun e s' => R (.error e) s') s)
    (no : ∀ s, I N s → R (.ok (.ret (.bool false))) s) {s : Shared} (h : I 0 s) :
    wpAny (model prog w) A.in1 (Builtin.«list.__contains__» ⟨[.ref l, x], []⟩) (FinOf prog w A R) (fun e s' => R (.error e) s') s := by
  obtain ⟨items, ⟨⟨cls, dd, data, sl⟩, ho, hc, n, hd⟩, hs, _⟩ := turn _ _ h
  simp only at hc hd
  subst hc hd
  have hrec := in_loop (A := A) (R := R) l x N I turn no _ 0 rfl (Nat.zero_le _) s h
  obtain ⟨hp, g, d, tk, os⟩ := s
  wp_walk using wpAny_loadPart' ho
  exact ⟨plainId_quiet plain_contains_loop _, codeAny_builtin entry_contains_loop (by
    rw [Around.under_plainId plain_contains_loop _]
    exact hrec)⟩
theorem in_tup (l : Addr) (items : Array Value) (x : Value) (I : Nat → Shared → Prop)
    (turn : ∀ i s, I i s → ∀ h : i < items.size, wpAny (model prog w) A.in1 (eqBool items[i] x) (Turn R (I (i + 1))) (fun e s' => R (.error e) s') s)
    (no : ∀ s, I items.size s → R (.ok (.ret (.bool false))) s) {s : Shared} (hl : s.heap.IsTuple l items) (h : I 0 s) :
    wpAny (model prog w) A.in1 (Builtin.«tuple.__contains__» ⟨[.ref l, x], []⟩) (FinOf prog w A R) (fun e s' => R (.error e) s') s := by
  obtain ⟨⟨cls, dd, data, sl⟩, ho, hc, n, hd⟩ := id hl
  simp only at hc hd
  subst hc hd
  have h0 := h
  obtain ⟨hp, g, d, tk, os⟩ := s
  wp_walk using wpAny_loadPart' ho, wpAny_forIn_array _ (fun rest b s' => b.1 = none ∧ ∃ i, rest = items.toList.drop i ∧ i ≤ items.size ∧ I i s') _
  case turn =>
    rintro y rest b s' ⟨hb', i, hz, hi, hI⟩
    have hlt : i < items.size := by
      rcases Nat.lt_or_ge i items.size with h' | h'
      · exact h'
      · rw [List.drop_of_length_le (by simpa using h')] at hz; cases hz
    have hl' : i < items.toList.length := by simpa using hlt
    rw [List.drop_eq_getElem_cons hl'] at hz
    injection hz with hyx hrest
    have hy : y = items[i] := by simpa using hyx
    subst hy
    refine wpAny_bind (wpAny_mono (turn i s' hI hlt) (fun r s2 q2 => ?_) fun _ _ x => x)
    cases r with
    | true =>
      wp_walk
      first
        | exact q2
        | exact ⟨_, rfl, by simpa using q2⟩
    | false =>
      wp_walk
      exact ⟨rfl, i + 1, hrest, hlt, q2⟩
  case fin =>
    rintro ⟨b1, b2⟩ s' ⟨hb', i, hz, hi, hI⟩
    simp only at hb'
    subst hb'
    have hge : items.size ≤ i := by
      rcases Nat.lt_or_ge i items.size with h' | h'
      · rw [List.drop_eq_getElem_cons (by simpa using h')] at hz; cases hz
      · exact h'
    have hi' : i = items.size := by omega
    have hR : R (.ok (.ret (.bool false))) s' := no s' (hi' ▸ hI)
    wp_walk
    first
      | exact hR
      | exact ⟨_, rfl, by simpa using hR⟩
  case h =>
    exact ⟨rfl, 0, rfl, Nat.zero_le _, h0⟩
end
section
variable {prog : Program} {w : World} {A : Around} {E : Value → Shared → Prop} {s : Shared}
/-- == inside a builtin, the left one a reference, the right one another value -/
theorem eqBool_G {l : Addr} {u : Value} {Q : Bool → Shared → Prop} (hne : Value.ref l ≠ u) (h : wpAny (model prog w) A (richCompare .Eq (.ref l) u) (fun v s' => ∃ r, v = .bool r ∧ Q r s') E s) : wpAny (model prog w) A (eqBool (.ref l) u) Q E s := by
  unfold eqBool
  refine wpAny_holding ?_
  refine wpAny_ite_split (fun hab => absurd (eq_of_beq hab) hne) (fun _ => ?_)
  refine wpAny_bind (wpAny_mono h (fun v s' hv => ?_) fun _ _ x => x)
  obtain ⟨r, rfl, q⟩ := hv
  exact wpAny_truthy_bool q
theorem op_in_list {l : Addr} {x : Value} {N : Nat} {res : Bool} {Q : Value → Shared → Prop} (I : Nat → Shared → Prop)
    (turn : ∀ i s, I i s → ∃ items : Array Value, s.heap.IsList l items ∧ items.size = N ∧ ∀ h : i < items.size, wpAny (model prog w) A.in1 (eqBool items[i] x) (Turn (wants (fun v s' => ∃ b, v = .bool b ∧ Q (.bool b) s') E) (I (i + 1))) E s)
    (no : ∀ s, I N s → Q (.bool false) s) (h : I 0 s) : wpAny (model prog w) A (compareOp .In x (.ref l)) Q E s := by
  obtain ⟨items, ⟨o, ho, hc, n, hd⟩, _⟩ := id (turn _ _ h)
  show wpAny _ A (do return .bool (← contains (.ref l) x)) Q E s
  refine wpAny_bind (wpAny_contains_slot ⟨_, ho, hc⟩ F.slot_list_contains (wpAny_mono (GQ.call_here F.slot_list_contains ⟨_, ho, hc⟩ F.entry_list_contains (F.args_list_contains_2 _ _)
    (in_list (R := wants (fun v s' => ∃ b, v = .bool b ∧ Q (.bool b) s') E) l x N I turn (fun s q => ⟨false, rfl, no s q⟩) h)) (fun v s' hv => ?_) fun _ _ e => e))
  obtain ⟨b, rfl, hq⟩ := hv
  exact wpAny_truthy_bool (wpAny_pure hq)
theorem op_notIn_list {l : Addr} {x : Value} {N : Nat} {res : Bool} {Q : Value → Shared → Prop} (I : Nat → Shared → Prop)
    (turn : ∀ i s, I i s → ∃ items : Array Value, s.heap.IsList l items ∧ items.size = N ∧ ∀ h : i < items.size, wpAny (model prog w) A.in1 (eqBool items[i] x) (Turn (wants (fun v s' => ∃ b, v = .bool b ∧ Q (.bool (!b)) s') E) (I (i + 1))) E s)
    (no : ∀ s, I N s → Q (.bool true) s) (h : I 0 s) : wpAny (model prog w) A (compareOp .NotIn x (.ref l)) Q E s := by
  obtain ⟨items, ⟨o, ho, hc, n, hd⟩, _⟩ := id (turn _ _ h)
  show wpAny _ A (do return .bool (!(← contains (.ref l) x))) Q E s
  refine wpAny_bind (wpAny_contains_slot ⟨_, ho, hc⟩ F.slot_list_contains (wpAny_mono (GQ.call_here F.slot_list_contains ⟨_, ho, hc⟩ F.entry_list_contains (F.args_list_contains_2 _ _)
    (in_list (R := wants (fun v s' => ∃ b, v = .bool b ∧ Q (.bool (!b)) s') E) l x N I turn (fun s q => ⟨false, rfl, no s q⟩) h)) (fun v s' hv => ?_) fun _ _ e => e))
  obtain ⟨b, rfl, hq⟩ := hv
  exact wpAny_truthy_bool (wpAny_pure hq)
theorem op_in_tup {l : Addr} {items : Array Value} {x : Value} {Q : Value → Shared → Prop} (I : Nat → Shared → Prop)
    (turn : ∀ i s, I i s → ∀ h : i < items.size, wpAny (model prog w) A.in1 (eqBool items[i] x) (Turn (wants (fun v s' => ∃ b, v = .bool b ∧ Q (.bool b) s') E) (I (i + 1))) E s)
    (no : ∀ s, I items.size s → Q (.bool false) s) (hl : s.heap.IsTuple l items) (h : I 0 s) : wpAny (model prog w) A (compareOp .In x (.ref l)) Q E s := by
  show wpAny _ A (do return .bool (← contains (.ref l) x)) Q E s
  refine wpAny_bind (wpAny_contains_slot hl.typeIs F.slot_tuple_contains (wpAny_mono (GQ.call_here F.slot_tuple_contains hl.typeIs F.entry_tuple_contains (F.args_tuple_contains_2 _ _)
    (in_tup (R := wants (fun v s' => ∃ b, v = .bool b ∧ Q (.bool b) s') E) l items x I turn (fun s q => ⟨false, rfl, no s q⟩) hl h)) (fun v s' hv => ?_) fun _ _ e => e))
  obtain ⟨b, rfl, hq⟩ := hv
  exact wpAny_truthy_bool (wpAny_pure hq)
theorem op_notIn_tup {l : Addr} {items : Array Value} {x : Value} {Q : Value → Shared → Prop} (I : Nat → Shared → Prop)
    (turn : ∀ i s, I i s → ∀ h : i < items.size, wpAny (model prog w) A.in1 (eqBool items[i] x) (Turn (wants (fun v s' => ∃ b, v = .bool b ∧ Q (.bool (!b)) s') E) (I (i + 1))) E s)
    (no : ∀ s, I items.size s → Q (.bool true) s) (hl : s.heap.IsTuple l items) (h : I 0 s) : wpAny (model prog w) A (compareOp .NotIn x (.ref l)) Q E s := by
  show wpAny _ A (do return .bool (!(← contains (.ref l) x))) Q E s
  refine wpAny_bind (wpAny_contains_slot hl.typeIs F.slot_tuple_contains (wpAny_mono (GQ.call_here F.slot_tuple_contains hl.typeIs F.entry_tuple_contains (F.args_tuple_contains_2 _ _)
    (in_tup (R := wants (fun v s' => ∃ b, v = .bool b ∧ Q (.bool (!b)) s') E) l items x I turn (fun s q => ⟨false, rfl, no s q⟩) hl h)) (fun v s' hv => ?_) fun _ _ e => e))
  obtain ⟨b, rfl, hq⟩ := hv
  exact wpAny_truthy_bool (wpAny_pure hq)
end
end Tzi
namespace Tz
open PySem L2 PyProof.Rows
/-- a tuple of whole numbers -/
def flatT : D → Bool
  | .tup xs => (intsOf xs).isSome
  | _ => false
/-- two things told apart: they stand at two places -/
def apartD : D → D → Prop
  | .ins c ns fs, .ins c' ns' gs => D.ins c ns fs ≠ .ins c' ns' gs ∧ c = c' ∧ ns = ns' ∧ fs.length = ns.length ∧ gs.length = ns.length ∧ fs.all flatT = true ∧ gs.all flatT = true
  | _, .int _ => True
  | _, .bl _ => True
  | _, .non => True
  | _, .str _ => True
  | _, _ => False
open Classical in
/-- the items one by one, each by its own __eq__ -/
noncomputable def inEq (eqs : List (Str × FSem)) (st : Store) (d : D) : List D → Option Bool
  | [] => some false
  | .ins c ns fs :: zs => match lookE eqs c with
    | some F => match tgD st d with
      | some _ => match F [.ins c ns fs, d] st with
        | some (.ret (.val (.bl b)) st2) => if st2 = st then (if b = true then some true else if apartD (.ins c ns fs) d then inEq eqs st d zs else none) else none
        | _ => none
      | none => none
    | none => none
  | _ :: _ => none
theorem ints_back : ∀ {xs : List D} {is : List Int}, intsOf xs = some is → xs = is.map D.int
  | [], is, e => by
    injection e with e
    subst e
    rfl
  | x :: xs, is, e => by
    cases x with
    | int i =>
      have e : (match intsOf xs with
        | some is => some (i :: is)
        | none => none) = some is := e
      split at e
      · rename_i js ej
        injection e with e
        subst e
        rw [ints_back ej]
        rfl
      · cases e
    | _ => cases e
section
variable {X : Cx} {p : Prm} {eqs : List (Str × FSem)} {pins : List (Addr × Obj)} {σ : L2.St} {H : Hp} {s : Shared} {W : Wd}
theorem flat_inj (hK : p.K = X.K) (I : Inv X pins σ H s) {f g : D} {v : V} (hf : flatT f = true) (hg : flatT g = true) (r1 : Rep p W H f v) (r2 : Rep p W H g v) : f = g := by
  unfold flatT at hf hg
  split at hf
  · rename_i xs
    split at hg
    · rename_i ys
      obtain ⟨is, e1⟩ := Option.isSome_iff_exists.mp hf
      obtain ⟨js, e2⟩ := Option.isSome_iff_exists.mp hg
      obtain ⟨a, vs, rfl, h1, h2⟩ := r1
      obtain ⟨a', vs', e, h1', h2'⟩ := r2
      injection e with e
      subst e
      have := I.tuple_inj (hK ▸ h1) (hK ▸ h1')
      subst this
      have q1 := ints_rep h2 e1
      have q2 := ints_rep h2' e2
      have : is = js := by
        have q := q1.symm.trans q2
        exact (List.map_inj_right (fun a b (h : V.int a = V.int b) => by injection h)).mp q
      subst this
      rw [ints_back e1, ints_back e2]
    · cases hg
  · cases hf
theorem flats_inj (hK : p.K = X.K) (I : Inv X pins σ H s) : ∀ {fs gs : List D} {vs : List V}, fs.all flatT = true → gs.all flatT = true → RepL p W H fs vs → RepL p W H gs vs → fs = gs
  | [], [], vs, _, _, _, _ => rfl
  | [], g :: gs, vs, _, _, h1, h2 => by
    obtain ⟨v, r, rfl, _⟩ := h2
    cases h1
  | f :: fs, [], vs, _, _, h1, h2 => by
    obtain ⟨v, r, rfl, _⟩ := h1
    cases h2
  | f :: fs, g :: gs, vs, k1, k2, h1, h2 => by
    rw [List.all_cons, Bool.and_eq_true] at k1 k2
    obtain ⟨v, r, rfl, a1, b1⟩ := h1
    obtain ⟨v', r', e, a2, b2⟩ := h2
    injection e with e1 e2
    subst e1 e2
    rw [flat_inj hK I k1.1 k2.1 a1 a2, flats_inj hK I k1.2 k2.2 b1 b2]
theorem apart_ne (hK : p.K = X.K) (I : Inv X pins σ H s) {z d : D} {v w : V} (ha : apartD z d) (r1 : Rep p W H z v) (r2 : Rep p W H d w) (hz : ∃ c ns fs, z = .ins c ns fs) : v ≠ w := by
  obtain ⟨c, ns, fs, rfl⟩ := hz
  intro e
  subst e
  obtain ⟨ad, dx, vs, rfl, _, hH, hr, _⟩ := r1
  cases d with
  | ins c' ns' gs =>
    obtain ⟨hne, rfl, rfl, l1, l2, f1, f2⟩ := ha
    obtain ⟨ad', dx', vs', e, _, hH', hr', _⟩ := r2
    injection e with e
    subst e
    rw [hH] at hH'
    injection hH' with hH'
    injection hH' with _ _ hz
    have m1 := hr.length
    have m2 := hr'.length
    have q := congrArg (List.map Prod.snd) hz
    rw [List.map_snd_zip (by omega), List.map_snd_zip (by omega)] at q
    subst q
    exact hne (by rw [flats_inj hK I f1 f2 hr hr'])
  | int i => exact absurd (show V.ref ad = V.int i from r2) (by intro h; cases h)
  | bl i => exact absurd (show V.ref ad = V.bl i from r2) (by intro h; cases h)
  | non => exact absurd (show V.ref ad = V.non from r2) (by intro h; cases h)
  | str i => exact absurd (show V.ref ad = V.str i from r2) (by intro h; cases h)
  | _ => exact ha.elim
theorem inEq_cons {st : Store} {d z : D} {zs : List D} {res : Bool} (h : inEq eqs st d (z :: zs) = some res) : ∃ c ns fs F t b, z = .ins c ns fs ∧ (c, F) ∈ eqs ∧ tgD st d = some t ∧ F [z, d] st = some (.ret (.val (.bl b)) st) ∧
    ((b = true ∧ res = true) ∨ (b = false ∧ apartD z d ∧ inEq eqs st d zs = some res)) := by
  unfold inEq at h
  split at h
  · cases ‹_ :: _ = []›
  · rename_i c ns fs zs' ez
    injection ez with e1 e2
    subst e1 e2
    split at h
    · rename_i F eF
      split at h
      · rename_i t et
        split at h
        · rename_i b st2 eb
          split at h
          · rename_i hst
            subst hst
            refine ⟨c, ns, fs, F, t, b, rfl, lookE_mem eF, et, eb, ?_⟩
            split at h
            · rename_i hb
              injection h with h
              exact .inl ⟨hb, h.symm⟩
            · rename_i hb
              split at h
              · rename_i ha
                exact .inr ⟨by simpa using hb, ha, h⟩
              · cases h
          · cases h
        · cases h
      · cases h
    · cases h
  · cases h
/-- what stands between the turns -/
def JIn (X : Cx) (p : Prm) (pins : List (Addr × Obj)) (σ : L2.St) (W : Wd) (H : Hp) (st : Store) (s' : Shared) : Prop := ∃ W' H', Inv X pins σ H' s' ∧ Fut W H W' H' ∧ SOk p W' H' st
theorem turn_in (hc : CsOk p) (hK : p.K = X.K) (hu : X.A.in1.units < cLine) (he : EqOk X p eqs) {st : Store} {d z : D} {zs : List D} {res : Bool} (h : inEq eqs st d (z :: zs) = some res) {vz vd : V} {u v : Value} (I : Inv X pins σ H s) (S : SOk p W H st)
    (Rz : Rep p W H z vz) (Rd : Rep p W H d vd) (rz : RelV vz u) (rd : RelV vd v) :
    wpAny (model X.prog X.w) X.A.in1 (eqBool u v) (fun r s' => (r = true ∧ res = true ∧ JIn X p pins σ W H st s') ∨ (r = false ∧ inEq eqs st d zs = some res ∧ JIn X p pins σ W H st s')) X.xe s := by
  obtain ⟨c, ns, fs, F, t, b, rfl, hm, ht, eF, hr⟩ := inEq_cons h
  obtain ⟨ad, dx, vs, rfl, _, hH, _, hcm⟩ := id Rz
  cases rz
  by_cases e : Value.ref ad = v
  · subst e
    have ev := rd.inj (show RelV (.ref ad) (.ref ad) from rfl)
    subst ev
    refine SeqAt.EqAt.same (A := X.A.in1) (s := s) (.ref ad) X.prog X.w X.xe _ (.inl ⟨rfl, ?_, W, H, I, Fut.refl, S⟩)
    rcases hr with ⟨_, hr⟩ | ⟨_, ha, _⟩
    · exact hr
    · exact absurd rfl (apart_ne hK I ha Rz Rd ⟨_, _, _, rfl⟩)
  · obtain ⟨f, hs, hf, cu, cu1, ho⟩ := he.eq c F hm
    have ty := tgD_tyX (Hs := H) (x := .val d) hc S Rd ht
    obtain ⟨P, Z, pP, _⟩ := kit_of I rd (hK ▸ ty)
    obtain ⟨mA, J, _⟩ := ins_get I.hok hH
    obtain ⟨od, J, _⟩ := J.look
    obtain ⟨m, hF⟩ := I.fr
    have hn := not_first (t := t) hc hcm fun d' e' => by
      subst e'
      obtain ⟨_, _, _, _, _, hm⟩ := tgD_ins (Hs := H) (x := .val d) S Rd ht
      exact hm
    refine Tzi.eqBool_G e ?_
    refine PySem.W.cmp_K (op := .Eq) (tb := tgV p t) hu hF I.ok.mod.kin J (Z.ty _ _ I.kIn pP) (hK ▸ hn) hs hf ?_
    refine wpAny_mono (cu1 (fun _ _ _ _ => False) pins σ H s (fun w H' => w = .bl b ∧ ∃ W', Fut W H W' H' ∧ SOk p W' H' st) [.ref ad, v] [.ref ad, vd] no_passes I (.cons rfl (.cons rd .nil)) rfl
      ⟨W, st, [.ins c ns fs, d], S, ⟨_, _, rfl, Rz, _, _, rfl, Rd, rfl⟩, ?_⟩) (fun w s' ⟨x', H', I', r', ex, W', f', S'⟩ => ?_) fun _ _ z => z
    · rw [eF]
      intro W' H' x' f' S' R'
      exact ⟨R', W', f', S'⟩
    · subst ex
      cases r'
      refine ⟨b, rfl, ?_⟩
      rcases hr with ⟨hb, hr⟩ | ⟨hb, _, hr⟩
      · exact .inl ⟨hb, hr, W', H', I', f', S'⟩
      · exact .inr ⟨hb, hr, W', H', I', f', S'⟩
/-- the items of a list or a tuple -/
def itV (st : Store) (y : RV) : Option (List D) := match y.d with
  | .tup xs => some xs
  | _ => asL st y
theorem drop_get {α : Type} {l : List α} {i : Nat} (h : i < l.length) : ∃ z, l[i]? = some z ∧ l.drop i = z :: l.drop (i + 1) := ⟨l[i], List.getElem?_eq_getElem h, List.drop_eq_getElem_cons h⟩
theorem in_core2 (hc : CsOk p) (hK : p.K = X.K) (hu : X.A.in1.units < cLine) (he : EqOk X p eqs) {st : Store} {d : D} {y : RV} {ys : List D} {res : Bool} {Hs : Hp} {vd vy : V} {v u : Value} {Q : Value → Shared → Prop} (I : Inv X pins σ H s) (S : SOk p W H st)
    (Rd : Rep p W H d vd) (Ry : RVr p Hs W H y vy) (rd : RelV vd v) (ry : RelV vy u) (ey : itV st y = some ys) (h : inEq eqs st d ys = some res) :
    (∀ Q : Value → Shared → Prop, (∀ s', JIn X p pins σ W H st s' → Q (.bool res) s') → wpAny (model X.prog X.w) X.A (compareOp .In v u) Q X.xe s) ∧
    (∀ Q : Value → Shared → Prop, (∀ s', JIn X p pins σ W H st s' → Q (.bool (!res)) s') → wpAny (model X.prog X.w) X.A (compareOp .NotIn v u) Q X.xe s) := by
  have one : ∀ {W' : Wd} {H' : Hp} {s' : Shared} {z : D} {zs : List D} {vz : V} {uz : Value} {G : Bool → Prop} {R : Result → Shared → Prop} {N : Shared → Prop}, Inv X pins σ H' s' → Fut W H W' H' → SOk p W' H' st → inEq eqs st d (z :: zs) = some res → Rep p W' H' z vz → RelV vz uz →
      (∀ s2, res = true → JIn X p pins σ W H st s2 → R (.ok (.ret (.bool true))) s2) → (∀ s2, inEq eqs st d zs = some res → JIn X p pins σ W H st s2 → N s2) →
      wpAny (model X.prog X.w) X.A.in1 (eqBool uz v) (Tzi.Turn R N) X.xe s' := by
    intro W' H' s' z zs vz uz G R N I' f' S' hi Rz rz y1 y2
    refine wpAny_mono (turn_in hc hK hu he hi I' S' Rz (Rep.fut f' S d vd Rd) rz rd) (fun r s2 q => ?_) fun _ _ z => z
    rcases q with ⟨rfl, hr, W2, H2, I2, f2, S2⟩ | ⟨rfl, hr, W2, H2, I2, f2, S2⟩
    · exact y1 s2 hr ⟨W2, H2, I2, f'.trans f2, S2⟩
    · exact y2 s2 hr ⟨W2, H2, I2, f'.trans f2, S2⟩
  have fin : ∀ {n : Nat}, n = ys.length → inEq eqs st d (ys.drop n) = some res → res = false := by
    intro n hn hi
    subst hn
    rw [List.drop_length] at hi
    unfold inEq at hi
    injection hi with hi
    exact hi.symm
  unfold itV at ey
  split at ey
  · rename_i xs ex
    injection ey with ey
    subst ey
    obtain ⟨a, vs, rfl, h1, h2⟩ := rvr_ref (st := st) Ry ex
    cases ry
    obtain ⟨its, rv, ht, _⟩ := I.tuple (hK ▸ h1)
    have hsz : its.toArray.size = xs.length := by rw [List.size_toArray, ← rv.length, h2.length]
    have turn : ∀ (R : Result → Shared → Prop) (_ : ∀ s2, res = true → JIn X p pins σ W H st s2 → R (.ok (.ret (.bool true))) s2), ∀ i s', (JIn X p pins σ W H st s' ∧ inEq eqs st d (xs.drop i) = some res) → ∀ hh : i < its.toArray.size,
        wpAny (model X.prog X.w) X.A.in1 (eqBool its.toArray[i] v) (Tzi.Turn R fun s' => JIn X p pins σ W H st s' ∧ inEq eqs st d (xs.drop (i + 1)) = some res) X.xe s' := by
      intro R y1 i s' ⟨⟨W', H', I', f', S'⟩, hi⟩ hh
      obtain ⟨z, hz, hd⟩ := drop_get (l := xs) (i := i) (by omega)
      rw [hd] at hi
      obtain ⟨vz, hvz, Rz⟩ := h2.get hz
      obtain ⟨uz, huz, rz⟩ := rv.get hvz
      have hu' : its.toArray[i] = uz := by
        have h1' : i < its.length := by simpa using hh
        rw [List.getElem?_eq_getElem h1'] at huz
        simpa using huz
      rw [hu']
      exact one (G := fun _ => True) I' f' S' hi (Rep.fut f' S z vz Rz) rz y1 fun s2 hr J => ⟨J, hr⟩
    refine ⟨fun Q q => ?_, fun Q q => ?_⟩
    · refine Tzi.op_in_tup (fun i s' => JIn X p pins σ W H st s' ∧ inEq eqs st d (xs.drop i) = some res) (turn _ fun s2 hr J => ⟨true, rfl, hr ▸ q s2 J⟩) (fun s' ⟨J, hi⟩ => ?_) ht ⟨⟨W, H, I, Fut.refl, S⟩, h⟩
      have := q s' J
      rw [fin hsz hi] at this
      exact this
    · refine Tzi.op_notIn_tup (fun i s' => JIn X p pins σ W H st s' ∧ inEq eqs st d (xs.drop i) = some res) (turn _ fun s2 hr J => ⟨true, rfl, hr ▸ q s2 J⟩) (fun s' ⟨J, hi⟩ => ?_) ht ⟨⟨W, H, I, Fut.refl, S⟩, h⟩
      have := q s' J
      rw [fin hsz hi] at this
      exact this
  · obtain ⟨a, vs, rfl, h1, h2⟩ := Ry.list S ey
    cases ry
    have turn : ∀ (R : Result → Shared → Prop) (_ : ∀ s2, res = true → JIn X p pins σ W H st s2 → R (.ok (.ret (.bool true))) s2), ∀ i s', (JIn X p pins σ W H st s' ∧ inEq eqs st d (ys.drop i) = some res) → ∃ items : Array Value, s'.heap.IsList a items ∧ items.size = ys.length ∧ ∀ hh : i < items.size,
        wpAny (model X.prog X.w) X.A.in1 (eqBool items[i] v) (Tzi.Turn R fun s' => JIn X p pins σ W H st s' ∧ inEq eqs st d (ys.drop (i + 1)) = some res) X.xe s' := by
      intro R y1 i s' ⟨⟨W', H', I', f', S'⟩, hi⟩
      obtain ⟨a', vs', ea, h1, h2⟩ := (RVr.fut f' S Ry).list S' ey
      injection ea with ea
      subst ea
      obtain ⟨its, rv, ht, _⟩ := I'.list (hK ▸ h1)
      have hsz : its.toArray.size = ys.length := by rw [List.size_toArray, ← rv.length, h2.length]
      refine ⟨its.toArray, ht.isList, hsz, fun hh => ?_⟩
      obtain ⟨z, hz, hd⟩ := drop_get (l := ys) (i := i) (by omega)
      rw [hd] at hi
      obtain ⟨vz, hvz, Rz⟩ := h2.get hz
      obtain ⟨uz, huz, rz⟩ := rv.get hvz
      have hu' : its.toArray[i] = uz := by
        have h1' : i < its.length := by simpa using hh
        rw [List.getElem?_eq_getElem h1'] at huz
        simpa using huz
      rw [hu']
      exact one (G := fun _ => True) I' f' S' hi Rz rz y1 fun s2 hr J => ⟨J, hr⟩
    refine ⟨fun Q q => ?_, fun Q q => ?_⟩
    · refine Tzi.op_in_list (res := res) (fun i s' => JIn X p pins σ W H st s' ∧ inEq eqs st d (ys.drop i) = some res) (turn _ fun s2 hr J => ⟨true, rfl, hr ▸ q s2 J⟩) (fun s' ⟨J, hi⟩ => ?_) ⟨⟨W, H, I, Fut.refl, S⟩, h⟩
      have := q s' J
      rw [fin rfl hi] at this
      exact this
    · refine Tzi.op_notIn_list (res := res) (fun i s' => JIn X p pins σ W H st s' ∧ inEq eqs st d (ys.drop i) = some res) (turn _ fun s2 hr J => ⟨true, rfl, hr ▸ q s2 J⟩) (fun s' ⟨J, hi⟩ => ?_) ⟨⟨W, H, I, Fut.refl, S⟩, h⟩
      have := q s' J
      rw [fin rfl hi] at this
      exact this
/-- in, where the items may be instances with an own __eq__ -/
noncomputable def inO (eqs : List (Str × FSem)) : Store → RV → RV → Option RV := fun st x y => match inV st x y with
  | some z => some z
  | none => match x with
    | .val d => match itV st y with
      | some ys => match inEq eqs st d ys with
        | some b => some (.val (.bl b))
        | none => none
      | none => none
    | _ => none
noncomputable def notInO (eqs : List (Str × FSem)) : Store → RV → RV → Option RV := fun st x y => match inO eqs st x y with
  | some (.val (.bl b)) => some (.val (.bl (!b)))
  | _ => none
theorem inO_some {st : Store} {x y z : RV} (e : inO eqs st x y = some z) : inV st x y = some z ∨ ∃ d ys b, x = .val d ∧ itV st y = some ys ∧ inEq eqs st d ys = some b ∧ z = .val (.bl b) := by
  unfold inO at e
  split at e
  · rename_i w ew
    exact .inl (ew.trans e)
  · right
    split at e
    · split at e
      · rename_i ys ey
        split at e
        · rename_i b eb
          injection e with e
          exact ⟨_, ys, b, rfl, ey, eb, e.symm⟩
        · cases e
      · cases e
    · cases e
theorem op_inO (hc : CsOk p) (hK : p.K = X.K) (hu : X.A.units + 65 < cLine) (he : EqOk X p eqs) : OpR X (compareOp .In) (r2 p (inO eqs)) := by
  intro pins s σ H x y v u Q I rx ry ⟨W, st, Hs, c, d, z, S, R1, R2, e, q⟩
  rcases inO_some e with e | ⟨d', ys, b, rfl, ey, eb, rfl⟩
  · exact op_inV hK hu pins s σ H x y v u Q I rx ry ⟨W, st, Hs, c, d, z, S, R1, R2, e, q⟩
  · refine (in_core2 (Q := fun _ _ => True) hc hK (by show X.A.units + 1 < cLine; omega) he I S R1 R2 rx ry ey eb).1 _ fun s' ⟨W', H', I', f', S'⟩ => ?_
    exact ⟨.bl b, H', I', rfl, q W' H' _ f' S' rfl⟩
theorem op_notInO (hc : CsOk p) (hK : p.K = X.K) (hu : X.A.units + 65 < cLine) (he : EqOk X p eqs) : OpR X (compareOp .NotIn) (r2 p (notInO eqs)) := by
  intro pins s σ H x y v u Q I rx ry ⟨W, st, Hs, c, d, z, S, R1, R2, e, q⟩
  unfold notInO at e
  split at e
  · rename_i k ek
    injection e with e
    subst e
    rcases inO_some ek with e | ⟨d', ys, b, rfl, ey, eb, ez⟩
    · exact op_notInV hK hu pins s σ H x y v u Q I rx ry ⟨W, st, Hs, c, d, _, S, R1, R2, by unfold notInV; rw [e], q⟩
    · injection ez with ez
      injection ez with ez
      subst ez
      refine (in_core2 (Q := fun _ _ => True) hc hK (by show X.A.units + 1 < cLine; omega) he I S R1 R2 rx ry ey eb).2 _ fun s' ⟨W', H', I', f', S'⟩ => ?_
      exact ⟨.bl (!k), H', I', rfl, q W' H' _ f' S' rfl⟩
  · cases e
/-- in and not in by the def's own table of __eq__ -/
noncomputable def inD : List (Str × FSem) → Store → RV → RV → Option RV
  | [] => inV
  | l => inO l
noncomputable def notInD : List (Str × FSem) → Store → RV → RV → Option RV
  | [] => notInV
  | l => notInO l
theorem op_inD' (hc : CsOk p) (hK : p.K = X.K) (hu : X.A.units + 65 < cLine) (he : EqOk X p eqs) : OpR X (compareOp .In) (r2 p (inD eqs)) := by
  cases eqs with
  | nil => exact op_inV hK hu
  | cons a l => exact op_inO hc hK hu he
theorem op_notInD' (hc : CsOk p) (hK : p.K = X.K) (hu : X.A.units + 65 < cLine) (he : EqOk X p eqs) : OpR X (compareOp .NotIn) (r2 p (notInD eqs)) := by
  cases eqs with
  | nil => exact op_notInV hK hu
  | cons a l => exact op_notInO hc hK hu he
end
end Tz

set_option Elab.async false
set_option linter.all false
set_option maxRecDepth 100000
set_option maxHeartbeats 4000000
/-! Ts8: the text read into combinators, and that the reading is right. -/
namespace Tz
open PySem L2 PyProof.Rows

/-- what is known of a def's names: its slots, its scope, what module names do when called, constants, built-ins that stand -/
structure Cfg where
  N : List Str
  sc : Scope
  calls : List ((Str × Nat × List Str) × FSem)
  consts : List (Str × D)
  blt : List Str
  cel : Bool := true
  box : Bool := false
  own : List Str := []
  fl : List (Str × List Str) := []
  eqs : List (Str × FSem) := []
  sps : List ((Str × Str) × FSem) := []
  mts : List (MKey × FSem) := []
def ixIn (x : Str) : List Str → Option Nat
  | [] => none
  | y :: ys => if y = x then some 0 else (ixIn x ys).map (· + 1)
theorem ixIn_get {x : Str} : ∀ {l : List Str} {i : Nat}, ixIn x l = some i → l[i]? = some x
  | [], i, h => by cases h
  | y :: ys, i, h => by
    unfold ixIn at h
    split at h
    · rename_i e
      injection h with h
      subst h e
      rfl
    · cases q : ixIn x ys with
      | none => rw [q] at h; cases h
      | some j =>
        rw [q] at h
        injection h with h
        subst h
        show ys[j]? = some x
        exact ixIn_get q
def okNm (x : Str) : Bool := !(x == ("__debug__" : Str)) && !(x == ("__classdict__" : Str)) && !decide (x = ("__name__" : Str))
theorem okNm_d {x : Str} (h : okNm x = true) : (x == ("__debug__" : Str)) = false ∧ (x == ("__classdict__" : Str)) = false ∧ x ≠ "__name__" := by
  unfold okNm at h
  simp only [Bool.and_eq_true, Bool.not_eq_true', decide_eq_false_iff_not] at h
  exact ⟨h.1.1, h.1.2, h.2⟩
/-- the slot of a name that is read -/
def slotOf (c : Cfg) (x : Str) : Option Nat := match c.sc.names.lookup x with
  | some .local => if okNm x = true then ixIn x c.N else none
  | some .cell => if okNm x = true then ixIn x c.N else none
  | some .free => if okNm x = true then ixIn x c.N else none
  | _ => none
/-- the slot of a name that is stored -/
def slotSt (c : Cfg) (x : Str) : Option Nat := match c.sc.names.lookup x with
  | some .local => ixIn x c.N
  | some .cell => if c.cel = true then ixIn x c.N else none
  | _ => none
def isGl (c : Cfg) (x : Str) : Bool := decide (c.sc.names.lookup x = some .globalImplicit) && okNm x
def lookC : List ((Str × Nat × List Str) × FSem) → Str → Nat → List Str → Option FSem
  | [], _, _, _ => none
  | (k, F) :: r, x, n, ks => if k = (x, n, ks) then some F else lookC r x n ks
theorem lookC_mem {x : Str} {n : Nat} {ks : List Str} {F : FSem} : ∀ {l : List ((Str × Nat × List Str) × FSem)}, lookC l x n ks = some F → ((x, n, ks), F) ∈ l
  | [], h => by cases h
  | (k, G) :: r, h => by
    unfold lookC at h
    split at h
    · rename_i e
      injection h with h
      subst h e
      exact List.mem_cons_self
    · exact List.mem_cons_of_mem _ (lookC_mem h)
def lookK : List (Str × D) → Str → Option D
  | [], _ => none
  | (k, d) :: r, x => if k = x then some d else lookK r x
theorem lookK_mem {x : Str} {d : D} : ∀ {l : List (Str × D)}, lookK l x = some d → (x, d) ∈ l
  | [], h => by cases h
  | (k, e) :: r, h => by
    unfold lookK at h
    split at h
    · rename_i q
      injection h with h
      subst h q
      exact List.mem_cons_self
    · exact List.mem_cons_of_mem _ (lookK_mem h)

def lookA : List (Str × List Str) → Str → Option (List Str)
  | [], _ => none
  | (k, d) :: r, x => if k = x then some d else lookA r x
theorem lookA_mem {x : Str} {d : List Str} : ∀ {l : List (Str × List Str)}, lookA l x = some d → (x, d) ∈ l
  | [], h => by cases h
  | (k, e) :: r, h => by
    unfold lookA at h
    split at h
    · rename_i q
      injection h with h
      subst h q
      exact List.mem_cons_self
    · exact List.mem_cons_of_mem _ (lookA_mem h)
/-- a module's name called, in every context of these grounds with room k -/
def CallF (P : Program) (w : World) (K : PySem.W.Frag) (mg : Str → Option Value) (base : Heap) (k : Nat) (p : Prm) (x : Str) (np : Nat) (ks : List Str) (F : FSem) : Prop :=
  ∀ X : Cx, X.prog = P → X.w = w → X.K = K → X.mg = mg → X.base = base → Room k X.A → CallOk X p x np ks F
structure COk (c : Cfg) (X : Cx) (p : Prm) (Wx : WX) : Prop where
  hK : p.K = X.K
  N : X.N = c.N
  sc : X.env.scope = c.sc
  nd : c.N.Nodup
  calm : X.calm = true
  tk : Takes X Wx
  kind : c.sc.kind = .function
  calls : ∀ x n ks F, ((x, n, ks), F) ∈ c.calls → ∃ k, Room k X.A ∧ CallF X.prog X.w X.K X.mg X.base k p x n ks F
  consts : ∀ x d, (x, d) ∈ c.consts → ∃ v u, X.mg x = some u ∧ RelV v u ∧ ∀ W H, Rep p W H d v
  blt : ∀ x, x ∈ c.blt → X.mg x = none
  hu : X.A.units + 128 < cLine
  cs : CsOk p
  eqs : ∃ k, Room k X.A ∧ ∀ x F, (x, F) ∈ c.eqs → CallE X.prog X.w X.K X.mg X.base k p x F
  sps : ∃ k, Room k X.A ∧ ∀ x F, (x, F) ∈ c.sps → CallS X.prog X.w X.K X.mg X.base k p x F
  mts : ∃ k, Room k X.A ∧ ∀ x F, (x, F) ∈ c.mts → CallM X.prog X.w X.K X.mg X.base k p x F
  cls : ∀ x, x ∈ c.own → X.mg x = some (.ref (p.cS x)) ∧ x ∈ p.cls
  fl : ∀ f l, (f, l) ∈ c.fl → ∀ k, k ∈ l → k ∈ p.cls → NoAttr X.K (p.cS k) f
  fn : c.cel = true → ∀ x, X.fn x = true
  own : c.cel = true → PassesOwn (model X.prog X.w) X.A X.env X.xe
section
variable {c : Cfg} {X : Cx} {p : Prm} {Wx : WX} {x : Str} {pos pp : Pos}
theorem COk.gl (h : COk c X p Wx) (g : isGl c x = true) : Gl X x ∧ okNm x = true := by
  unfold isGl at g
  rw [Bool.and_eq_true] at g
  refine ⟨?_, g.2⟩
  show X.env.scope.names.lookup x = some .globalImplicit
  rw [h.sc]
  exact of_decide_eq_true g.1
theorem COk.slot (h : COk c X p Wx) {i : Nat} (e : slotOf c x = some i) : PE X (.Name x pos) (tVar i) := by
  have key : ∀ k : NameKind, c.sc.names.lookup x = some k → (k = .local ∨ k = .cell ∨ k = .free) → (if okNm x = true then ixIn x c.N else none) = some i → PE X (.Name x pos) (tVar i) := by
    intro k hk ho e
    split at e
    · rename_i hn
      refine pe_var (by rw [h.N]; exact ixIn_get e) ?_ (okNm_d hn).1 (okNm_d hn).2.1
      unfold Vis
      rw [h.sc, hk]
      rcases ho with rfl | rfl | rfl
      · exact .inl rfl
      · exact .inr (.inl rfl)
      · exact .inr (.inr rfl)
    · cases e
  unfold slotOf at e
  split at e
  · rename_i hk; exact key _ hk (.inl rfl) e
  · rename_i hk; exact key _ hk (.inr (.inl rfl)) e
  · rename_i hk; exact key _ hk (.inr (.inr rfl)) e
  · cases e
theorem COk.stores (h : COk c X p Wx) {i : Nat} (e : slotSt c x = some i) : X.N[i]? = some x ∧ Loc X.env.scope x ∧ (X.fn x = true ∨ X.env.scope.names.lookup x = some .local) := by
  unfold slotSt at e
  split at e
  · rename_i hk
    exact ⟨by rw [h.N]; exact ixIn_get e, .inl (by rw [h.sc]; exact hk), .inr (by rw [h.sc]; exact hk)⟩
  · rename_i hk
    split at e
    · rename_i hc
      exact ⟨by rw [h.N]; exact ixIn_get e, .inr (by rw [h.sc]; exact hk), .inl (h.fn hc x)⟩
    · cases e
  · cases e
end

/-! ### operators -/
def binF : Operator → Option (Store → RV → RV → Option RV)
  | .Add => some addV | .Sub => some subV | .Mult => some mulT | .FloorDiv => some divV | .Mod => some modV | .Pow => some powV
  | .RShift => some shrV | .LShift => some shlV | .BitAnd => some andV
  | _ => none
theorem binF_ok {X : Cx} {p : Prm} (hK : p.K = X.K) {op : Operator} {fn : Store → RV → RV → Option RV} (h : binF op = some fn) : OpR X (binaryOp op) (r2 p fn) := by
  cases op <;> first
    | (cases h; done)
    | (injection h with h; subst h; first | exact op_addV hK | exact op_subV | exact op_mulT hK | exact op_divV | exact op_modV | exact op_powV | exact op_shrV | exact op_shlV | exact op_andV)
noncomputable def cmpF (eqs : List (Str × FSem)) : CmpOp → Option (Store → RV → RV → Option RV)
  | .Eq => some (eqD eqs) | .NotEq => some (neD eqs) | .Lt => some ltV | .LtE => some leV | .Gt => some gtV | .GtE => some geV | .Is => some isT | .IsNot => some isntT | .In => some (inD eqs) | .NotIn => some (notInD eqs)
theorem cmpF_ok {X : Cx} {p : Prm} {eqs : List (Str × FSem)} (hc : CsOk p) (hK : p.K = X.K) (hu : X.A.units + 128 < cLine) (he : EqOk X p eqs) {op : CmpOp} {fn : Store → RV → RV → Option RV} (h : cmpF eqs op = some fn) : OpR X (compareOp op) (r2 p fn) := by
  cases op <;> first
    | (cases h; done)
    | (injection h with h; subst h; first | exact op_eqD' hc hK (by omega) he | exact op_neD' hc hK (by omega) he | exact op_inD' hc hK (by omega) he | exact op_notInD' hc hK (by omega) he | exact op_ltI | exact op_leI | exact op_gtI | exact op_geI | exact op_isT | exact op_isntT)
def augF : Operator → Option (Store → RV → RV → Option RV)
  | .Mult => some imulV
  | _ => none
theorem augF_ok {X : Cx} {p : Prm} {op : Operator} {fn : Store → RV → RV → Option RV} (h : augF op = some fn) : OpR X (inplaceOp op) (r2 p fn) := by
  cases op <;> first
    | (cases h; done)
    | (injection h with h; subst h; exact op_imulV)
def negV : Store → RV → Option RV := fun _ x => match x.d with
  | .int i => some (.val (.int (-i)))
  | _ => none
theorem un_negV {X : Cx} {p : Prm} : UnR X (unaryOp .USub) (r1 p negV) := by
  intro pins s σ H x v Q I rx ⟨W, st, Hs, u, z, S, R, e, q⟩
  unfold negV at e
  split at e
  · rename_i i ei
    injection e with e
    subst e
    exact un_neg pins s σ H x v Q I rx ⟨i, rvr_int R ei, q W H _ Fut.refl S rfl⟩
  · cases e
noncomputable def bltF (sps : List ((Str × Str) × FSem)) (x : Str) : Option (String × (Store → RV → Option RV)) :=
  if x = "len" then some ("len", lenD sps) else if x = "abs" then some ("abs", absV) else if x = "all" then some ("all", allV) else if x = "any" then some ("any", anyV) else if x = "sum" then some ("sum", sumW) else none
def tyF (x : Str) : Option (String × (Store → RV → Option RV)) :=
  if x = "int" then some ("int", intV) else if x = "tuple" then some ("tuple", tupV) else if x = "list" then some ("list", listV) else none
def blt2F (x : Str) : Option (String × (Store → RV → RV → Option RV)) :=
  if x = "max" then some ("max", max2V) else if x = "min" then some ("min", min2V) else none
theorem bltF_ok {X : Cx} {p : Prm} {sps : List ((Str × Str) × FSem)} (hK : p.K = X.K) (ok : SpsOk X p sps) (hc : X.calm = true) {x : Str} {id : String} {fn : Store → RV → Option RV} (h : bltF sps x = some (id, fn)) : CallR X (.builtin id) (rB1 p fn) ∧ bootBuiltins x = some (.builtin id) := by
  unfold bltF at h
  split at h
  · rename_i e; injection h with h; injection h with h1 h2; subst h1 h2 e; exact ⟨len_okD hK ok, by decide +kernel⟩
  · split at h
    · rename_i e; injection h with h; injection h with h1 h2; subst h1 h2 e; exact ⟨abs_ok, by decide +kernel⟩
    · split at h
      · rename_i e; injection h with h; injection h with h1 h2; subst h1 h2 e; exact ⟨all_ok hK hc, by decide +kernel⟩
      · split at h
        · rename_i e; injection h with h; injection h with h1 h2; subst h1 h2 e; exact ⟨any_ok hK hc, by decide +kernel⟩
        · split at h
          · rename_i e; injection h with h; injection h with h1 h2; subst h1 h2 e; exact ⟨sumW_ok hK hc, by decide +kernel⟩
          · cases h
theorem tyF_ok {X : Cx} {p : Prm} (hK : p.K = X.K) {x : Str} {id : String} {fn : Store → RV → Option RV} (h : tyF x = some (id, fn)) : CallR X (.type id) (rB1 p fn) ∧ bootBuiltins x = some (.type id) := by
  unfold tyF at h
  split at h
  · rename_i e; injection h with h; injection h with h1 h2; subst h1 h2 e; exact ⟨int_ok, by decide +kernel⟩
  · split at h
    · rename_i e; injection h with h; injection h with h1 h2; subst h1 h2 e; exact ⟨tup_ok hK, by decide +kernel⟩
    · split at h
      · rename_i e; injection h with h; injection h with h1 h2; subst h1 h2 e; exact ⟨list_ok hK, by decide +kernel⟩
      · cases h
theorem blt2F_ok {X : Cx} {p : Prm} (hc : X.calm = true) {x : Str} {id : String} {fn : Store → RV → RV → Option RV} (h : blt2F x = some (id, fn)) : CallR X (.builtin id) (rB2 p fn) ∧ bootBuiltins x = some (.builtin id) := by
  unfold blt2F at h
  split at h
  · rename_i e; injection h with h; injection h with h1 h2; subst h1 h2 e; exact ⟨max2_ok hc, by decide +kernel⟩
  · split at h
    · rename_i e; injection h with h; injection h with h1 h2; subst h1 h2 e; exact ⟨min2_ok hc, by decide +kernel⟩
    · cases h
def tyOf (x : Str) : Option Ty :=
  if x = "int" then some .int else if x = "bool" then some .bl else if x = "str" then some .str else if x = "tuple" then some .tup else if x = "list" then some .lst else if x = "dict" then some .dct else none
theorem tyOf_ok {x : Str} {T : Ty} (h : tyOf x = some T) : T ≠ .non ∧ bootBuiltins x = some (.type T.name) := by
  unfold tyOf at h
  repeat (split at h; (rename_i e; injection h with h; subst h e; exact ⟨by decide, by decide +kernel⟩))
  cases h

/-! ### expressions -/
def denC : Const → ESem
  | .int i => eC (.int i)
  | .bool b => eC (.bl b)
  | .none => eC .non
  | .str s => eC (.str s)
  | _ => eStuck
def denAndL : List ESem → ESem
  | [] => eStuck
  | [a] => a
  | a :: as => eAndS a (denAndL as)
def denOrL : List ESem → ESem
  | [] => eStuck
  | [a] => a
  | a :: as => eOrS a (denOrL as)
def denAndT : List TSem → TSem
  | [] => tStuck
  | [a] => a
  | a :: as => tAndS a (denAndT as)
def denOrT : List TSem → TSem
  | [] => tStuck
  | [a] => a
  | a :: as => tOrS a (denOrT as)
def isSlice : Expr → Bool
  | .Slice _ _ _ _ => true
  | _ => false
theorem plainIx_of {b : Expr} (h : isSlice b = false) : PlainIx b := by
  intro o i
  cases b <;> first
    | rfl
    | cases h
noncomputable def linkF (eqs : List (Str × FSem)) (f : Expr → ESem) : List CmpOp → List Expr → Option (List ((Store → RV → RV → Option RV) × ESem))
  | [], [] => some []
  | op :: ops, b :: bs => match cmpF eqs op with
    | some fn => match linkF eqs f ops bs with
      | some l => some ((fn, f b) :: l)
      | none => none
    | none => none
  | _, _ => none
noncomputable def denCmp (eqs : List (Str × FSem)) (f : Expr → ESem) (a : Expr) (ops : List CmpOp) (bs : List Expr) : ESem := match ops, bs with
  | [op], [b] => match cmpF eqs op with
    | some fn => if behindInMarks op b = false then eOp2 fn (f a) (f b) else eStuck
    | none => eStuck
  | [op, op'], [b, b'] => match cmpF eqs op, cmpF eqs op' with
    | some fn, some gn => if lastMarks [op, op'] [b, b'] = false then eChain fn gn (f a) (f b) (f b') else eStuck
    | _, _ => eStuck
  | op :: op' :: ops, b :: b' :: bs => match linkF eqs f (op :: op' :: ops) (b :: b' :: bs) with
    | some l => if lastMarks (op :: op' :: ops) (b :: b' :: bs) = false then eChN (f a) l else eStuck
    | none => eStuck
  | _, _ => eStuck
def denName (c : Cfg) (x : Str) : ESem := match slotOf c x with
  | some i => eVar i
  | none => if isGl c x = true then (match lookK c.consts x with
    | some d => eC d
    | none => eStuck) else eStuck
def kwNames : List Keyword → Option (List Str)
  | [] => some []
  | ⟨some n, _, _⟩ :: ks => (kwNames ks).map (n :: ·)
  | _ => none
def denCallF (c : Cfg) (f : Expr → ESem) (x : Str) (args : List Expr) (kws : List Keyword) : ESem :=
  match kws, args with
  | [], [] => match lookC c.calls x 0 [] with
    | some F => eCall F aNil
    | none => eStuck
  | [], a :: as => match lookC c.calls x (as.length + 1) [] with
    | some F => eCall F (argsS (f a :: as.map f))
    | none => eStuck
  | k :: ks, [] => match kwNames (k :: ks) with
    | some ns => match lookC c.calls x 0 ns with
      | some F => eCall F (argsS ((k :: ks).map fun q => f (kwE q)))
      | none => eStuck
    | none => eStuck
  | k :: ks, a :: as => match kwNames (k :: ks) with
    | some ns => match lookC c.calls x (as.length + 1) ns with
      | some F => eCall F (aApp (argsS (f a :: as.map f)) (argsS ((k :: ks).map fun q => f (kwE q))))
      | none => eStuck
    | none => eStuck
noncomputable def denBlt (c : Cfg) (f : Expr → ESem) (x : Str) (args : List Expr) : ESem := match args with
  | [a] => match bltF c.sps x with
    | some (_, fn) => eOp1 fn (f a)
    | none => match tyF x with
      | some (_, fn) => eOp1 fn (f a)
      | none => eStuck
  | [a, b] => match b with
    | .Name n _ => if x = "isinstance" then (if isGl c n = true ∧ n ∈ c.blt then (match tyOf n with
        | some T => eOp1 (isiT T) (f a)
        | none => eStuck) else if isGl c n = true ∧ n ∈ c.own then eOp1 (isC n) (f a) else eStuck) else (match blt2F x with
      | some (_, fn) => eOp2 fn (f a) (f b)
      | none => eStuck)
    | _ => match blt2F x with
      | some (_, fn) => eOp2 fn (f a) (f b)
      | none => eStuck
  | _ => eStuck
/-- list(range(b)) -/
def lstRg (c : Cfg) (x : Str) (args : List Expr) : Option Expr := match args with
  | [.Call (.Name y _) [b] [] _] => if x = "list" ∧ y = "range" ∧ isGl c y = true ∧ y ∈ c.blt ∧ notStar b = true then some b else none
  | _ => none
/-- a method of an own class -/
def denMeth (c : Cfg) (f : Expr → ESem) (o : Expr) (m : Str) (args : List Expr) (kws : List Keyword) : ESem :=
  match kws, args with
  | [], [] => eMeth c.mts m 0 [] (f o) aNil
  | [], a :: as => eMeth c.mts m (as.length + 1) [] (f o) (argsS (f a :: as.map f))
  | k :: ks, [] => match kwNames (k :: ks) with
    | some ns => eMeth c.mts m 0 ns (f o) (argsS ((k :: ks).map fun q => f (kwE q)))
    | none => eStuck
  | k :: ks, a :: as => match kwNames (k :: ks) with
    | some ns => eMeth c.mts m (as.length + 1) ns (f o) (aApp (argsS (f a :: as.map f)) (argsS ((k :: ks).map fun q => f (kwE q))))
    | none => eStuck
/-- methods of built-in types -/
def bltM : List Str := ["index", "join", "split", "partition", "append", "pop", "extend", "items", "get", "insert", "setdefault", "count", "reverse", "keys", "values"]
noncomputable def denCall (c : Cfg) (f : Expr → ESem) (cpos : Pos) (fn : Expr) (args : List Expr) (kws : List Keyword) : ESem := match fn with
  | .Attribute o m apos => if notCall o = true ∧ (apos.endLine == cpos.line) = true ∧ args.all notStar = true ∧ fewB args.length kws.length = true then (if m ∈ bltM then (match args, kws with
      | [a], [] => if m = "index" then eIndex (f o) (f a) else eStuck
      | _, _ => eStuck) else denMeth c f o m args kws) else eStuck
  | .Name x _ => if isGl c x = true ∧ args.all notStar = true then (if x ∈ c.blt then (match kws with
      | [] => (match lstRg c x args with
        | some b => eLstR (f b)
        | none => denBlt c f x args)
      | ks => (match args with
        | [a] => if x = "sum" ∧ sum0Of ks = true then eOp1 sumW (f a) else eStuck
        | _ => eStuck)) else denCallF c f x args kws) else eStuck
  | _ => eStuck
/-- what a for walks; a comprehension's may be a list that a slot owns -/
def isTup : Expr → Bool
  | .Tuple _ _ _ => true
  | _ => false
def isStrict : List Keyword → Bool
  | [⟨some n, .Constant (.bool true) _ _, _⟩] => decide (n = Str.ofString "strict")
  | _ => false
def denI (c : Cfg) (f : Expr → ESem) (tg e : Expr) : Option ISem := match e with
  | .Call (.Name x _) args [] _ => if x = "range" ∧ isGl c x = true ∧ x ∈ c.blt ∧ args.all notStar = true then (match args with
      | [a] => some (iRange1 (f a))
      | [a, b] => some (iRange2 (f a) (f b))
      | _ => none) else if x = "zip" ∧ isTup tg = true ∧ isGl c x = true ∧ x ∈ c.blt ∧ args.all notStar = true then (match args with
      | [a, b] => some (iZipM (f a) (f b))
      | _ => none) else if x = "enumerate" ∧ isTup tg = true ∧ isGl c x = true ∧ x ∈ c.blt ∧ args.all notStar = true then (match args with
      | [a] => some (iEnumD (f a))
      | _ => none) else none
  | .Call (.Name x _) args kws _ => if x = "zip" ∧ isTup tg = true ∧ isStrict kws = true ∧ isGl c x = true ∧ x ∈ c.blt ∧ args.all notStar = true then (match args with
      | [a, b] => some (iZipD (f a) (f b))
      | _ => none) else none
  | _ => none
def isSet : Expr → Bool
  | .Set _ _ _ => true
  | _ => false
theorem noSet {e : Expr} (h : isSet e = false) (env : Env) (x : Value) : foldedSetIterable e env x = pure x := by
  cases e <;> first
    | rfl
    | cases h
/-- a target of names, with its slots -/
def denG1 (c : Cfg) : Expr → Option (TgSem × List Nat)
  | .Name x _ => match slotSt c x with
    | some i => some (gVar i, [i])
    | none => none
  | _ => none
def denGs (g : Expr → Option (TgSem × List Nat)) : List Expr → Option (List TgSem × List Nat)
  | [] => some ([], [])
  | t :: ts => match g t with
    | some (a, us) => match denGs g ts with
      | some (as, vs) => some (a :: as, us ++ vs)
      | none => none
    | none => none
def denG : Nat → Cfg → Expr → Option (TgSem × List Nat)
  | 0, c, e => denG1 c e
  | n + 1, c, e => match e with
    | .Name x _ => denG1 c (.Name x ⟨0, 0, 0, 0⟩)
    | .Tuple ts _ _ => if ts.all notStar = true then (match denGs (denG n c) ts with
      | some (gs, us) => some (gTupS gs, us)
      | none => none) else none
    | _ => none
def ownOf (c : Cfg) (scope : Scope) : List (Str × Nat) := scope.names.filterMap fun (y, k) => match k with
  | .local => (ixIn y c.N).map fun i => (y, i)
  | .cell => (ixIn y c.N).map fun i => (y, i)
  | _ => none
def Cfg.blk (c : Cfg) (scope : Scope) : Cfg := { c with sc := relS scope c.sc, cel := false }
def denComp (c : Cfg) (f : Cfg → Expr → ESem) (t : Cfg → Expr → TSem) (elt tg it : Expr) (ifs : List Expr) (scope : Scope) : ESem :=
  if blkC c.N c.sc scope (ownOf c scope) = true ∧ isSet it = false then (match denG 4 (c.blk scope) tg with
    | some (g, us) => if us.all (fun j => ((ownOf c scope).map (·.2)).contains j) = true then (
        let i := match denI c (f c) tg it with
          | some i => i
          | none => iExpU (f c it)
        match ifs with
        | [] => eComp ((ownOf c scope).map (·.2)) i g tTrue (f (c.blk scope) elt)
        | [q] => eComp ((ownOf c scope).map (·.2)) i g (t (c.blk scope) q) (f (c.blk scope) elt)
        | _ => eStuck) else eStuck
    | none => eStuck) else eStuck
def denO (f : Expr → ESem) : Option Expr → Rho → Store → Option (Option Int × Store)
  | none => oNone
  | some e => oSome (f e)
mutual
noncomputable def denE : Nat → Cfg → Expr → ESem
  | 0, _, _ => eStuck
  | n + 1, c, e => match e with
    | .Name x _ => denName c x
    | .Constant k _ _ => denC k
    | .BinOp a op b _ => match binF op with
      | some fn => eOp2 fn (denE n c a) (denE n c b)
      | none => eStuck
    | .UnaryOp .Not a _ => eTest (tNotS (tValD c.sps (denE n c a)))
    | .UnaryOp .USub a _ => eOp1 negV (denE n c a)
    | .BoolOp .And vs _ => denAndL (vs.map (denE n c))
    | .BoolOp .Or vs _ => denOrL (vs.map (denE n c))
    | .Compare a ops bs _ => denCmp c.eqs (denE n c) a ops bs
    | .IfExp t a b _ => eIf (denT n c t) (denE n c a) (denE n c b)
    | .Tuple es _ _ => if es.all notStar = true then eTup (argsS (es.map (denE n c))) else eStuck
    | .List es _ => if es.all notStar = true then eLst (argsS (es.map (denE n c))) else eStuck
    | .Subscript a b _ => match b with
      | .Slice lo hi none _ => eSl (denE n c a) (denO (denE n c) lo) (denO (denE n c) hi)
      | b => if isSlice b = false then eOp2 ixV (denE n c a) (denE n c b) else eStuck
    | .Call fn args kws cp => denCall c (denE n c) cp fn args kws
    | .Attribute a fl _ => if notCall a = true then (match lookA c.fl fl with
      | some cs => eOp1 (fldV cs fl) (denE n c a)
      | none => eStuck) else eStuck
    | .ListComp elt gens scope _ => match gens with
      | [⟨tg, it, ifs, 0⟩] => denComp c (denE n) (denT n) elt tg it ifs scope
      | _ => eStuck
    | _ => eStuck
noncomputable def denT : Nat → Cfg → Expr → TSem
  | 0, _, _ => tStuck
  | n + 1, c, e => match e with
    | .UnaryOp .Not a _ => tNotS (denT n c a)
    | .BoolOp .And vs _ => denAndT (vs.map (denT n c))
    | .BoolOp .Or vs _ => denOrT (vs.map (denT n c))
    | .Compare a ops bs _ => tBool (denCmp c.eqs (denE n c) a ops bs)
    | .IfExp _ _ _ _ => tStuck
    | e => tValD c.sps (denE n c e)
end
end Tz

set_option Elab.async false
set_option linter.all false
set_option maxRecDepth 100000
set_option maxHeartbeats 4000000
/-! Ts9: the reading is right. -/
namespace Tz
open PySem L2 PyProof.Rows
section
variable {c : Cfg} {X : Cx} {p : Prm} {Wx : WX} {x : Str} {pos pp : Pos} {f : Expr → ESem}
theorem COk.eqOk (h : COk c X p Wx) : EqOk X p c.eqs := by
  obtain ⟨k, hr, q⟩ := h.eqs
  exact ⟨fun x F hm => q x F hm X rfl rfl rfl rfl rfl hr⟩
theorem COk.spOk (h : COk c X p Wx) : SpsOk X p c.sps := by
  obtain ⟨k, hr, q⟩ := h.sps
  exact fun x F hm => q x F hm X rfl rfl rfl rfl rfl hr
theorem COk.mtOk (h : COk c X p Wx) : MtsOk X p c.mts := by
  obtain ⟨k, hr, q⟩ := h.mts
  exact fun x F hm => q x F hm X rfl rfl rfl rfl rfl hr
theorem denC_ok {k : Const} {j : Nat} : PE X (.Constant k j pos) (tE p Wx (denC k)) := by
  cases k with
  | int i => exact pe_const pe_int fun _ _ => rfl
  | bool b => exact pe_const pe_bl fun _ _ => rfl
  | none => exact pe_const pe_non fun _ _ => rfl
  | str s => exact pe_const pe_str fun _ _ => rfl
  | _ => exact pe_stuck
theorem denName_ok (h : COk c X p Wx) : PE X (.Name x pos) (tE p Wx (denName c x)) := by
  unfold denName
  split
  · rename_i i e
    exact pe_slot (h.slot e)
  · split
    · rename_i g
      split
      · rename_i d e
        obtain ⟨v, u, h1, h2, h3⟩ := h.consts x d (lookK_mem e)
        obtain ⟨g1, g2⟩ := h.gl g
        exact pe_const (pe_glob g1 h1 h2 (okNm_d g2).1) h3
      · exact pe_stuck
    · exact pe_stuck
theorem links_ok (hc : CsOk p) (hK : p.K = X.K) (hu : X.A.units + 128 < cLine) {eqs : List (Str × FSem)} (he : EqOk X p eqs) (h : ∀ e, PE X e (tE p Wx (f e))) : ∀ {ops : List CmpOp} {bs : List Expr} {l : List ((Store → RV → RV → Option RV) × ESem)}, linkF eqs f ops bs = some l → Links X p Wx ops bs l
  | [], [], l, e => by
    injection e with e
    subst e
    exact .nil
  | op :: ops, b :: bs, l, e => by
    unfold linkF at e
    split at e
    · rename_i fn ef
      split at e
      · rename_i l' el
        injection e with e
        subst e
        exact .cons (cmpF_ok hc hK hu he ef) (h b) (links_ok hc hK hu he h el)
      · cases e
    · cases e
  | [], _ :: _, l, e => by cases e
  | _ :: _, [], l, e => by cases e
theorem denCmp_ok (hc : CsOk p) (hK : p.K = X.K) (hu : X.A.units + 128 < cLine) {eqs : List (Str × FSem)} (he : EqOk X p eqs) (h : ∀ e, PE X e (tE p Wx (f e))) {a : Expr} {ops : List CmpOp} {bs : List Expr} : PE X (.Compare a ops bs pos) (tE p Wx (denCmp eqs f a ops bs)) := by
  unfold denCmp
  split
  · split
    · rename_i op b _ fn e
      split
      · rename_i hm
        exact pe_cmp2 (cmpF_ok hc hK hu he e) (h _) (h _) hm
      · exact pe_stuck
    · exact pe_stuck
  · split
    · split
      · rename_i hm
        rename_i e1 e2
        exact pe_chain3 (cmpF_ok hc hK hu he e1) (cmpF_ok hc hK hu he e2) (h _) (h _) (h _) hm
      · exact pe_stuck
    · exact pe_stuck
  · split
    · rename_i l el
      split
      · rename_i hm
        exact pe_chN (h _) (links_ok hc hK hu he h el) hm
      · exact pe_stuck
    · exact pe_stuck
  · exact pe_stuck
theorem tbool_stuck {e : Expr} : PT X e (tT p Wx (tBool eStuck)) := ⟨fun _ _ _ _ _ _ ⟨_, _, _, _, _, _, z⟩ => z.elim⟩
theorem denCmpT_ok (hc : CsOk p) (hK : p.K = X.K) (hu : X.A.units + 128 < cLine) {eqs : List (Str × FSem)} (he : EqOk X p eqs) (h : ∀ e, PE X e (tE p Wx (f e))) {a : Expr} {ops : List CmpOp} {bs : List Expr} : PT X (.Compare a ops bs pos) (tT p Wx (tBool (denCmp eqs f a ops bs))) := by
  unfold denCmp
  split
  · split
    · rename_i op b _ fn e
      split
      · rename_i hm
        exact pt_cmp2 (cmpF_ok hc hK hu he e) (h _) (h _) hm
      · exact tbool_stuck
    · exact tbool_stuck
  · split
    · split
      · rename_i hm
        rename_i e1 e2
        exact pt_chain3 (cmpF_ok hc hK hu he e1) (cmpF_ok hc hK hu he e2) (h _) (h _) (h _) hm
      · exact tbool_stuck
    · exact tbool_stuck
  · split
    · rename_i l el
      split
      · rename_i hm
        exact pt_chN (h _) (links_ok hc hK hu he h el) hm
      · exact tbool_stuck
    · exact tbool_stuck
  · exact tbool_stuck
theorem denAndL_ok (h : ∀ e, PE X e (tE p Wx (f e))) : ∀ vs : List Expr, PE X (.BoolOp .And vs pos) (tE p Wx (denAndL (vs.map f)))
  | [] => pe_stuck
  | [a] => pe_one (h a)
  | a :: b :: r => pe_andS (h a) (denAndL_ok h (b :: r))
theorem denOrL_ok (h : ∀ e, PE X e (tE p Wx (f e))) : ∀ vs : List Expr, PE X (.BoolOp .Or vs pos) (tE p Wx (denOrL (vs.map f)))
  | [] => pe_stuck
  | [a] => pe_one (h a)
  | a :: b :: r => pe_orS (h a) (denOrL_ok h (b :: r))
theorem pw_stuck {e : Expr} : PW X e (tT p Wx tStuck) := ⟨fun _ _ _ _ _ _ _ ⟨_, _, _, _, _, _, z⟩ => z.elim⟩
theorem denAndT_ok {t : Expr → TSem} (h : ∀ e, PT X e (tT p Wx (t e))) : ∀ vs : List Expr, PW X (.BoolOp .And vs pos) (tT p Wx (denAndT (vs.map t)))
  | [] => pw_stuck
  | [a] => pw_and1S (h a)
  | a :: b :: r => pw_andS (h a) (denAndT_ok h (b :: r))
theorem denOrT_ok {t : Expr → TSem} (h : ∀ e, PT X e (tT p Wx (t e))) : ∀ vs : List Expr, PW X (.BoolOp .Or vs pos) (tT p Wx (denOrT (vs.map t)))
  | [] => pw_stuck
  | [a] => pw_or1S (h a)
  | a :: b :: r => pw_orS (h a) (denOrT_ok h (b :: r))
theorem args_ok (h : ∀ e, PE X e (tE p Wx (f e))) : ∀ es : List Expr, es.all notStar = true → PA X es (tA p Wx (argsS (es.map f)))
  | [], _ => pa_nilS
  | e :: es, hs => by
    have h1 := hs
    rw [List.all_cons, Bool.and_eq_true] at h1
    exact pa_consS (h e) (args_ok h es h1.2) (starEach_cons h1.1)
theorem kws_ok (h : ∀ e, PE X e (tE p Wx (f e))) : ∀ ks : List Keyword, PK X ks (tA p Wx (argsS (ks.map fun q => f (kwE q))))
  | [] => pk_nilS
  | k :: ks => pk_consS (h (kwE k)) (kws_ok h ks)
theorem kwNames_ok : ∀ {ks : List Keyword} {ns : List Str}, kwNames ks = some ns → ks.map kwName = ns.map some
  | [], ns, h => by
    injection h with h
    subst h
    rfl
  | ⟨some n, e, q⟩ :: ks, ns, h => by
    have h : (kwNames ks).map (n :: ·) = some ns := h
    cases z : kwNames ks with
    | none => rw [z] at h; cases h
    | some ms =>
      rw [z] at h
      injection h with h
      subst h
      rw [List.map_cons, List.map_cons, kwNames_ok z]
      rfl
  | ⟨none, e, q⟩ :: ks, ns, h => by cases h
theorem denCallF_ok (hc : COk c X p Wx) (h : ∀ e, PE X e (tE p Wx (f e))) (hg : isGl c x = true) {args : List Expr} {kws : List Keyword} (hs : args.all notStar = true) : PE X (.Call (.Name x pp) args kws pos) (tE p Wx (denCallF c f x args kws)) := by
  obtain ⟨g1, g2⟩ := hc.gl hg
  have gd := (okNm_d g2).1
  have look : ∀ {n : Nat} {ks : List Str} {F : FSem}, lookC c.calls x n ks = some F → CallOk X p x n ks F := by
    intro n ks F e
    obtain ⟨k, hr, cf⟩ := hc.calls x n ks F (lookC_mem e)
    exact cf X rfl rfl rfl rfl rfl hr
  unfold denCallF
  split
  · split
    · rename_i F e
      exact pe_callS0 (look e) hc.tk g1 gd
    · exact pe_stuck
  · split
    · rename_i a as F e
      exact pe_callS1 (look e) hc.tk g1 gd (by rw [List.length_map]) (args_ok h _ hs) hs
    · exact pe_stuck
  · split
    · rename_i ns en
      split
      · rename_i F e
        have hn := kwNames_ok en
        have hl := congrArg List.length hn
        rw [List.length_map, List.length_map] at hl
        exact pe_callS3 (look e) hc.tk g1 gd hn (by rw [List.length_map]; exact hl) (kws_ok h _)
      · exact pe_stuck
    · exact pe_stuck
  · split
    · rename_i ns en
      split
      · rename_i F e
        have hn := kwNames_ok en
        have hl := congrArg List.length hn
        rw [List.length_map, List.length_map] at hl
        exact pe_callS2 (look e) hc.tk g1 gd (by rw [List.length_map]) hn (by rw [List.length_map]; exact hl) (args_ok h _ hs) (kws_ok h _) hs
      · exact pe_stuck
    · exact pe_stuck
theorem denBlt_ok (hc : COk c X p Wx) (h : ∀ e, PE X e (tE p Wx (f e))) (hg : isGl c x = true) (hb : x ∈ c.blt) {args : List Expr} (hs : args.all notStar = true) : PE X (.Call (.Name x pp) args [] pos) (tE p Wx (denBlt c f x args)) := by
  obtain ⟨g1, g2⟩ := hc.gl hg
  have gd := okNm_d g2
  have hm := hc.blt x hb
  have two : ∀ {a b : Expr}, [a, b].all notStar = true → PE X (.Call (.Name x pp) [a, b] [] pos) (tE p Wx (match blt2F x with
      | some (_, fn) => eOp2 fn (f a) (f b)
      | none => eStuck)) := by
    intro a b hs
    have hs' := hs
    rw [List.all_cons, List.all_cons, Bool.and_eq_true, Bool.and_eq_true] at hs'
    split
    · rename_i id fn e
      obtain ⟨k1, k2⟩ := blt2F_ok (p := p) hc.calm e
      exact pe_blt2 k1 g1 hm k2 (h _) (h _) hs'.1 hs'.2.1 gd.2.2 gd.1
    · exact pe_stuck
  unfold denBlt
  split
  · rename_i a
    have hs' := hs
    rw [List.all_cons, Bool.and_eq_true] at hs'
    split
    · rename_i id fn e
      obtain ⟨k1, k2⟩ := bltF_ok hc.hK hc.spOk hc.calm e
      exact pe_blt1 k1 g1 hm k2 (h _) hs'.1 gd.2.2 gd.1
    · split
      · rename_i id fn e
        obtain ⟨k1, k2⟩ := tyF_ok hc.hK e
        exact pe_ty1 k1 g1 hm k2 (h _) hs'.1 gd.2.2 gd.1
      · exact pe_stuck
  · rename_i a b
    have hs' := hs
    rw [List.all_cons, Bool.and_eq_true] at hs'
    split
    · rename_i n pn
      split
      · rename_i ex
        subst ex
        split
        · rename_i hn
          obtain ⟨n1, n2⟩ := hc.gl hn.1
          have nd := okNm_d n2
          split
          · rename_i T eT
            obtain ⟨k1, k2⟩ := tyOf_ok eT
            exact pe_isiT hc.cs hc.hK k1 g1 hm n1 (hc.blt n hn.2) k2 nd.2.2 nd.1 (h _) hs'.1
          · exact pe_stuck
        · split
          · rename_i hn
            obtain ⟨n1, n2⟩ := hc.gl hn.1
            obtain ⟨m1, m2⟩ := hc.cls n hn.2
            exact pe_isC hc.cs hc.hK g1 hm n1 m1 m2 (okNm_d n2).1 (h _) hs'.1
          · exact pe_stuck
      · exact two hs
    · exact two hs
  · exact pe_stuck
theorem lstRg_ok (hc : COk c X p Wx) (h : ∀ e, PE X e (tE p Wx (f e))) (hg : isGl c x = true) (hb : x ∈ c.blt) {args : List Expr} {b : Expr} (hl : lstRg c x args = some b) : PE X (.Call (.Name x pp) args [] pos) (tE p Wx (eLstR (f b))) := by
  unfold lstRg at hl
  split at hl
  · split at hl
    · rename_i hx
      obtain ⟨e1, e2, g2, b2, ns⟩ := hx
      injection hl with hl
      subst hl e1 e2
      exact pe_lstR hc.calm (hc.gl hg).1 (hc.blt _ hb) (hc.gl g2).1 (hc.blt _ b2) (h _) ns
    · cases hl
  · cases hl
theorem denMeth_ok (hc : COk c X p Wx) (h : ∀ e, PE X e (tE p Wx (f e))) {o : Expr} {m : Str} {apos : Pos} {args : List Expr} {kws : List Keyword} (hn : notCall o = true) (hl : (apos.endLine == pos.line) = true) (hs : args.all notStar = true) (hf : fewB args.length kws.length = true) :
    PE X (.Call (.Attribute o m apos) args kws pos) (tE p Wx (denMeth c f o m args kws)) := by
  unfold denMeth
  split
  · exact pe_meth0S (h o) hn hc.mtOk hc.tk hl
  · rename_i a as
    exact pe_methN (h o) hn hc.mtOk hc.tk hf hl (by rw [List.length_map]) (args_ok h _ hs) hs
  · split
    · rename_i ns en
      have hk := kwNames_ok en
      have hl2 := congrArg List.length hk
      rw [List.length_map, List.length_map] at hl2
      exact pe_methK (h o) hn hc.mtOk hc.tk hk hf hl (by rw [List.length_map]; exact hl2) (kws_ok h _)
    · exact pe_stuck
  · split
    · rename_i ns en
      have hk := kwNames_ok en
      have hl2 := congrArg List.length hk
      rw [List.length_map, List.length_map] at hl2
      exact pe_methNK (h o) hn hc.mtOk hc.tk hk hf hl (by rw [List.length_map]) (by rw [List.length_map]; exact hl2) (args_ok h _ hs) (kws_ok h _) hs
    · exact pe_stuck
theorem denCall_ok (hc : COk c X p Wx) (h : ∀ e, PE X e (tE p Wx (f e))) {fn : Expr} {args : List Expr} {kws : List Keyword} : PE X (.Call fn args kws pos) (tE p Wx (denCall c f pos fn args kws)) := by
  unfold denCall
  split
  · rename_i o m apos
    split
    · rename_i hg
      obtain ⟨hn, hl, hs, hf⟩ := hg
      split
      · split
        · rename_i a
          split
          · rename_i em
            subst em
            rw [List.all_cons, Bool.and_eq_true] at hs
            exact pe_indexS hc.hK (by have := hc.hu; omega) (h o) hn (h a) hs.1 hl
          · exact pe_stuck
        · exact pe_stuck
      · exact denMeth_ok hc h hn hl hs hf
    · exact pe_stuck
  · rename_i x pp
    split
    · rename_i hg
      split
      · rename_i hb
        split
        · split
          · rename_i b hl
            exact lstRg_ok hc h hg.1 hb hl
          · exact denBlt_ok hc h hg.1 hb hg.2
        · split
          · rename_i a
            split
            · rename_i hx
              have hs := hg.2
              rw [List.all_cons, Bool.and_eq_true] at hs
              exact pe_sum0 hc.hK hc.calm (hc.gl hg.1).1 (hc.blt _ hb) hx.1 hx.2 (h a) hs.1
            · exact pe_stuck
          · exact pe_stuck
      · exact denCallF_ok hc h hg.1 hg.2
    · exact pe_stuck
  · exact pe_stuck
theorem denI_ok (hc : COk c X p Wx) (h : ∀ e, PE X e (tE p Wx (f e))) {tg e : Expr} {i : ISem} (hi : denI c f tg e = some i) : PI X tg e (tI p i) := by
  unfold denI at hi
  split at hi
  · rename_i x pp args pos
    split at hi
    · rename_i hx
      obtain ⟨e1, hg, hb, hs⟩ := hx
      subst e1
      obtain ⟨g1, g2⟩ := hc.gl hg
      have hm := hc.blt _ hb
      split at hi
      · injection hi with hi
        subst hi
        rw [List.all_cons, Bool.and_eq_true] at hs
        exact pi_range1S g1 hm (h _) hs.1
      · injection hi with hi
        subst hi
        rw [List.all_cons, List.all_cons, Bool.and_eq_true, Bool.and_eq_true] at hs
        exact pi_range2S g1 hm (h _) (h _) hs.1 hs.2.1
      · cases hi
    · split at hi
      · rename_i hx
        obtain ⟨e1, et, hg, hb, hs⟩ := hx
        subst e1
        obtain ⟨g1, g2⟩ := hc.gl hg
        have hm := hc.blt _ hb
        cases tg <;> first
          | (cases et; done)
          | skip
        split at hi
        · injection hi with hi
          subst hi
          rw [List.all_cons, List.all_cons, Bool.and_eq_true, Bool.and_eq_true] at hs
          exact pi_zipM hc.hK g1 hm (h _) (h _) hs.1 hs.2.1
        · cases hi
      · split at hi
        · rename_i hx
          obtain ⟨e1, et, hg, hb, hs⟩ := hx
          subst e1
          obtain ⟨g1, g2⟩ := hc.gl hg
          have hm := hc.blt _ hb
          cases tg <;> first
            | (cases et; done)
            | skip
          split at hi
          · injection hi with hi
            subst hi
            rw [List.all_cons, Bool.and_eq_true] at hs
            exact pi_enumD hc.hK g1 hm (h _) hs.1
          · cases hi
        · cases hi
  · rename_i x pp args kws pos hno
    split at hi
    · rename_i hx
      obtain ⟨e1, et, ek, hg, hb, hs⟩ := hx
      subst e1
      obtain ⟨g1, g2⟩ := hc.gl hg
      have hm := hc.blt _ hb
      cases tg <;> first
        | (cases et; done)
        | skip
      split at hi
      · injection hi with hi
        subst hi
        rw [List.all_cons, List.all_cons, Bool.and_eq_true, Bool.and_eq_true] at hs
        unfold isStrict at ek
        split at ek
        · have en := of_decide_eq_true ek
          subst en
          exact pi_zipD hc.hK g1 hm (h _) (h _) hs.1 hs.2.1
        · cases ek
      · cases hi
    · cases hi
  · cases hi
theorem denG1_ok (hc : COk c X p Wx) {e : Expr} {g : TgSem} {us : List Nat} (h : denG1 c e = some (g, us)) : PG X e (tG p g us) := by
  unfold denG1 at h
  split at h
  · rename_i x q
    split at h
    · rename_i i e
      injection h with h
      injection h with h1 h2
      subst h1 h2
      obtain ⟨k1, k2, k3⟩ := hc.stores e
      exact pg_var (pg_name (by rw [hc.N]; exact hc.nd) k1 k2 k3)
    · cases h
  · cases h
theorem assignEach_cons {e : Expr} {es : List Expr} {env : Env} (h : notStar e = true) : assignEach (e :: es) env = (false, assign e env) :: assignEach es env := by
  cases e <;> first
    | rfl
    | cases h
theorem assignEach_len {env : Env} : ∀ {es : List Expr}, es.all notStar = true → (assignEach es env).length = es.length ∧ (assignEach es env).findIdx? (·.1) = none
  | [], _ => ⟨rfl, rfl⟩
  | e :: es, h => by
    rw [List.all_cons, Bool.and_eq_true] at h
    obtain ⟨h1, h2⟩ := assignEach_len (env := env) h.2
    rw [assignEach_cons h.1]
    refine ⟨by rw [List.length_cons, List.length_cons, h1], ?_⟩
    rw [List.findIdx?_cons, h2]
    rfl
theorem denGs_ok {g : Expr → Option (TgSem × List Nat)} (hg : ∀ {e gs us}, g e = some (gs, us) → PG X e (tG p gs us)) : ∀ {ts : List Expr} {gs : List TgSem} {us : List Nat}, denGs g ts = some (gs, us) → ts.all notStar = true → PGs X ts (tGs p gs us) ∧ gs.length = ts.length
  | [], gs, us, h, _ => by
    injection h with h
    injection h with h1 h2
    subst h1 h2
    exact ⟨pgs_nilS, rfl⟩
  | t :: ts, gs, us, h, hs => by
    unfold denGs at h
    rw [List.all_cons, Bool.and_eq_true] at hs
    split at h
    · rename_i a vs e1
      split at h
      · rename_i as ws e2
        injection h with h
        injection h with h1 h2
        subst h1 h2
        obtain ⟨k1, k2⟩ := denGs_ok hg e2 hs.2
        exact ⟨pgs_consS (hg e1) k1 (by rw [assignEach_cons hs.1]; rfl), by rw [List.length_cons, List.length_cons, k2]⟩
      · cases h
    · cases h
theorem denG_ok (hc : COk c X p Wx) : ∀ (n : Nat) {e : Expr} {g : TgSem} {us : List Nat}, denG n c e = some (g, us) → PG X e (tG p g us)
  | 0, e, g, us, h => denG1_ok hc h
  | n + 1, e, g, us, h => by
    unfold denG at h
    split at h
    · rename_i x q
      unfold denG1 at h
      exact denG1_ok (e := .Name x q) hc (by unfold denG1; exact h)
    · rename_i ts k q
      split at h
      · rename_i hs
        split at h
        · rename_i gs vs e1
          injection h with h
          injection h with h1 h2
          subst h1 h2
          obtain ⟨k1, k2⟩ := denGs_ok (fun h => denG_ok hc n h) e1 hs
          obtain ⟨l1, l2⟩ := assignEach_len (env := X.env) hs
          exact pg_tupS hc.hK hc.calm k1 k2 l1 l2
        · cases h
      · cases h
    · cases h
/-- the block of a comprehension -/
theorem COk.blk (h : COk c X p Wx) {scope : Scope} (hk : scope.kind = .function) (s : Shared) (H : Hp) (C : Addr) (cl : List (Str × Addr)) (fp : List Addr) : COk (c.blk scope) (X.blk s H scope (compEnvC scope cl C X.env) fp) p (fun _ _ _ _ => False) where
  hK := h.hK
  N := h.N
  sc := by
    show relS scope X.env.scope = relS scope c.sc
    rw [h.sc]
  nd := h.nd
  calm := h.calm
  tk := takes0
  kind := hk
  calls := h.calls
  consts := h.consts
  blt := h.blt
  hu := h.hu
  cs := h.cs
  eqs := h.eqs
  sps := h.sps
  mts := h.mts
  cls := h.cls
  fl := h.fl
  fn := fun z => by cases z
  own := fun z => by cases z
theorem denO_ok (h : ∀ e, PE X e (tE p Wx (f e))) : ∀ o : Option Expr, PO X o (tO p (denO f o))
  | none => po_noneS
  | some e => po_someS (h e)
theorem pt_true {e : List Expr} (he : e = []) : PTs X e (tT p Wx tTrue) := by
  subst he
  exact ⟨fun pins s σ H Q I ⟨W0, H0, W, r, st, G, q⟩ => pts_nil.run pins s σ H Q I (q W H Fut.refl G.ok)⟩
theorem denComp_ok (hc : COk c X p Wx) {f : Cfg → Expr → ESem} {t : Cfg → Expr → TSem} (hf : ∀ {c : Cfg} {X : Cx} {Wx : WX}, COk c X p Wx → ∀ e, PE X e (tE p Wx (f c e))) (ht : ∀ {c : Cfg} {X : Cx} {Wx : WX}, COk c X p Wx → ∀ e, PT X e (tT p Wx (t c e)))
    {elt tg it : Expr} {ifs : List Expr} {scope : Scope} : PE X (.ListComp elt [⟨tg, it, ifs, 0⟩] scope pos) (tE p Wx (denComp c f t elt tg it ifs scope)) := by
  unfold denComp
  split
  · rename_i hb
    obtain ⟨hb, hset⟩ := hb
    have ok := blkOk_by hb
    have okX : BlkOk X.N X.env.scope scope (ownOf c scope) := by rw [hc.N, hc.sc]; exact ok
    have nd : X.N.Nodup := by rw [hc.N]; exact hc.nd
    split
    · rename_i g us eg
      split
      · rename_i hu
        have hu' : ∀ j, j ∈ us → j ∈ (ownOf c scope).map (·.2) := fun j hj => by
          have := List.all_eq_true.mp hu j hj
          simpa using this
        have hi : PI X tg it (tIU p (match denI c (f c) tg it with
          | some i => i
          | none => iExpU (f c it))) := by
          split
          · rename_i i ei
            exact pi_u (denI_ok hc (hf hc) ei)
          · exact pi_expU hc.hK (hf hc it)
        have hg := fun (s : Shared) (H : Hp) (C : Addr) (cl : List (Str × Addr)) (fp : List Addr) => denG_ok (hc.blk ok.kind s H C cl fp) 4 eg
        dsimp only
        split
        · have he := fun (s : Shared) (H : Hp) (C : Addr) (cl : List (Str × Addr)) (fp : List Addr) => hf (hc.blk ok.kind s H C cl fp) elt
          have htt := fun (s : Shared) (H : Hp) (C : Addr) (cl : List (Str × Addr)) (fp : List Addr) => pt_true (X := X.blk s H scope (compEnvC scope cl C X.env) fp) (p := p) (Wx := fun _ _ _ _ => False) (e := []) rfl
          exact (pe_lc hc.calm nd hi okX hg htt he (noSet hset X.env)).weak (pe_compS hc.calm nd hi okX hg hu' htt he (noSet hset X.env))
        · rename_i q
          have he := fun (s : Shared) (H : Hp) (C : Addr) (cl : List (Str × Addr)) (fp : List Addr) => hf (hc.blk ok.kind s H C cl fp) elt
          have htt := fun (s : Shared) (H : Hp) (C : Addr) (cl : List (Str × Addr)) (fp : List Addr) => pts_one (ht (hc.blk ok.kind s H C cl fp) q)
          exact (pe_lc hc.calm nd hi okX hg htt he (noSet hset X.env)).weak (pe_compS hc.calm nd hi okX hg hu' htt he (noSet hset X.env))
        · exact pe_stuck
      · exact pe_stuck
    · exact pe_stuck
  · exact pe_stuck
end
theorem isTrue_val {X : Cx} {e : Expr} (h : match e with
    | .UnaryOp .Not _ _ => False
    | .BoolOp _ _ _ => False
    | .IfExp _ _ _ _ => False
    | .Compare _ _ _ _ => False
    | _ => True) : ∀ whole, isTrue e X.env whole = (do let v ← whole; standAt e.pos; holding [v] (truthy v)) := by
  intro whole
  cases e with
  | UnaryOp op a q => cases op <;> first
      | rfl
      | exact h.elim
  | BoolOp _ _ _ => exact h.elim
  | IfExp _ _ _ _ => exact h.elim
  | Compare _ _ _ _ => exact h.elim
  | _ => rfl
theorem den_ok {p : Prm} : ∀ n : Nat, (∀ {c : Cfg} {X : Cx} {Wx : WX}, COk c X p Wx → ∀ e, PE X e (tE p Wx (denE n c e))) ∧ (∀ {c : Cfg} {X : Cx} {Wx : WX}, COk c X p Wx → ∀ e, PT X e (tT p Wx (denT n c e))) := by
  intro n
  induction n with
  | zero =>
    refine ⟨fun {c X Wx} hc e => ?_, fun {c X Wx} hc e => ?_⟩
    · unfold denE
      exact pe_stuck
    · unfold denT
      exact pt_stuck
  | succ n ih =>
    obtain ⟨ihE, ihT⟩ := ih
    refine ⟨fun {c X Wx} hc e => ?_, fun {c X Wx} hc e => ?_⟩
    · unfold denE
      split
      · exact denName_ok hc
      · exact denC_ok
      · split
        · rename_i fn e
          exact pe_bin (binF_ok hc.hK e) (ihE hc _) (ihE hc _)
        · exact pe_stuck
      · exact pe_notD hc.hK hc.spOk (ihE hc _)
      · exact pe_un1 un_negV (ihE hc _)
      · exact denAndL_ok (ihE hc) _
      · exact denOrL_ok (ihE hc) _
      · exact denCmp_ok hc.cs hc.hK hc.hu hc.eqOk (ihE hc)
      · exact pe_ifS (ihT hc _) (ihE hc _) (ihE hc _)
      · split
        · rename_i hs
          exact pe_tupS (args_ok (ihE hc) _ hs)
        · exact pe_stuck
      · split
        · rename_i hs
          exact pe_lstS (args_ok (ihE hc) _ hs)
        · exact pe_stuck
      · split
        · exact pe_slS hc.hK (ihE hc _) (denO_ok (ihE hc) _) (denO_ok (ihE hc) _)
        · split
          · rename_i hs
            exact pe_ix2 (ix_ok hc.hK) (ihE hc _) (ihE hc _) (plainIx_of hs)
          · exact pe_stuck
      · exact denCall_ok hc (ihE hc)
      · split
        · rename_i hn
          split
          · rename_i cs el
            exact pe_fldS hc.hK (fun k h1 h2 => ⟨hc.hK ▸ (hc.cs.fac k h2).cl, hc.fl _ _ (lookA_mem el) k h1 h2⟩) (ihE hc _) hn
          · exact pe_stuck
        · exact pe_stuck
      · split
        · exact denComp_ok hc ihE ihT
        · exact pe_stuck
      · exact pe_stuck
    · unfold denT
      split
      · exact pt_notS (ihT hc _)
      · exact (denAndT_ok (ihT hc) _).pt
      · exact (denOrT_ok (ihT hc) _).pt
      · exact denCmpT_ok hc.cs hc.hK hc.hu hc.eqOk (ihE hc)
      · exact pt_stuck
      · rename_i h1 h2 h3 h4 h5
        refine pt_valD hc.hK hc.spOk (ihE hc _) (isTrue_val ?_)
        cases e with
        | UnaryOp op a q => cases op <;> first
            | trivial
            | exact (h1 _ _ rfl).elim
        | BoolOp op vs q => cases op <;> first
            | exact (h2 _ _ rfl).elim
            | exact (h3 _ _ rfl).elim
        | IfExp _ _ _ _ => exact (h5 _ _ _ _ rfl).elim
        | Compare _ _ _ _ => exact (h4 _ _ _ _ rfl).elim
        | _ => trivial
end Tz

set_option Elab.async false
set_option linter.all false
set_option maxRecDepth 100000
set_option maxHeartbeats 1000000
/-! Tn: x.append(e). -/
namespace Tz
open PySem L2 PyProof.Rows
def sAppend (j : Nat) (e : ESem) : SSem := fun r st => match r[j]? with
  | some (.own (.lst xs)) => match e r st with
    | some (.ok v st1) => match v.toVal with
      | some d => if xs.length < lim then some (.nx (r.set j (.own (.lst (xs ++ [d])))) st1) else none
      | none => none
    | some (.exc x st1) => some (.exc x r st1)
    | none => none
  | some (.val (.ref n)) => match st[n]? with
    | some (.lst _) => match e r st with
      | some (.ok v st1) => match v.toVal with
        | some d => match st1[n]? with
          | some (.lst xs) => if xs.length < lim then some (.nx r (st1.set n (.lst (xs ++ [d])))) else none
          | _ => none
        | none => none
      | some (.exc x st1) => some (.exc x r st1)
      | none => none
    | _ => none
  | _ => none
section
variable {X : Cx} {p : Prm} {Wx : WX} {f : ESem} {e : Expr} {pos pp : Pos}
theorem ps_appendS {j : Nat} {x : Str} {apos cpos : Pos} (ho : PE X (.Name x pp) (tVar j)) (he : PE X e (tE p Wx f)) (hs : notStar e = true) (hl : (apos.endLine == cpos.line) = true) :
    PS X (.Expr (.Call (.Attribute (.Name x pp) "append" apos) [e] [] cpos) pos) (tS p Wx (sAppend j f)) := by
  have hst : starEach [e] X.env = (false, eval e X.env) :: starEach [] X.env := starEach_cons hs
  have hfew : ((backTo cpos (starEach [e] X.env)).all (fun x => !x.1) && (backToKw cpos (keywordEach [] X.env)).all (fun x => x.1.isSome)
      && decide ([e].length + ([] : List Keyword).length + (if ([] : List Keyword).isEmpty then 0 else 1) < 30)) = true := by
    rw [hst]
    rfl
  refine (ps_expr (pe_bm PySem.F.plainAttrs_list PySem.F.slot_list_append PySem.F.type_list_append mt_append ho (pa_cons he pa_nil hst) rfl hfew hl hst rfl) rfl).weak fun D σ H ⟨W0, H0, W, r, st, G, q⟩ => ?_
  unfold sAppend at q
  cases ej : r[j]? with
  | none => simp only [ej] at q; exact q.elim
  | some s =>
    simp only [ej] at q
    cases s with
    | no => exact q.elim
    | own c =>
      cases c with
      | lst xs =>
        dsimp only at q
        obtain ⟨a, k1, k2, k3, k4, k5⟩ := G.own j _ ej
        obtain ⟨vs0, m0, _⟩ := k2
        refine ⟨_, k1, ?_, ?_⟩
        · exact .inl ⟨rfl, vs0, SqL.of m0⟩
        · refine tE_bind G (fun v st1 e1 W1 H1 x f1 S1 R1 G1 => ?_) (fun e st1 e1 W1 H1 c d f1 S1 R1 => ?_) (fun z => ?_)
          · simp only [e1] at q
            cases ev : v.toVal with
            | none => simp only [ev] at q; exact q.elim
            | some d =>
              simp only [ev] at q
              by_cases hlen : xs.length < lim
              · rw [if_pos hlen] at q
                obtain ⟨W2, S2, R2, mk⟩ := R1.toVal S1 ev
                have f2 : Fut W H W2 H1 := mk f1 fun _ z => z
                have G2 := G.to f2 S2
                obtain ⟨b, n1, n2, n3, n4, n5⟩ := G2.own j _ ej
                rw [k1] at n1
                injection n1 with n1
                injection n1 with n1
                injection n1 with n1
                subst n1
                obtain ⟨vs, m1, m2⟩ := n2
                obtain ⟨G4, f4⟩ := G2.mutOwn ej k1 m1 trivial (repO_lst (p := p) (m2.app (RepL.one R2)))
                exact ⟨_, vs, _, rfl, rfl, m1, by rw [m2.length]; exact lim_lt hlen, q W2 σ _ ((f2.fw G.ok).trans f4) G4⟩
              · rw [if_neg hlen] at q
                exact q.elim
          · simp only [e1] at q
            exact q W1 σ H1 c d (f1.fw G.ok) (G.to f1 S1) R1
          · simp only [z] at q
            exact q
      | _ => exact q.elim
    | val c =>
      cases c with
      | ref n =>
        dsimp only at q
        obtain ⟨v0, k1, k2, k3⟩ := G.val j _ ej
        subst k3
        cases es0 : st[n]? with
        | none => simp only [es0] at q; exact q.elim
        | some c0 =>
          simp only [es0] at q
          cases c0 with
          | lst xs0 =>
            dsimp only at q
            obtain ⟨vs0, m0, _⟩ := G.ok.at_ n _ es0
            refine ⟨_, k1, ?_, ?_⟩
            · exact .inl ⟨rfl, vs0, SqL.of m0⟩
            · refine tE_bind G (fun v st1 e1 W1 H1 x f1 S1 R1 G1 => ?_) (fun e st1 e1 W1 H1 c d f1 S1 R1 => ?_) (fun z => ?_)
              · simp only [e1] at q
                cases ev : v.toVal with
                | none => simp only [ev] at q; exact q.elim
                | some d =>
                  simp only [ev] at q
                  obtain ⟨W2, S2, R2, mk⟩ := R1.toVal S1 ev
                  have f2 : Fut W H W2 H1 := mk f1 fun _ z => z
                  have G2 := G.to f2 S2
                  cases es : st1[n]? with
                  | none => simp only [es] at q; exact q.elim
                  | some c =>
                    simp only [es] at q
                    cases c with
                    | lst xs =>
                      dsimp only at q
                      by_cases hlen : xs.length < lim
                      · rw [if_pos hlen] at q
                        have hn : n < W2.n := Nat.lt_of_lt_of_le k2 f2.le
                        have hmu : W2.mu n = W.mu n := f2.mu n k2
                        obtain ⟨vs, m1, m2⟩ := S2.at_ n _ es
                        obtain ⟨G4, f4⟩ := G2.mutSt hn m1 trivial (repO_lst (p := p) (m2.app (RepL.one R2)))
                        rw [hmu] at m1 G4 f4
                        exact ⟨_, vs, _, rfl, rfl, m1, by rw [m2.length]; exact lim_lt hlen, q W2 σ _ ((f2.fw G.ok).trans f4) G4⟩
                      · rw [if_neg hlen] at q
                        exact q.elim
                    | _ => exact q.elim
              · simp only [e1] at q
                exact q W1 σ H1 c d (f1.fw G.ok) (G.to f1 S1) R1
              · simp only [z] at q
                exact q
          | _ => exact q.elim
      | _ => exact q.elim
end
end Tz

set_option Elab.async false
set_option linter.all false
set_option maxRecDepth 100000
set_option maxHeartbeats 4000000
/-! Ts10: statements read, and a def's promise. -/
namespace Tz
open PySem L2 PyProof.Rows

def isComp : Expr → Bool
  | .ListComp _ _ _ _ => true
  | .SetComp _ _ _ _ => true
  | .DictComp _ _ _ _ _ => true
  | _ => false
theorem sw_no {e : Expr} {t : Option Expr} {l : Nat} {env : Env} (h : isComp e = false) : swapsWith e t l env = pure false := by
  cases e <;> first
    | rfl
    | cases h
theorem sw_sole {e t : Expr} {l : Nat} {env : Env} (h : isComp e = false) : swapsWithSole [t] e l env = pure false := sw_no (t := some t) h
theorem assign_sub {o i : Expr} {q : Pos} {env : Env} (h : isSlice i = false) : ∀ v, assign (.Subscript o i q) env v = (do
      let ov ← holding [v] (eval o env)
      let iv ← holding [v, ov] (eval i env)
      standAt q
      holding [v, ov, iv] (setItem ov iv v)
      release [v, ov, iv] []) := by
  intro v
  cases i <;> first
    | rfl
    | cases h
/-- is y = [..] a statement of its own form? -/
def swB (c : Cfg) (scope : Scope) (y : Str) (py cp : Pos) : Bool :=
  decide (c.sc.names.lookup y = some .local) && (py.line == cp.line) && !(scope.names.any fun (n, k) => n == y && (k == .local || k == .cell))
/-- a, b = x, y: the names, where they are stored from the right; none where the model says nothing -/
def swapC (c : Cfg) (ts vs : List Expr) : Option (Option (List Str)) :=
  let l := (ts.head?.map (·.pos.line)).getD 0
  let ns := ts.filterMap fun
    | .Name y q => if c.sc.names.lookup y == some .local && q.line == l then some y else none
    | _ => none
  if !(ts.length == 2 || ts.length == 3) || vs.length != ts.length then some none
  else if (vs.any fun | .Starred .. => true | _ => false) = true then some none
  else if ns.length != ts.length || ns.eraseDups.length != ns.length then some none
  else if vs.all (foldedForSure 8) = true then some none
  else if vs.all (constantsAlone 8) = true then none
  else some (some ns)
theorem swapC_ok {c : Cfg} {X : Cx} {p : Prm} {Wx : WX} (hc : COk c X p Wx) {ts vs : List Expr} {k k2 : Nat} {q q2 : Pos} {o : Option (List Str)} (h : swapC c ts vs = some o) : swappedStores [.Tuple ts k q] (.Tuple vs k2 q2) X.env = pure o := by
  have hk : X.env.blockKind = .function := by
    unfold Env.blockKind
    rw [hc.sc, hc.kind]
    rfl
  have hl : ∀ y, X.env.kindOf y = c.sc.names.lookup y := fun y => by
    show X.env.scope.names.lookup y = _
    rw [hc.sc]
  unfold swapC at h
  unfold swappedStores
  simp only [hk, hl]
  simp only at h
  by_cases c1 : (!(ts.length == 2 || ts.length == 3) || vs.length != ts.length) = true
  · rw [if_pos c1] at h
    injection h with h
    subst h
    have : (!(ts.length == 2 || ts.length == 3) || vs.length != ts.length || ScopeKind.function != ScopeKind.function) = true := by rw [c1]; rfl
    exact if_pos this
  · rw [if_neg c1] at h
    have : ¬ (!(ts.length == 2 || ts.length == 3) || vs.length != ts.length || ScopeKind.function != ScopeKind.function) = true := by
      intro z
      rw [Bool.or_eq_true] at z
      rcases z with z | z
      · exact c1 z
      · exact absurd z (by decide)
    refine (if_neg this).trans ?_
    by_cases c2 : (vs.any fun | .Starred .. => true | _ => false) = true
    · rw [if_pos c2] at h
      injection h with h
      subst h
      exact if_pos c2
    · rw [if_neg c2] at h
      refine (if_neg c2).trans ?_
      split at h
      · rename_i c3
        injection h with h
        subst h
        exact if_pos c3
      · rename_i c3
        refine (if_neg c3).trans ?_
        split at h
        · rename_i c4
          injection h with h
          subst h
          exact if_pos c4
        · rename_i c4
          refine (if_neg c4).trans ?_
          split at h
          · cases h
          · rename_i c5
            refine (if_neg c5).trans ?_
            injection h with h
            subst h
            rfl
theorem swap_other {ts : List Expr} {k : Nat} {q : Pos} {e : Expr} {env : Env} (h : match e with | .Tuple _ _ _ => False | _ => True) : swappedStores [.Tuple ts k q] e env = pure none := by
  cases e <;> first
    | rfl
    | exact h.elim

/-! ### the lists that a statement hands on are still from there on -/
def consumers : List Str := ["len", "tuple", "all", "any", "sum", "sorted", "min", "max", "list", "isinstance", "range"]
def nnF (f : Expr → List Str) : Expr → List Str
  | .Name _ _ => []
  | e => f e
def valNames : Nat → Expr → List Str
  | 0, _ => []
  | n + 1, e => match e with
    | .Name x _ => [x]
    | .BinOp a op b _ => match op with
      | .Add => nnF (valNames n) a ++ nnF (valNames n) b
      | _ => []
    | .BoolOp _ vs _ => vs.flatMap (nnF (valNames n))
    | .UnaryOp _ a _ => nnF (valNames n) a
    | .Compare a _ bs _ => nnF (valNames n) a ++ bs.flatMap (nnF (valNames n))
    | .IfExp t a b _ => nnF (valNames n) t ++ valNames n a ++ valNames n b
    | .Tuple es _ _ => es.flatMap (valNames n)
    | .List es _ => es.flatMap (valNames n)
    | .Subscript a b _ => nnF (valNames n) a ++ nnF (valNames n) b
    | .Call f args kws _ => (match f with
      | .Name x _ => if x ∈ consumers then args.flatMap (nnF (valNames n)) else args.flatMap (valNames n)
      | .Attribute o _ _ => nnF (valNames n) o ++ args.flatMap (valNames n)
      | _ => args.flatMap (valNames n)) ++ kws.flatMap fun k => valNames n (kwE k)
    | .ListComp elt gens _ _ => valNames n elt ++ gens.flatMap fun g => nnF (valNames n) g.iter ++ g.ifs.flatMap (nnF (valNames n))
    | .Attribute o _ _ => nnF (valNames n) o
    | _ => []
/-- own: the names that may own a list -/
def frz (c : Cfg) (own : List Str) (ns : List Str) (a : SSem) : SSem := (((ns.filter fun x => own.contains x).eraseDups).filterMap (slotOf c)).foldr (fun i a => sSeq (sFreeze i) a) a
theorem frz_ok {c : Cfg} {X : Cx} {p : Prm} {Wx : WX} {own ns : List Str} {a : SSem} {s : Stmt} (h : PS X s (tS p Wx a)) : PS X s (tS p Wx (frz c own ns a)) := by
  unfold frz
  generalize (((ns.filter fun x => own.contains x).eraseDups).filterMap (slotOf c)) = is
  induction is with
  | nil => exact h
  | cons i is ih => exact ps_freeze ih
/-! ### statements -/
def FU : Nat := 40
def isNm : Expr → Option Str
  | .Name x _ => some x
  | _ => none
noncomputable def denAsg (c : Cfg) (tg e : Expr) : SSem := match tg with
  | .Name y py => match slotSt c y with
    | some i => match e with
      | .ListComp elt gens scope cp => if swB c scope y py cp = true then (match gens with
          | [⟨ctg, it, ifs, 0⟩] => sAsg (denComp c (denE FU) (denT FU) elt ctg it ifs scope) (gVar i)
          | _ => sStuck) else sStuck
      | .SetComp _ _ _ _ => sStuck
      | .DictComp _ _ _ _ _ => sStuck
      | e => sAsg (denE FU c e) (gVar i)
    | none => sStuck
  | .Tuple ts _ _ => if ts.all notStar = true then (match denG 4 c tg with
    | some (g, _) => match e with
      | .Tuple vs _ _ => match swapC c ts vs with
        | some none => sAsg (denE FU c e) g
        | some (some ns) => match ts, vs, ns with
          | [.Name x _, .Name y _], [a, b], [x', y'] => if x = x' ∧ y = y' ∧ x ≠ y ∧ c.sc.names.lookup x = some .local ∧ c.sc.names.lookup y = some .local ∧ [a, b].all notStar = true then (match ixIn x c.N, ixIn y c.N with
              | some i, some j => sPar2 i j (denE FU c a) (denE FU c b)
              | _, _ => sStuck) else sStuck
          | _, _, _ => sStuck
        | none => sStuck
      | e => if isComp e = false then sAsg (denE FU c e) g else sStuck
    | none => sStuck) else sStuck
  | .Subscript o i _ => if isComp e = false ∧ isSlice i = false then (match o with
    | .Name x _ => match slotOf c x with
      | some j => sSetIx j (denE FU c i) (denE FU c e)
      | none => sStuck
    | _ => sStuck) else sStuck
  | .Attribute o fl _ => match o with
    | .Name x _ => match slotOf c x, lookA c.fl fl with
      | some j, some cs => sSetF j cs fl (denE FU c e)
      | _, _ => sStuck
    | _ => sStuck
  | _ => sStuck
section
variable {c : Cfg} {X : Cx} {p : Prm} {Wx : WX} {pos : Pos}
theorem denAsg_ok (hc : COk c X p Wx) {tg e : Expr} : PS X (.Assign [tg] e pos) (tS p Wx (denAsg c tg e)) := by
  have hE := (den_ok (p := p) FU).1 hc
  have nd : X.N.Nodup := by rw [hc.N]; exact hc.nd
  have plain : ∀ {y : Str} {py : Pos} {i : Nat} {e : Expr}, slotSt c y = some i → isComp e = false → PS X (.Assign [.Name y py] e pos) (tS p Wx (sAsg (denE FU c e) (gVar i))) := by
    intro y py i e hs hn
    obtain ⟨k1, k2, k3⟩ := hc.stores hs
    exact ps_setS (fun te he => ps_set nd k1 k2 he (sw_no hn) k3) (hE e)
  unfold denAsg
  split
  · rename_i y py
    split
    · rename_i i hs
      split
      · rename_i elt gens scope cp
        split
        · rename_i hsw
          split
          · rename_i ctg it ifs
            unfold swB at hsw
            simp only [Bool.and_eq_true, Bool.not_eq_true'] at hsw
            obtain ⟨⟨h1, h2⟩, h3⟩ := hsw
            have h1 := of_decide_eq_true h1
            obtain ⟨k1, k2, k3⟩ := hc.stores hs
            have hl : X.env.scope.names.lookup y = some .local := by rw [hc.sc]; exact h1
            have hsw2 : swapsWith (.ListComp elt [⟨ctg, it, ifs, 0⟩] scope cp) (some (.Name y py)) pos.line X.env = pure true := sw_true (by rw [hc.sc]; exact hc.kind) hl h2 h3
            -- the same parts as a comprehension's value
            by_cases hb : blkC c.N c.sc scope (ownOf c scope) = true ∧ isSet it = false
            · unfold denComp
              rw [if_pos hb]
              obtain ⟨hb, hset⟩ := hb
              have ok := blkOk_by hb
              have okX : BlkOk X.N X.env.scope scope (ownOf c scope) := by rw [hc.N, hc.sc]; exact ok
              split
              · rename_i g us eg
                split
                · rename_i hu
                  have hu' : ∀ j, j ∈ us → j ∈ (ownOf c scope).map (·.2) := fun j hj => by
                    have := List.all_eq_true.mp hu j hj
                    simpa using this
                  have hf := @(den_ok (p := p) FU).1
                  have ht := @(den_ok (p := p) FU).2
                  have hi : PI X ctg it (tIU p (match denI c (denE FU c) ctg it with
                    | some i => i
                    | none => iExpU (denE FU c it))) := by
                    split
                    · rename_i i ei
                      exact pi_u (denI_ok hc hE ei)
                    · exact pi_expU hc.hK (hE it)
                  have hg := fun (s : Shared) (H : Hp) (C : Addr) (cl : List (Str × Addr)) (fp : List Addr) => denG_ok (hc.blk ok.kind s H C cl fp) 4 eg
                  have fin : ∀ {ts : TSem}, (∀ (s : Shared) (H : Hp) (C : Addr) (cl : List (Str × Addr)) (fp : List Addr), PTs (X.blk s H scope (compEnvC scope cl C X.env) fp) ifs (tT p (fun _ _ _ _ => False) ts)) →
                      PS X (.Assign [.Name y py] (.ListComp elt [⟨ctg, it, ifs, 0⟩] scope cp) pos) (tS p Wx (sAsg (eComp ((ownOf c scope).map (·.2)) (match denI c (denE FU c) ctg it with
                    | some i => i
                    | none => iExpU (denE FU c it)) g ts (denE FU (c.blk scope) elt)) (gVar i))) := by
                    intro ts htt
                    have he := fun (s : Shared) (H : Hp) (C : Addr) (cl : List (Str × Addr)) (fp : List Addr) => hf (hc.blk ok.kind s H C cl fp) elt
                    refine (ps_setLc hc.calm nd k1 hl hsw2 hi okX hg htt he (noSet hset X.env)).weak fun D σ H w => ?_
                    have w2 := asg_weak (us := [i]) w
                    obtain ⟨W0, H0, W, r, st, G, q⟩ := w2
                    refine pe_compS (Wx := Wx) hc.calm nd hi okX hg hu' htt he (noSet hset X.env) σ H _ ⟨W0, H0, W, r, st, G, ?_⟩
                    generalize (eComp ((ownOf c scope).map (·.2)) (match denI c (denE FU c) ctg it with
                      | some i => i
                      | none => iExpU (denE FU c it)) g ts (denE FU (c.blk scope) elt)) r st = z at q ⊢
                    cases z with
                    | none => exact q
                    | some y =>
                      cases y with
                      | ok v st1 => exact fun W1 H1 x f1 S1 R1 => gvar_run (q W1 H1 x f1 S1 R1)
                      | exc e st1 => exact q
                  dsimp only
                  split
                  · exact fin fun s H C cl fp => pt_true (X := X.blk s H scope (compEnvC scope cl C X.env) fp) (p := p) (Wx := fun _ _ _ _ => False) (e := []) rfl
                  · rename_i q
                    exact fin fun s H C cl fp => pts_one (ht (hc.blk ok.kind s H C cl fp) q)
                  · exact ⟨fun _ _ _ _ _ _ ⟨_, _, _, _, _, _, z⟩ => z.elim⟩
                · exact ⟨fun _ _ _ _ _ _ ⟨_, _, _, _, _, _, z⟩ => z.elim⟩
              · exact ⟨fun _ _ _ _ _ _ ⟨_, _, _, _, _, _, z⟩ => z.elim⟩
            · unfold denComp
              rw [if_neg hb]
              exact ⟨fun _ _ _ _ _ _ ⟨_, _, _, _, _, _, z⟩ => z.elim⟩
          · exact ps_stuck
        · exact ps_stuck
      · exact ps_stuck
      · exact ps_stuck
      · rename_i h1 h2 h3
        refine plain hs ?_
        cases e <;> first
          | rfl
          | exact (h1 _ _ _ _ rfl).elim
          | exact (h2 _ _ _ _ rfl).elim
          | exact (h3 _ _ _ _ _ rfl).elim
    · exact ps_stuck
  · rename_i ts k q
    split
    · rename_i hstar
      split
      · rename_i g us eg
        have hg := denG_ok hc 4 eg
        have h1 : (assignEach [Expr.Tuple ts k q] X.env).map (·.2) = [assign (Expr.Tuple ts k q) X.env] := rfl
        split
        · rename_i vs k2 q2
          split
          · rename_i hsw
            exact ps_asgS (hE _) hg (sw_sole rfl) (swapC_ok hc hsw) h1
          · rename_i ns hsw
            split
            · rename_i x px y py a b x' y'
              split
              · rename_i hx
                obtain ⟨e1, e2, hne, hx, hy, hs⟩ := hx
                subst e1 e2
                split
                · rename_i i j hi hj
                  have gi := ixIn_get hi
                  have gj := ixIn_get hj
                  have hij : i ≠ j := by
                    intro z
                    subst z
                    rw [gi] at gj
                    injection gj with gj
                    exact hne gj
                  have hs' := hs
                  rw [List.all_cons, List.all_cons, Bool.and_eq_true, Bool.and_eq_true] at hs'
                  refine (ps_par hc.calm nd (by rw [hc.N]; exact gi) (by rw [hc.N]; exact gj) hij (by rw [hc.sc]; exact hx) (by rw [hc.sc]; exact hy) (pa_cons (hE a) (pa_cons (hE b) pa_nil (starEach_cons hs'.2.1)) (starEach_cons hs'.1)) (swapC_ok hc hsw) (sw_sole rfl)).weak fun D σ H w => ?_
                  exact par_weak w
                · exact ps_stuck
              · exact ps_stuck
            · exact ps_stuck
          · exact ps_stuck
        · split
          · rename_i h1' hn
            refine ps_asgS (hE _) hg (sw_sole hn) (swap_other ?_) h1
            cases e <;> first
              | trivial
              | exact (h1' _ _ _ rfl).elim
          · exact ps_stuck
      · exact ps_stuck
    · exact ps_stuck
  · rename_i o i q
    split
    · rename_i hn
      split
      · rename_i x px
        split
        · rename_i j hj
          exact ps_setIx (hE e) (hc.slot hj) (hE i) fun te ti h1 h2 => ps_asg h1 (pg_sub (hc.slot hj) h2 set_list (assign_sub hn.2)) (sw_sole hn.1) rfl rfl
        · exact ps_stuck
      · exact ps_stuck
    · exact ps_stuck
  · rename_i o fl q
    split
    · rename_i x px
      split
      · rename_i j cs hj hl
        exact ps_setF hc.hK (fun k h1 h2 => ⟨hc.hK ▸ (hc.cs.fac k h2).cl, hc.fl _ _ (lookA_mem hl) k h1 h2⟩) (hE e) (hc.slot hj)
      · exact ps_stuck
    · exact ps_stuck
  · exact ps_stuck
end
/-! ### a list handed out as a thing of the store -/
def sRetB (a : ESem) : SSem := fun r st => match a r st with
  | some (.ok (.fresh (.lst xs)) st1) => some (.rt (.val (.ref st1.length)) (st1 ++ [.lst xs]))
  | some (.exc x st1) => some (.exc x r st1)
  | _ => none
def Wd.ext (W : Wd) (a : Addr) : Wd := { W with n := W.n + 1, mu := fun i => if i = W.n then a else W.mu i }
section
variable {X : Cx} {p : Prm} {Wx : WX} {pos : Pos} {f : ESem} {e : Expr}
theorem ext_old {W : Wd} {a : Addr} {i : Nat} (h : i < W.n) : (W.ext a).mu i = W.mu i := if_neg (Nat.ne_of_lt h)
theorem ext_new {W : Wd} {a : Addr} : (W.ext a).mu W.n = a := if_pos rfl
theorem Fw.ext {W : Wd} {H : Hp} {a : Addr} : Fw W H (W.ext a) H := ⟨fun _ h => h, fun _ h => ext_old h, Nat.le_succ _, fun _ _ _ h => h, fun _ _ h => h, fun _ _ _ h => h⟩
theorem SOk.ext {W : Wd} {H : Hp} {st : Store} {a : Addr} {xs : D} (S : SOk p W H st) (h1 : RepC p W H xs a) (h2 : ¬ W.F a) (h3 : ∀ i, i < W.n → W.mu i ≠ a) : SOk p (W.ext a) H (st ++ [xs]) where
  len := by
    rw [List.length_append, S.len]
    rfl
  at_ := fun n d e => by
    have tr : ∀ {d b}, RepC p W H d b → RepC p (W.ext a) H d b := fun {d b} z => by
      exact z.moved Fw.ext fun _ h => h
    by_cases hl : n < st.length
    · rw [List.getElem?_append_left hl] at e
      rw [ext_old (by rw [← S.len]; exact hl)]
      exact tr (S.at_ n d e)
    · have hn := (List.getElem?_eq_some_iff.mp e).1
      rw [List.length_append, List.length_singleton] at hn
      have en : n = st.length := by omega
      subst en
      rw [List.getElem?_append_right (Nat.le_refl _), Nat.sub_self] at e
      injection e with e
      subst e
      rw [S.len, ext_new]
      exact tr h1
  nf := fun n hn => by
    by_cases hl : n < W.n
    · rw [ext_old hl]
      exact S.nf n hl
    · have en : n = W.n := by
        have : n < W.n + 1 := hn
        omega
      rw [en, ext_new]
      exact h2
  inj := fun m n hm hn e => by
    have hm : m < W.n + 1 := hm
    have hn : n < W.n + 1 := hn
    by_cases km : m < W.n
    · by_cases kn : n < W.n
      · rw [ext_old km, ext_old kn] at e
        exact S.inj m n km kn e
      · have en : n = W.n := by omega
        rw [en, ext_new, ext_old km] at e
        exact absurd e (h3 m km)
    · have em : m = W.n := by omega
      by_cases kn : n < W.n
      · rw [em, ext_new, ext_old kn] at e
        exact absurd e.symm (h3 n kn)
      · omega
  fok := S.fok
theorem ps_retB (he : PE X e (tE p Wx f)) : PS X (.Return (some e) pos) (tS p Wx (sRetB f)) := by
  refine (ps_ret he).weak fun D σ H ⟨W0, H0, W, r, st, G, q⟩ => ?_
  unfold sRetB at q
  refine tE_bind G (fun v st1 e1 W1 H1 x f1 S1 R1 G1 => ?_) (fun e st1 e1 W1 H1 c d f1 S1 R1 => ?_) (fun z => ?_)
  · simp only [e1] at q
    cases v with
    | val d => exact q.elim
    | peek d => exact q.elim
    | fresh d =>
      cases d with
      | lst xs =>
        obtain ⟨a, rfl, h1, h2, h3, h4⟩ := R1
        have g := G.fut.trans f1
        have h0 : H0 a = none := G.fut.none a h4
        refine q (W1.ext a) H1 _ ⟨g.fsub, fun i hi => (ext_old (Nat.lt_of_lt_of_le hi g.le)).trans (g.mu i hi), g.keep, g.nf, fun i k1 k2 => ?_, Nat.le_succ_of_le g.le, g.tr⟩ (S1.ext h1 h2 h3) ⟨?_, ?_⟩
        · by_cases hl : i < W1.n
          · rw [ext_old hl]
            exact g.dom i k1 hl
          · have ei : i = W1.n := by
              have : i < W1.n + 1 := k2
              omega
            rw [ei, ext_new]
            exact h0
        · show st1.length < W1.n + 1
          rw [S1.len]
          exact Nat.lt_succ_self _
        · rw [S1.len, ext_new]
      | _ => exact q.elim
  · simp only [e1] at q
    exact q W1 σ H1 c d (f1.fw G.ok) (G.to f1 S1) R1
  · simp only [z] at q
    exact q
end
def isDoc : Expr → Bool
  | .Constant (.str _) _ _ => true
  | _ => false
/-- x.append(e) -/
noncomputable def denApp (c : Cfg) (e : Expr) : Option SSem := match e with
  | .Call (.Attribute (.Name x _) fl apos) [a] [] cpos => if fl = "append" ∧ (apos.endLine == cpos.line) = true ∧ notStar a = true then (match slotOf c x with
      | some j => some (sAppend j (denE FU c a))
      | none => none) else none
  | _ => none
theorem denApp_ok {c : Cfg} {X : Cx} {p : Prm} {Wx : WX} (hc : COk c X p Wx) {e : Expr} {s : SSem} {pos : Pos} (h : denApp c e = some s) : PS X (.Expr e pos) (tS p Wx s) := by
  unfold denApp at h
  split at h
  · split at h
    · rename_i hx
      obtain ⟨e1, e2, e3⟩ := hx
      subst e1
      split at h
      · rename_i j hj
        injection h with h
        subst h
        exact ps_appendS (hc.slot hj) ((den_ok (p := p) FU).1 hc _) e3 e2
      · cases h
    · cases h
  · cases h
mutual
noncomputable def denS : Nat → Cfg → List Str → Stmt → SSem
  | 0, _, _, _ => sStuck
  | n + 1, c, own, s => match s with
    | .Pass _ => sNext
    | .Break _ => sBreak
    | .Continue _ => sCont
    | .Return o _ => match o with
      | none => sRetN
      | some e => if c.box = true then sRetB (denE FU c e) else match isNm e with
        | some x => match slotOf c x with
          | some i => sRetV i
          | none => sRet (denE FU c e)
        | none => frz c own (valNames 12 e) (sRet (denE FU c e))
    | .Expr e _ => if isDoc e = true then sNext else match denApp c e with
      | some s => frz c own (valNames 12 e) s
      | none => if isComp e = false then frz c own (valNames 12 e) (sDrop (denE FU c e)) else sStuck
    | .Assign [tg] e _ => frz c own (match tg, e with
      | .Tuple _ _ _, .Tuple vs _ _ => vs.flatMap (valNames 12)
      | .Name _ _, .Name x _ => [x]
      | _, e => valNames 12 e) (denAsg c tg e)
    | .AugAssign (.Name x _) op e _ => match augF op, slotSt c x with
      | some fn, some i => frz c own (valNames 12 e) (sAug fn i (denE FU c e))
      | _, _ => sStuck
    | .If t a b _ => frz c own (valNames 12 t) (sIf (denT FU c t) (denSs n c own a) (denSs n c own b))
    | .While t b orelse _ => match orelse with
      | [] => if c.cel = true then whileS (denT FU c t) (denSs n c own b) else sStuck
      | _ => sStuck
    | .For tg it b orelse _ => match orelse with
      | [] => if c.cel = true ∧ isSet it = false then (match denG 4 c tg with
        | some (g, _) => frz c own (valNames 12 it ++ (match isNm it with | some x => [x] | none => [])) (sFor (match denI c (denE FU c) tg it with
          | some i => i
          | none => iExp (denE FU c it)) g (denSs n c own b))
        | none => sStuck) else sStuck
      | _ => sStuck
    | _ => sStuck
noncomputable def denSs : Nat → Cfg → List Str → List Stmt → SSem
  | 0, _, _, _ => sStuck
  | _ + 1, _, _, [] => sNext
  | n + 1, c, own, [s] => denS n c own s
  | n + 1, c, own, s :: ss => sSeq (denS n c own s) (denSs n c own ss)
end
theorem denS_ok {c : Cfg} {X : Cx} {p : Prm} {Wx : WX} {own : List Str} (hc : COk c X p Wx) : ∀ n : Nat, (∀ s, PS X s (tS p Wx (denS n c own s))) ∧ (∀ ss, PSs X ss (tS p Wx (denSs n c own ss))) := by
  have hE := (den_ok (p := p) FU).1 hc
  have hT := (den_ok (p := p) FU).2 hc
  intro n
  induction n with
  | zero =>
    refine ⟨fun s => ?_, fun ss => ?_⟩
    · unfold denS; exact ps_stuck
    · unfold denSs; exact pss_stuck
  | succ n ih =>
    obtain ⟨ih1, ih2⟩ := ih
    refine ⟨fun s => ?_, fun ss => ?_⟩
    · unfold denS
      split
      · exact ps_passS
      · exact ps_breakS
      · exact ps_contS
      · split
        · exact ps_retNS
        · rename_i e
          split
          · exact ps_retB (hE _)
          split
          · rename_i x ex
            have he : ∃ q, e = .Name x q := by
              cases e <;> first
                | (cases ex; done)
                | (injection ex with ex; subst ex; exact ⟨_, rfl⟩)
            obtain ⟨q, rfl⟩ := he
            split
            · rename_i i hi
              exact ps_retVS (hc.slot hi)
            · exact ps_retS (hE _)
          · exact frz_ok (ps_retS (hE _))
      · rename_i e q
        split
        · rename_i hd
          cases e with
          | Constant k j q2 =>
            cases k with
            | str z => exact ps_doc.weak fun D σ H ⟨W0, H0, W, r, st, G, q⟩ => q W σ H Fw.refl G
            | _ => cases hd
          | _ => cases hd
        · split
          · rename_i s ed
            exact frz_ok (denApp_ok hc ed)
          · split
            · rename_i hn
              exact frz_ok (ps_exprS (hE _) (sw_no hn))
            · exact ps_stuck
      · exact frz_ok (denAsg_ok hc)
      · rename_i x q op e q2
        split
        · rename_i fn i h1 h2
          obtain ⟨k1, k2, k3⟩ := hc.stores h2
          exact frz_ok (ps_augS1 (augF_ok h1) (hE e) fun te ti he ho => ps_aug (by rw [hc.N]; exact hc.nd) k1 k2 he ho k3)
        · exact ps_stuck
      · exact frz_ok (ps_ifS (hT _) (ih2 _) (ih2 _))
      · split
        · split
          · rename_i hcl
            exact ps_whileS (hc.own hcl) (hT _) (ih2 _)
          · exact ps_stuck
        · exact ps_stuck
      · rename_i tg it b orelse q
        split
        · split
          · rename_i hcl
            split
            · rename_i g us eg
              refine frz_ok (ps_forS (hc.own hcl.1) hc.calm ?_ (denG_ok hc 4 eg) (ih2 _) (noSet hcl.2 X.env))
              split
              · rename_i i ei
                exact denI_ok hc hE ei
              · exact pi_exp hc.hK (hE it)
            · exact ps_stuck
          · exact ps_stuck
        · exact ps_stuck
      · exact ps_stuck
    · unfold denSs
      split
      · exact pss_stuck
      · exact pss_nilS
      · rename_i h; cases h; exact pss_oneS (ih1 _)
      · rename_i h; cases h; exact pss_consS (ih1 _) (ih2 _)
end Tz

set_option Elab.async false
set_option linter.all false
set_option maxRecDepth 100000
set_option maxHeartbeats 4000000
/-! Ts11: a def keeps what its combinators tell; calls; the law. -/
namespace Tz
open PySem L2 PyProof.Rows

def spN (p : Prm) (n : Nat) (F : FSem) : Sp := fun vs H Q E => vs.length = n ∧ spF p F vs H Q E
/-- what is known of a def's calls, consts, built-ins, on these grounds, with room k -/
structure GOk (P : Program) (w : World) (K : PySem.W.Frag) (mg : Str → Option Value) (base : Heap) (k : Nat) (p : Prm) (c : Cfg) : Prop where
  hK : p.K = K
  nd : c.N.Nodup
  kind : c.sc.kind = .function
  calls : ∀ x n ks F, ((x, n, ks), F) ∈ c.calls → CallF P w K mg base k p x n ks F
  consts : ∀ x d, (x, d) ∈ c.consts → ∃ v u, mg x = some u ∧ RelV v u ∧ ∀ W H, Rep p W H d v
  blt : ∀ x, x ∈ c.blt → mg x = none
  cs : CsOk p
  eqs : ∀ x F, (x, F) ∈ c.eqs → CallE P w K mg base k p x F
  sps : ∀ x F, (x, F) ∈ c.sps → CallS P w K mg base k p x F
  mts : ∀ x F, (x, F) ∈ c.mts → CallM P w K mg base k p x F
  cls : ∀ x, x ∈ c.own → mg x = some (.ref (p.cS x)) ∧ x ∈ p.cls
  fl : ∀ f l, (f, l) ∈ c.fl → ∀ k, k ∈ l → k ∈ p.cls → NoAttr K (p.cS k) f
theorem RepL.start {p : Prm} {W : Wd} {H : Hp} {st : Store} {n : Nat} {N : List Str} : ∀ {ds : List D} {vs : List V}, SOk p W H st → RepL p W H ds vs → n = N.length → ds.length ≤ n → Good p W H W (L2.start N vs) H (slots0 n ds) st := by
  intro ds vs S R hn hl
  have hlen := R.length
  have getv : ∀ (i : Nat) d, (slots0 n ds)[i]? = some (.val d) → ds[i]? = some d := by
    intro i d h
    unfold slots0 at h
    by_cases hi : i < ds.length
    · rw [List.getElem?_append_left (by simpa using hi), List.getElem?_map] at h
      cases q : ds[i]? with
      | none => rw [q] at h; cases h
      | some e =>
        rw [q] at h
        injection h with h
        injection h with h
        rw [h]
    · rw [List.getElem?_append_right (by simpa using hi), List.getElem?_replicate] at h
      split at h <;> cases h
  have noown : ∀ (i : Nat) d, (slots0 n ds)[i]? ≠ some (.own d) := by
    intro i d h
    unfold slots0 at h
    by_cases hi : i < ds.length
    · rw [List.getElem?_append_left (by simpa using hi), List.getElem?_map] at h
      cases q : ds[i]? with
      | none => rw [q] at h; cases h
      | some e =>
        rw [q] at h
        injection h with h
        cases h
    · rw [List.getElem?_append_right (by simpa using hi), List.getElem?_replicate] at h
      split at h <;> cases h
  refine ⟨Fut.refl, S, ?_, fun i d h => ?_, fun i d h => absurd h (noown i d), fun i j d e a h => absurd h (noown i d)⟩
  · unfold L2.start slots0
    rw [List.length_append, List.length_append, List.length_map, List.length_map, List.length_replicate, List.length_replicate]
    omega
  · obtain ⟨v, h1, h2⟩ := R.get (getv i d h)
    refine ⟨v, ?_, h2⟩
    unfold L2.start
    have hi := (List.getElem?_eq_some_iff.mp h1).1
    rw [List.getElem?_append_left (by simpa using hi), List.getElem?_map, h1]
    rfl
section
variable {P : Program} {w : World} {K : PySem.W.Frag} {mg : Str → Option Value} {base : Heap} {k : Nat} {p : Prm}
theorem def_ok {f : Addr} {name qual : Str} {params : Arguments} {body : List Stmt} {scope : Scope} {dV kV doc pm cdv ct oc : Value} {an od : Option Addr} {osl : Array (Option Value)} {N ps own : List Str} {c : Cfg} {n m : Nat}
    (lk : K.lookup f = some ⟨oc, od, .func (PySem.W.fnOf name qual params body scope dV kV doc pm an cdv ct), osl⟩) (hcd : PySem.W.codeIn K cdv qual = true) (S : FnScope N ps scope) (hN : c.N = N) (hs : c.sc = scope) (hcel : c.cel = true) (hm : m = N.length)
    (g : GOk P w K mg base k p c) (hp : ps.length ≤ N.length) :
    FnOk P w K mg base (L2.CX P w) (k + 1) f (PySem.W.fnOf name qual params body scope dV kV doc pm an cdv ct) ps (spN p ps.length (fnS m (denSs n c own body))) := by
  refine fn_of lk hcd S (fun vs H Q E h => h.1) fun A outer s H vs Q E hr hsp => ?_
  obtain ⟨hl, W, st, ds, S0, R, q⟩ := hsp
  have hc : COk c (cxOf (L2.CX P w) P w K mg base N qual scope f cdv A outer s H E) p (fun cls d _ H => E cls d H) :=
    { hK := g.hK, N := hN.symm, sc := hs.symm, nd := g.nd, calm := rfl, tk := takes_of rfl rfl rfl rfl, kind := g.kind,
      calls := fun x n ks F h => ⟨k, hr, g.calls x n ks F h⟩, consts := g.consts, blt := g.blt, hu := (show _ < cLine from Nat.lt_of_le_of_lt (Nat.add_le_add (Nat.le_refl _) (show 128 ≤ 16 * k + 200 by omega)) (Nat.add_assoc _ _ _ ▸ (hr.mono (Nat.le_refl _)).un)), cs := g.cs, eqs := ⟨k, hr, g.eqs⟩, sps := ⟨k, hr, g.sps⟩, mts := ⟨k, hr, g.mts⟩, cls := g.cls, fl := g.fl, fn := fun _ _ => rfl, own := fun _ => passes_of rfl }
  refine ⟨_, (denS_ok (own := own) hc n).2 body, ?_⟩
  refine ⟨W, H, W, slots0 m ds, st, RepL.start S0 R hm (by rw [← R.length, hl, hm]; exact hp), ?_⟩
  unfold fnS at q
  cases z : denSs n c own body (slots0 m ds) st with
  | none => simp only [z] at q; exact q
  | some o =>
    simp only [z] at q
    cases o with
    | nx r st1 => exact fun W' σ' H' fw G => q W' H' .non G.fut G.ok rfl
    | bk r st1 => exact False.elim q
    | ct r st1 => exact False.elim q
    | rt v st1 =>
      cases v with
      | val d => exact q
      | fresh d => exact q
      | peek d => exact False.elim q
    | exc e r st1 => exact fun W' σ' H' c d fw G R => q W' H' c d G.fut G.ok R
/-- how written arguments come to the parameters: gD puts the values in the parameters' order, defaults among them -/
structure BindP (p : Prm) (K : PySem.W.Frag) (fd : FuncData) (ps : List Str) (np : Nat) (ks : List Str) (gD : List D → List D) : Prop where
  ex : ∃ (g : List Value → List Value → List Value) (gV : List V → List V → List V), (∀ (s : Shared) (us ws : List Value), K.In s.heap → us.length = np → ws.length = ks.length → BindsTo s fd ⟨us, ks.zip ws⟩ (ps.zip (g us ws))) ∧
    (∀ (vs zs : List V) (us ws : List Value), Vals vs us → Vals zs ws → vs.length = np → zs.length = ks.length → Vals (gV vs zs) (g us ws)) ∧
    (∀ (W : Wd) (H : Hp) (ds : List D) (vs zs : List V), RepL p W H ds (vs ++ zs) → vs.length = np → zs.length = ks.length → RepL p W H (gD ds) (gV vs zs) ∧ (gV vs zs).length = ps.length)
theorem callF_of {f : Addr} {fd : FuncData} {ps : List Str} {F : FSem} {x : Str} {np : Nat} {ks : List Str} {gD : List D → List D} (G : FnOk P w K mg base (L2.CX P w) k f fd ps (spN p ps.length F)) (hm : mg x = some (.ref f)) (hk : PySem.W.keepIn K (.ref f) = true)
    (b : BindP p K fd ps np ks gD) : CallF P w K mg base k p x np ks (fun ds st => F (gD ds) st) := by
  intro X e1 e2 e3 e4 e5 hr
  subst e1 e2 e3 e4 e5
  obtain ⟨g, gV, b1, b2, b3⟩ := b.ex
  refine ⟨_, hm, hk, fun E pins σ H s Q us ws vs zs hx I r rz l1 l2 h => ?_⟩
  obtain ⟨W, st, ds, S, R, q⟩ := h
  obtain ⟨R2, l3⟩ := b3 W H ds vs zs R l1 l2
  refine wpAny_call (codeAny_mono (G.run X.A X.stack s H ⟨us, ks.zip ws⟩ (g us ws) (gV vs zs) Q (E σ) hr I.env0 (b1 s us ws I.kIn (r.length.symm.trans l1) (rz.length.symm.trans l2)) (b2 vs zs us ws r rz l1 l2) ⟨l3, W, st, gD ds, S, R2, q⟩) fun r s' hq => ?_)
  cases r with
  | error e => exact hx pins H s e s' I hq
  | ok fl =>
    cases fl with
    | ret u => exact I.after hq
    | next => exact False.elim hq
    | brk => exact False.elim hq
    | cont => exact False.elim hq
/-- an own __eq__ -/
theorem callE_of {f : Addr} {fd : FuncData} {ps : List Str} {F : FSem} {c : Str} (G : FnOk P w K mg base (L2.CX P w) k f fd ps (spN p ps.length F)) (hl : ps.length = 2) (hs : PySem.W.findIn K (.ref (p.cS c)) "__eq__" = some (some (.ref f))) (hf : PySem.W.isFn K (.ref f) = true)
    (ho : PySem.W.findIn K (.ref (p.cS c)) "__ne__" = some (some (.builtin "object.__ne__"))) (hb : ∀ us : List Value, us.length = 2 → bindArgs fd ⟨us, []⟩ = pure (ps.zip us)) : CallE P w K mg base (k + 1) p c F := by
  intro X e1 e2 e3 e4 e5 hr
  subst e1 e2 e3 e4 e5
  have run : ∀ A : Around, Room k A → (∀ (pins : List (Addr × Obj)) (σ : L2.St) (H : Hp) (s : Shared), Inv X pins σ H s → Env0 X.prog X.w X.K X.mg X.base A X.stack s H) → CallU X p A (.ref f) 2 F := by
    intro A hA he E pins σ H s Q us vs hx I r l1 h
    refine wpAny_call (codeAny_mono (G.run A X.stack s H ⟨us, []⟩ us vs Q (E σ) hA (he pins σ H s I) (.of_eq (hb us (r.length.symm.trans l1))) r ⟨l1.trans hl.symm, h⟩) fun r s' hq => ?_)
    cases r with
    | error e => exact hx pins H s e s' I hq
    | ok fl =>
      cases fl with
      | ret u => exact I.after hq
      | next => exact False.elim hq
      | brk => exact False.elim hq
      | cont => exact False.elim hq
  exact ⟨f, hs, hf, run X.A (hr.mono (Nat.le_succ k)) fun pins σ H s I => I.env0, run X.A.in1 hr.in1 fun pins σ H s I => I.env0.in1, ho⟩
theorem callU_of {f : Addr} {fd : FuncData} {ps : List Str} {F : FSem} {n : Nat} (G : FnOk P w K mg base (L2.CX P w) k f fd ps (spN p ps.length F)) (hl : ps.length = n) (hb : ∀ us : List Value, us.length = n → bindArgs fd ⟨us, []⟩ = pure (ps.zip us))
    {X : Cx} (e1 : X.prog = P) (e2 : X.w = w) (e3 : X.K = K) (e4 : X.mg = mg) (e5 : X.base = base) (A : Around) (hA : Room k A)
    (he : ∀ (pins : List (Addr × Obj)) (σ : L2.St) (H : Hp) (s : Shared), Inv X pins σ H s → Env0 X.prog X.w X.K X.mg X.base A X.stack s H) : CallU X p A (.ref f) n F := by
  subst e1 e2 e3 e4 e5
  intro E pins σ H s Q us vs hx I r l1 h
  refine wpAny_call (codeAny_mono (G.run A X.stack s H ⟨us, []⟩ us vs Q (E σ) hA (he pins σ H s I) (.of_eq (hb us (r.length.symm.trans l1))) r ⟨l1.trans hl.symm, h⟩) fun r s' hq => ?_)
  cases r with
  | error e => exact hx pins H s e s' I hq
  | ok fl =>
    cases fl with
    | ret u => exact I.after hq
    | next => exact False.elim hq
    | brk => exact False.elim hq
    | cont => exact False.elim hq
/-- an own __len__, __str__, __repr__ -/
theorem callS_of {f : Addr} {fd : FuncData} {ps : List Str} {F : FSem} {c nm : Str} (G : FnOk P w K mg base (L2.CX P w) k f fd ps (spN p ps.length F)) (hl : ps.length = 1) (hs : PySem.W.findIn K (.ref (p.cS c)) nm = some (some (.ref f))) (hf : PySem.W.isFn K (.ref f) = true)
    (hnb : PySem.W.findIn K (.ref (p.cS c)) "__bool__" = some none) (hb : ∀ us : List Value, us.length = 1 → bindArgs fd ⟨us, []⟩ = pure (ps.zip us)) : CallS P w K mg base (k + 3) p (c, nm) F := by
  intro X e1 e2 e3 e4 e5 hr
  subst e1 e2 e3 e4 e5
  refine ⟨⟨f, hs, hf, ?_, ?_, ?_, ?_⟩, hnb⟩
  · exact callU_of G hl hb rfl rfl rfl rfl rfl _ (hr.mono (by omega)) fun pins σ H s I => I.env0
  · exact callU_of G hl hb rfl rfl rfl rfl rfl _ (hr.mono (show k + 1 ≤ k + 3 by omega)).in1 fun pins σ H s I => I.env0.in1
  · exact callU_of G hl hb rfl rfl rfl rfl rfl _ (hr.mono (show k + 2 ≤ k + 3 by omega)).in1.in1 fun pins σ H s I => I.env0.in1.in1
  · exact callU_of G hl hb rfl rfl rfl rfl rfl _ hr.in1.in1.in1 fun pins σ H s I => I.env0.in1.in1.in1
/-- a method -/
theorem callM_of {f : Addr} {fd : FuncData} {ps : List Str} {F : FSem} {c m : Str} {np : Nat} {ks : List Str} {gD : List D → List D} (G : FnOk P w K mg base (L2.CX P w) k f fd ps (spN p ps.length F)) (hc : Cls K (p.cS c)) (hm : Meth K (p.cS c) m f)
    (b : BindP p K fd ps (np + 1) ks gD) : CallM P w K mg base k p (c, m, np, ks) (fun ds st => F (gD ds) st) := by
  intro X e1 e2 e3 e4 e5 hr
  subst e1 e2 e3 e4 e5
  obtain ⟨g, gV, b1, b2, b3⟩ := b.ex
  refine ⟨f, hc, hm, fun E pins σ H s Q us ws vs zs hx I r rz l1 l2 h => ?_⟩
  obtain ⟨W, st, ds, S, R, q⟩ := h
  obtain ⟨R2, l3⟩ := b3 W H ds vs zs R l1 l2
  refine wpAny_call (codeAny_mono (G.run X.A X.stack s H ⟨us, ks.zip ws⟩ (g us ws) (gV vs zs) Q (E σ) hr I.env0 (b1 s us ws I.kIn (r.length.symm.trans l1) (rz.length.symm.trans l2)) (b2 vs zs us ws r rz l1 l2) ⟨l3, W, st, gD ds, S, R2, q⟩) fun r s' hq => ?_)
  cases r with
  | error e => exact hx pins H s e s' I hq
  | ok fl =>
    cases fl with
    | ret u => exact I.after hq
    | next => exact False.elim hq
    | brk => exact False.elim hq
    | cont => exact False.elim hq
theorem repL_nil_of {W : Wd} {H : Hp} {vs : List V} (h : RepL p W H [] vs) : vs = [] := h
/-- all parameters are written, by place -/
theorem bind_all {fd : FuncData} {ps : List Str} (h : ∀ us : List Value, us.length = ps.length → bindArgs fd ⟨us, []⟩ = pure (ps.zip us)) : BindP p K fd ps ps.length [] id := by
  refine ⟨fun us _ => us, fun vs _ => vs, fun s us ws _ h1 h2 => .of_eq ?_, fun vs zs us ws r _ _ _ => r, fun W H ds vs zs R l1 l2 => ?_⟩
  · show bindArgs fd ⟨us, []⟩ = _
    exact h us h1
  · have : zs = [] := List.eq_nil_of_length_eq_zero l2
    subst this
    rw [List.append_nil] at R
    exact ⟨R, l1⟩
/-- one keyword alone -/
theorem bind_kw1 {fd : FuncData} {a : Str} (h : ∀ u : Value, bindArgs fd ⟨[], [(a, u)]⟩ = pure [(a, u)]) : BindP p K fd [a] 0 [a] id := by
  refine ⟨fun _ ws => ws, fun _ zs => zs, fun s us ws _ h1 h2 => ?_, fun vs zs us ws _ r _ _ => r, fun W H ds vs zs R l1 l2 => ?_⟩
  · match us, ws, h1, h2 with
    | [], [u], _, _ => exact .of_eq (h u)
  · have : vs = [] := List.eq_nil_of_length_eq_zero l1
    subst this
    exact ⟨R, l2⟩
end
/-- the script, as a tree -/
def scriptD (ns : List Int) : D := .rol (ns.map .int)
theorem repL_ints {p : Prm} {W : Wd} {H : Hp} : ∀ ns : List Int, RepL p W H (ns.map .int) (ns.map V.int)
  | [] => rfl
  | n :: ns => ⟨.int n, ns.map V.int, rfl, rfl, repL_ints ns⟩
/-- the law's own promise, where its run tells True -/
theorem law_sp {p : Prm} {K : PySem.W.Frag} {F : FSem} (hK : p.K = K) (H : Hp) (a : Addr) (ns : List Int) (hF : ∃ st, F [scriptD ns] [] = some (.ret (.val (.bl true)) st)) (hS : SqL K H a (ns.map V.int)) :
    spN p 1 F [.ref a] H (fun v _ => v = .bl true) fun _ _ _ => False := by
  obtain ⟨st, e⟩ := hF
  have mk : ∃ W : Wd, SOk p W H [] ∧ Rep p W H (scriptD ns) (.ref a) := by
    rcases hS with h | h
    · refine ⟨⟨fun b => b = a, 0, fun _ => 0⟩, ⟨rfl, fun n d e => by simp at e, fun n hn => absurd hn (Nat.not_lt_zero n), fun m n hm => absurd hm (Nat.not_lt_zero m), fun b hb => ?_⟩, a, ns.map V.int, rfl, .inl ⟨rfl, hK ▸ .inl h⟩, repL_ints ns⟩
      subst hb
      rcases h with h | ⟨o, h⟩
      · exact some_ne h
      · exact some_ne h
    · exact ⟨⟨fun b => False, 0, fun _ => 0⟩, ⟨rfl, fun n d e => by simp at e, fun n hn => absurd hn (Nat.not_lt_zero n), fun m n hm => absurd hm (Nat.not_lt_zero m), fun b hb => hb.elim⟩, a, ns.map V.int, rfl, .inr fun H0 => hK ▸ .inr h, repL_ints ns⟩
  obtain ⟨W, S, R⟩ := mk
  refine ⟨rfl, W, [], [scriptD ns], S, ⟨_, [], rfl, R, rfl⟩, ?_⟩
  rw [e]
  exact fun W' H' x _ _ h => h
end Tz

set_option Elab.async false
set_option linter.all false
set_option maxRecDepth 100000
set_option maxHeartbeats 4000000
/-! Ts12: small words for the table of a law's defs, and the end with the script's bits. -/
namespace Tz
open PySem L2 PyProof.Rows

theorem CallF.mono {P : Program} {w : World} {K : PySem.W.Frag} {mg : Str → Option Value} {base : Heap} {j k : Nat} {p : Prm} {x : Str} {np : Nat} {ks : List Str} {F : FSem} (h : CallF P w K mg base j p x np ks F) (hl : j ≤ k) : CallF P w K mg base k p x np ks F := fun X e1 e2 e3 e4 e5 hr => h X e1 e2 e3 e4 e5 (hr.mono hl)
section
variable {P : Program} {w : World} {K : PySem.W.Frag} {mg : Str → Option Value} {base : Heap} {k : Nat} {p : Prm}
def AllC (P : Program) (w : World) (K : PySem.W.Frag) (mg : Str → Option Value) (base : Heap) (k : Nat) (p : Prm) (l : List ((Str × Nat × List Str) × FSem)) : Prop :=
  ∀ x n ks F, ((x, n, ks), F) ∈ l → CallF P w K mg base k p x n ks F
theorem allC_nil : AllC P w K mg base k p [] := fun _ _ _ _ h => by cases h
theorem allC_cons {x : Str} {n : Nat} {ks : List Str} {F : FSem} {l : List ((Str × Nat × List Str) × FSem)} (h : CallF P w K mg base k p x n ks F) (t : AllC P w K mg base k p l) : AllC P w K mg base k p (((x, n, ks), F) :: l) := by
  intro x' n' ks' F' hm
  rcases List.mem_cons.mp hm with e | e
  · cases e; exact h
  · exact t _ _ _ _ e
def AllN (mg : Str → Option Value) (l : List Str) : Prop := ∀ x, x ∈ l → mg x = none
theorem allN_nil : AllN mg [] := fun _ h => by cases h
theorem allN_cons {x : Str} {l : List Str} (h : mg x = none) (t : AllN mg l) : AllN mg (x :: l) := by
  intro x' hm
  rcases List.mem_cons.mp hm with e | e
  · cases e; exact h
  · exact t _ e
end
abbrev pK (K : PySem.W.Frag) : Prm := ⟨K, fun _ => 0, fun _ => 0, fun _ => none, []⟩
theorem noexc {P : Program} {w : World} {o : List Env} {H : Hp} {s : Shared} {e : Value} {s' : Shared} (z : L2.CX P w o H s (fun _ _ _ => False) e s') : False := by
  obtain ⟨_, _, _, _, _, _, _, _, _, _, _, _, h⟩ := z
  exact h
end Tz

set_option Elab.async false
set_option linter.all false
set_option maxRecDepth 100000
set_option maxHeartbeats 1000000
/-! Tm: arguments by a plan (defaults, keywords in any turn), new instances. -/
namespace Tz
open PySem L2 PyProof.Rows
inductive Src where
  | p (i : Nat) | k (i : Nat) | d (i : Nat)
def planX {α : Type} (z : α) (us ws its : List α) : List Src → List α
  | [] => []
  | .p i :: r => us.getD i z :: planX z us ws its r
  | .k i :: r => ws.getD i z :: planX z us ws its r
  | .d i :: r => its.getD i z :: planX z us ws its r
def planR (np : Nat) : List Src → Bool
  | [] => true
  | .p i :: r => decide (i < np) && planR np r
  | _ :: r => planR np r
theorem planX_len {α : Type} {z : α} {us ws its : List α} : ∀ pl : List Src, (planX z us ws its pl).length = pl.length
  | [] => rfl
  | .p i :: r => congrArg Nat.succ (planX_len r)
  | .k i :: r => congrArg Nat.succ (planX_len r)
  | .d i :: r => congrArg Nat.succ (planX_len r)
theorem vals_getD : ∀ {vs : List V} {us : List Value} (i : Nat), Vals vs us → RelV (vs.getD i .non) (us.getD i .none)
  | _, _, _, .nil => by simp only [List.getD_nil]; exact rfl
  | _, _, 0, .cons r t => by simpa using r
  | _, _, i + 1, .cons r t => by simpa using vals_getD i t
theorem plan_vals {vs zs ds : List V} {us ws its : List Value} (h1 : Vals vs us) (h2 : Vals zs ws) (h3 : Vals ds its) : ∀ pl : List Src, Vals (planX .non vs zs ds pl) (planX .none us ws its pl)
  | [] => .nil
  | .p i :: r => .cons (vals_getD i h1) (plan_vals h1 h2 h3 r)
  | .k i :: r => .cons (vals_getD i h2) (plan_vals h1 h2 h3 r)
  | .d i :: r => .cons (vals_getD i h3) (plan_vals h1 h2 h3 r)
theorem repL_getD {p : Prm} {W : Wd} {H : Hp} : ∀ {ds : List D} {vs : List V} (i : Nat), RepL p W H ds vs → Rep p W H (ds.getD i .non) (vs.getD i .non)
  | [], vs, i, h => by
    have h : vs = [] := h
    subst h
    simp only [List.getD_nil]
    exact rfl
  | x :: xs, vs, 0, h => by
    obtain ⟨v, r, e, h1, h2⟩ := h
    subst e
    simpa using h1
  | x :: xs, vs, i + 1, h => by
    obtain ⟨v, r, e, h1, h2⟩ := h
    subst e
    simpa using repL_getD i h2
/-- the tree level: np written by place, then the keywords' -/
def planD (np : Nat) (dD : List D) : List Src → List D → List D
  | [], _ => []
  | .p i :: r, ds => ds.getD i .non :: planD np dD r ds
  | .k i :: r, ds => ds.getD (np + i) .non :: planD np dD r ds
  | .d i :: r, ds => dD.getD i .non :: planD np dD r ds
theorem plan_rep {p : Prm} {W : Wd} {H : Hp} {ds dD : List D} {vs zs dV : List V} {np : Nat} (h : RepL p W H ds (vs ++ zs)) (hl : vs.length = np) (hd : RepL p W H dD dV) : ∀ pl : List Src, planR np pl = true → RepL p W H (planD np dD pl ds) (planX .non vs zs dV pl)
  | [], _ => rfl
  | .p i :: r, hp => by
    unfold planR at hp
    rw [Bool.and_eq_true] at hp
    refine ⟨_, _, rfl, ?_, plan_rep h hl hd r hp.2⟩
    have z := repL_getD i h
    have hi : i < vs.length := by rw [hl]; exact of_decide_eq_true hp.1
    rw [List.getD_eq_getElem?_getD (l := vs ++ zs), List.getElem?_append_left hi, ← List.getD_eq_getElem?_getD] at z
    exact z
  | .k i :: r, hp => by
    refine ⟨_, _, rfl, ?_, plan_rep h hl hd r hp⟩
    have z := repL_getD (np + i) h
    rw [List.getD_eq_getElem?_getD (l := vs ++ zs), List.getElem?_append_right (by omega), hl, Nat.add_sub_cancel_left, ← List.getD_eq_getElem?_getD] at z
    exact z
  | .d i :: r, hp => ⟨_, _, rfl, repL_getD i hd, plan_rep h hl hd r hp⟩
def bnd (np : Nat) (dD : List D) (pl : List Src) (F : FSem) : FSem := fun ds st => F (planD np dD pl ds) st
section
variable {P : Program} {w : World} {K : PySem.W.Frag} {mg : Str → Option Value} {base : Heap} {k : Nat} {p : Prm}
/-- no defaults -/
theorem bind_pl {fd : FuncData} {ps : List Str} {np : Nat} {ks : List Str} (pl : List Src) (hr : planR np pl = true) (hl : pl.length = ps.length)
    (h : ∀ us ws : List Value, us.length = np → ws.length = ks.length → bindArgs fd ⟨us, ks.zip ws⟩ = pure (ps.zip (planX .none us ws [] pl))) : BindP p K fd ps np ks (planD np [] pl) :=
  ⟨fun us ws => planX .none us ws [] pl, fun vs zs => planX .non vs zs [] pl, fun s us ws X l1 l2 => .of_eq (h us ws l1 l2), fun vs zs us ws r rz _ _ => plan_vals r rz .nil pl,
   fun W H ds vs zs R l1 l2 => ⟨plan_rep (dD := []) (dV := []) R l1 rfl pl hr, (planX_len pl).trans hl⟩⟩
/-- defaults, in the tuple at T -/
theorem bind_df {fd : FuncData} {ps : List Str} {np : Nat} {ks : List Str} {T : Addr} {oT : Obj} {its : List Value} {n : Nat} {dD : List D} {dV : List V} (lT : K.lookup T = some oT) (ho : oT.data = .seq its.toArray n) (hv : Vals dV its) (hd : ∀ W H, RepL p W H dD dV)
    (pl : List Src) (hr : planR np pl = true) (hl : pl.length = ps.length)
    (h : ∀ us ws : List Value, us.length = np → ws.length = ks.length → ∃ k, bindArgs fd ⟨us, ks.zip ws⟩ = seqItems? (.ref T) >>= k ∧ k (some its.toArray) = pure (ps.zip (planX .none us ws its pl))) : BindP p K fd ps np ks (planD np dD pl) :=
  ⟨fun us ws => planX .none us ws its pl, fun vs zs => planX .non vs zs dV pl, fun s us ws X l1 l2 => by
    obtain ⟨k, e1, e2⟩ := h us ws l1 l2
    refine BindsTo.of_looks fun M => ?_
    show PySem.W.Looks M s.heap (bindArgs fd ⟨us, ks.zip ws⟩) _
    rw [e1]
    exact looks_items X lT ho (.of_pure e2), fun vs zs us ws r rz _ _ => plan_vals r rz hv pl,
   fun W H ds vs zs R l1 l2 => ⟨plan_rep R l1 (hd W H) pl hr, (planX_len pl).trans hl⟩⟩
end
/-! ### new instances -/
mutual
def noR (n : Nat) : D → Bool
  | .ref m => !(m == n)
  | .tup xs => noRs n xs
  | .lst xs => noRs n xs
  | .rol xs => noRs n xs
  | .ins _ _ fs => noRs n fs
  | .dct _ xs => noRs n xs
  | _ => true
def noRs (n : Nat) : List D → Bool
  | [] => true
  | x :: xs => noR n x && noRs n xs
end
def Wd.cut (W : Wd) (n : Nat) : Wd := { W with n := n }
section
variable {p : Prm} {W W' : Wd} {H H' : Hp} {st : Store}
mutual
theorem noR_of {m : Nat} (hm : W.n ≤ m) : ∀ (d : D) (v : V), Rep p W H d v → noR m d = true
  | .non, _, _ => rfl
  | .bl _, _, _ => rfl
  | .int _, _, _ => rfl
  | .str _, _, _ => rfl
  | .tup xs, _, h => by
    obtain ⟨a, vs, e, hs, hr⟩ := h
    exact noRs_of hm xs vs hr
  | .lst xs, _, h => by
    obtain ⟨a, vs, e, hf, hs, hr⟩ := h
    exact noRs_of hm xs vs hr
  | .rol xs, _, h => by
    obtain ⟨a, vs, e, hf, hr⟩ := h
    exact noRs_of hm xs vs hr
  | .ref n, _, h => by
    obtain ⟨h1, h2⟩ := h
    show (!(n == m)) = true
    have : n ≠ m := fun z => absurd h1 (Nat.not_lt.mpr (z ▸ hm))
    simpa using this
  | .ins c ns fs, _, h => by
    obtain ⟨a, dx, vs, e, hf, hs, hr, _⟩ := h
    exact noRs_of hm fs vs hr
  | .dct ks xs, _, h => by
    obtain ⟨a, vs, e, hf, hs, hr⟩ := h
    exact noRs_of hm xs vs hr
theorem noRs_of {m : Nat} (hm : W.n ≤ m) : ∀ (ds : List D) (vs : List V), RepL p W H ds vs → noRs m ds = true
  | [], _, h => rfl
  | x :: xs, _, h => by
    obtain ⟨v, r, e, h1, h2⟩ := h
    show (noR m x && noRs m xs) = true
    rw [noR_of hm x v h1, noRs_of hm xs r h2]
    rfl
end
theorem noRC_of {m : Nat} {d : D} {a : Addr} (hm : W.n ≤ m) (h : RepC p W H d a) : noR m d = true := by
  cases d with
  | lst xs =>
    obtain ⟨vs, h1, h2⟩ := h
    exact noRs_of hm xs vs h2
  | ins c ns fs =>
    obtain ⟨dx, vs, h1, h2, _⟩ := h
    exact noRs_of hm fs vs h2
  | dct ks xs =>
    obtain ⟨vs, h1, h2⟩ := h
    exact noRs_of hm xs vs h2
  | _ => exact h.elim
mutual
theorem Rep.cut {n : Nat} (hn : W.n = n + 1) : ∀ (d : D) (v : V), noR n d = true → Rep p W H d v → Rep p (W.cut n) H d v
  | .non, _, _, h => h
  | .bl _, _, _, h => h
  | .int _, _, _, h => h
  | .str _, _, _, h => h
  | .tup xs, _, z, h => by
    obtain ⟨a, vs, e, hs, hr⟩ := h
    exact ⟨a, vs, e, hs, RepL.cut hn xs vs z hr⟩
  | .lst xs, _, z, h => by
    obtain ⟨a, vs, e, hf, hs, hr⟩ := h
    exact ⟨a, vs, e, hf, hs, RepL.cut hn xs vs z hr⟩
  | .rol xs, _, z, h => by
    obtain ⟨a, vs, e, hf, hr⟩ := h
    exact ⟨a, vs, e, hf, RepL.cut hn xs vs z hr⟩
  | .ref m, _, z, h => by
    obtain ⟨h1, h2⟩ := h
    have z : (!(m == n)) = true := z
    have z : m ≠ n := by simpa using z
    have h3 : m < n + 1 := by rw [← hn]; exact h1
    exact ⟨Nat.lt_of_le_of_ne (Nat.lt_succ_iff.mp h3) z, h2⟩
  | .ins c ns fs, _, z, h => by
    obtain ⟨a, dx, vs, e, hf, hs, hr, hm⟩ := h
    exact ⟨a, dx, vs, e, hf, hs, RepL.cut hn fs vs z hr, hm⟩
  | .dct ks xs, _, z, h => by
    obtain ⟨a, vs, e, hf, hs, hr⟩ := h
    exact ⟨a, vs, e, hf, hs, RepL.cut hn xs vs z hr⟩
theorem RepL.cut {n : Nat} (hn : W.n = n + 1) : ∀ (ds : List D) (vs : List V), noRs n ds = true → RepL p W H ds vs → RepL p (W.cut n) H ds vs
  | [], _, _, h => h
  | x :: xs, _, z, h => by
    obtain ⟨v, r, e, h1, h2⟩ := h
    have z : (noR n x && noRs n xs) = true := z
    rw [Bool.and_eq_true] at z
    exact ⟨v, r, e, Rep.cut hn x v z.1 h1, RepL.cut hn xs r z.2 h2⟩
end
theorem RepC.cut {n : Nat} (hn : W.n = n + 1) {d : D} {a : Addr} (z : noR n d = true) (h : RepC p W H d a) : RepC p (W.cut n) H d a := by
  cases d with
  | lst xs =>
    obtain ⟨vs, h1, h2⟩ := h
    exact ⟨vs, h1, RepL.cut hn xs vs z h2⟩
  | ins c ns fs =>
    obtain ⟨dx, vs, h1, h2, h3⟩ := h
    exact ⟨dx, vs, h1, RepL.cut hn fs vs z h2, h3⟩
  | dct ks xs =>
    obtain ⟨vs, h1, h2⟩ := h
    exact ⟨vs, h1, RepL.cut hn xs vs z h2⟩
  | _ => exact h.elim
theorem SOk.cut {n : Nat} {d : D} (hn : W.n = n + 1) (S : SOk p W H (st ++ [d])) (hst : st.length = n) (hz : ∀ (i : Nat) (e : D), st[i]? = some e → noR n e = true) : SOk p (W.cut n) H st where
  len := hst
  at_ := fun i e h => by
    have hi := (List.getElem?_eq_some_iff.mp h).1
    exact (S.at_ i e (by rw [List.getElem?_append_left hi]; exact h)).cut hn (hz i e h)
  nf := fun i hi => S.nf i (by rw [hn]; exact Nat.lt_succ_of_lt hi)
  inj := fun i j hi hj => S.inj i j (by rw [hn]; exact Nat.lt_succ_of_lt hi) (by rw [hn]; exact Nat.lt_succ_of_lt hj)
  fok := S.fok
end
open Classical in
/-- C(..): __init__ runs with the new instance as the store's last thing; it is taken off again -/
noncomputable def mkF (cls : Str) (F : FSem) : FSem := fun ds st => match F (.ref st.length :: ds) (st ++ [.ins cls [] []]) with
  | some (.ret (.val .non) st2) => match st2[st.length]? with
    | some d => if st2 = st ++ [d] ∧ noR st.length d = true then some (.ret (.val d) st) else none
    | none => none
  | some (.exc x st2) => match st2[st.length]? with
    | some d => if st2 = st ++ [d] ∧ noR st.length x.fld = true then some (.exc x st) else none
    | none => none
  | _ => none
theorem mkF_ret {cls : Str} {F : FSem} {ds : List D} {st : Store} {d : D} (h : F (.ref st.length :: ds) (st ++ [.ins cls [] []]) = some (.ret (.val .non) (st ++ [d]))) (hn : noR st.length d = true) : mkF cls F ds st = some (.ret (.val d) st) := by
  unfold mkF
  simp only [h, List.getElem?_append_right (Nat.le_refl _), Nat.sub_self, List.getElem?_cons_zero]
  rw [if_pos ⟨trivial, hn⟩]
theorem mkF_exc {cls : Str} {F : FSem} {ds : List D} {st : Store} {d : D} {x : Ex} (h : F (.ref st.length :: ds) (st ++ [.ins cls [] []]) = some (.exc x (st ++ [d]))) (hn : noR st.length x.fld = true) : mkF cls F ds st = some (.exc x st) := by
  unfold mkF
  simp only [h, List.getElem?_append_right (Nat.le_refl _), Nat.sub_self, List.getElem?_cons_zero]
  rw [if_pos ⟨trivial, hn⟩]
section
variable {P : Program} {w : World} {K : PySem.W.Frag} {mg : Str → Option Value} {base : Heap} {k : Nat} {p : Prm}
theorem cut_fut {W W' : Wd} {H H' : Hp} {x dx : Addr} {o o' : HO} {st : Store} (S : SOk p W H st) (hx : H x = none) (hd : H dx = none) (hne : dx ≠ x) (f : Fut (W.ext x) (upd (upd H dx o) x o') W' H') : Fut W H (W'.cut W.n) H' where
  fsub := f.fsub
  mu := fun i hi => (f.mu i (Nat.lt_succ_of_lt hi)).trans (ext_old hi)
  keep := fun a q h hn => by
    have h1 : a ≠ x := fun z => by rw [z, hx] at h; cases h
    have h2 : a ≠ dx := fun z => by rw [z, hd] at h; cases h
    refine f.keep a q (by rw [upd_ne h1, upd_ne h2]; exact h) fun i hi e => ?_
    by_cases hl : i < W.n
    · exact hn i hl (by rw [← ext_old (a := x) hl]; exact e)
    · have ei : i = W.n := by
        have : i < W.n + 1 := hi
        omega
      rw [ei, ext_new] at e
      exact h1 e.symm
  nf := fun a q h hf => by
    have h1 : a ≠ x := fun z => by rw [z, hx] at h; cases h
    have h2 : a ≠ dx := fun z => by rw [z, hd] at h; cases h
    exact f.nf a q (by rw [upd_ne h1, upd_ne h2]; exact h) hf
  dom := fun i h1 h2 => absurd h1 (Nat.not_le.mpr h2)
  le := Nat.le_refl _
  tr := fun a h => f.tr a (by
    by_cases h1 : a = x
    · rw [h1, upd_same]; exact fun z => by cases z
    · rw [upd_ne h1]
      by_cases h2 : a = dx
      · rw [h2, upd_same]; exact fun z => by cases z
      · rw [upd_ne h2]; exact h)
theorem made_ok {cls : Str} {F : FSem} {vs : List V} {gD : List D → List D} {gV : List V → List V} {H : Hp} {Q : VK} {E : XK} {m : Nat} (hcls : cls ∈ p.cls) (x dx : Addr) (hx : H x = none) (hd : H dx = none) (hne : dx ≠ x)
    (hb : ∀ (W : Wd) (H : Hp) (ds : List D), RepL p W H ds (.ref x :: vs) → RepL p W H (gD ds) (gV (.ref x :: vs)) ∧ (gV (.ref x :: vs)).length = m)
    (h : spF p (mkF cls fun ds st => F (gD ds) st) vs H Q E) :
    spN p m F (gV (.ref x :: vs)) (upd (upd H dx (.own x)) x (.ins (p.cS cls) dx [])) (fun v H2 => v = .non ∧ Q (.ref x) H2) E := by
  obtain ⟨W, st, ds, S, R, q⟩ := h
  have S1 : SOk p W (upd (upd H dx (.own x)) x (.ins (p.cS cls) dx [])) st := (S.laid hd).laid (by rw [upd_ne (Ne.symm hne)]; exact hx)
  have f1 : Fut W H W (upd (upd H dx (.own x)) x (.ins (p.cS cls) dx [])) := (Fut.laid S hd).trans (Fut.laid (S.laid hd) (by rw [upd_ne (Ne.symm hne)]; exact hx))
  have S2 : SOk p (W.ext x) (upd (upd H dx (.own x)) x (.ins (p.cS cls) dx [])) (st ++ [.ins cls [] []]) := S1.ext ⟨dx, [], upd_same, rfl, hcls⟩ (S.nF hx) (S.ne hx)
  have R2 : RepL p (W.ext x) (upd (upd H dx (.own x)) x (.ins (p.cS cls) dx [])) (.ref st.length :: ds) (.ref x :: vs) := by
    refine ⟨.ref x, vs, rfl, ⟨by rw [S.len]; exact Nat.lt_succ_self _, by rw [S.len, ext_new]⟩, ?_⟩
    exact RepL.fw Fw.ext ds vs (RepL.fut f1 S ds vs R)
  obtain ⟨R3, l3⟩ := hb _ _ _ R2
  refine ⟨l3, W.ext x, st ++ [.ins cls [] []], gD (.ref st.length :: ds), S2, R3, ?_⟩
  unfold mkF at q
  have nost : ∀ (i : Nat) (e : D), st[i]? = some e → noR W.n e = true := fun i e h => noRC_of (Nat.le_refl _) (S.at_ i e h)
  cases z : F (gD (.ref st.length :: ds)) (st ++ [.ins cls [] []]) with
  | none => simp only [z] at q; exact q
  | some r =>
    simp only [z] at q
    cases r with
    | ret v st2 =>
      cases v with
      | val d0 =>
        cases d0 with
        | non =>
          simp only at q
          cases z2 : st2[st.length]? with
          | none => simp only [z2] at q; exact q.elim
          | some d =>
            simp only [z2] at q
            by_cases hh : st2 = st ++ [d] ∧ noR st.length d = true
            · rw [if_pos hh] at q
              obtain ⟨e1, e2⟩ := hh
              subst e1
              intro W' H' v f S' R'
              refine ⟨R', ?_⟩
              have hn : W'.n = W.n + 1 := by rw [← S'.len, List.length_append, S.len]; rfl
              have mx : W'.mu W.n = x := (f.mu W.n (Nat.lt_succ_self _)).trans ext_new
              have c := S'.at_ W.n d (by rw [← S.len]; exact z2)
              rw [mx] at c
              rw [S.len] at e2
              have hnm : ∀ i, i < (W'.cut W.n).n → (W'.cut W.n).mu i ≠ x := by
                intro i hi e
                have hi : i < W.n := hi
                have := S'.inj i W.n (by rw [hn]; exact Nat.lt_succ_of_lt hi) (by rw [hn]; exact Nat.lt_succ_self _) (by rw [mx]; exact e)
                omega
              have c2 := c.cut hn e2
              obtain ⟨o, ho⟩ := c2.some
              refine q ((W'.cut W.n).add x) H' (.ref x) ((cut_fut S hx hd hne f).still hx) ((S'.cut hn S.len nost).still hnm (some_ne ho)) ?_
              exact c2.still
            · rw [if_neg hh] at q
              exact q.elim
        | _ => exact q.elim
      | _ => exact q.elim
    | exc e st2 =>
      simp only at q
      cases z2 : st2[st.length]? with
      | none => simp only [z2] at q; exact q.elim
      | some d =>
        simp only [z2] at q
        by_cases hh : st2 = st ++ [d] ∧ noR st.length e.fld = true
        · rw [if_pos hh] at q
          obtain ⟨e1, e2⟩ := hh
          subst e1
          intro W' H' c dd f S' R'
          have hn : W'.n = W.n + 1 := by rw [← S'.len, List.length_append, S.len]; rfl
          rw [S.len] at e2
          refine q (W'.cut W.n) H' c dd (cut_fut S hx hd hne f) (S'.cut hn S.len nost) ⟨R'.1, ?_⟩
          have r2 := R'.2
          cases qf : p.xF e.cls with
          | none => trivial
          | some fl =>
            rw [qf] at r2
            obtain ⟨d1, v1, k1, k2, k3⟩ := r2
            exact ⟨d1, v1, k1, k2, Rep.cut hn _ _ e2 k3⟩
        · rw [if_neg hh] at q
          exact q.elim
theorem callF_mk {f C : Addr} {fd : FuncData} {ps : List Str} {F : FSem} {x cls : Str} {np : Nat} {ks : List Str} {gD : List D → List D} (G : FnOk P w K mg base (L2.CX P w) k f fd ps (spN p ps.length F)) (hm : mg x = some (.ref C)) (M : Mk K C f)
    (hC : p.cS cls = C) (hcls : cls ∈ p.cls) (b : BindP p K fd ps (np + 1) ks gD) : CallF P w K mg base (k + 1) p x np ks (mkF cls fun ds st => F (gD ds) st) := by
  intro X e1 e2 e3 e4 e5 hr
  subst e1 e2 e3 e4 e5
  subst hC
  obtain ⟨g, gV, b1, b2, b3⟩ := b.ex
  refine ⟨_, hm, M.kp, fun E pins σ H s Q us ws vs zs hx I r rz l1 l2 h => ?_⟩
  have l1' : (V.ref (s.heap.objs.size + 1) :: vs).length = np + 1 := by rw [List.length_cons, l1]
  have hq := made_ok (gV := fun _ => gV (V.ref (s.heap.objs.size + 1) :: vs) zs) (m := ps.length) hcls (s.heap.objs.size + 1) s.heap.objs.size (I.hok.fresh (Nat.le_succ _)) (I.hok.fresh (Nat.le_refl _)) (Nat.ne_of_lt (Nat.lt_succ_self _))
    (fun W H ds R => b3 W H ds (V.ref (s.heap.objs.size + 1) :: vs) zs R l1' l2) h
  have I2 := Inv.made (C := p.cS cls) I
  have r1 : Vals (V.ref (s.heap.objs.size + 1) :: vs) (Value.ref (s.heap.objs.size + 1) :: us) := .cons rfl r
  have n1 : (Value.ref (s.heap.objs.size + 1) :: us).length = np + 1 := by
    rw [List.length_cons, ← r.length, l1]
  refine wpAny_call (make_map (f := f) I.kIn M.makes M.init (beq_iff_eq.mp M.fn) (codeAny_mono (G.run _ X.stack _ _ ⟨Value.ref (s.heap.objs.size + 1) :: us, ks.zip ws⟩ (g (Value.ref (s.heap.objs.size + 1) :: us) ws) _ _ (E σ) (hr.make (p.cS cls) us (ks.zip ws))
    (I2.env0.make (p.cS cls) us (ks.zip ws)) (b1 _ (Value.ref (s.heap.objs.size + 1) :: us) ws I2.kIn n1 (rz.length.symm.trans l2)) (b2 _ _ _ _ r1 rz l1' l2) hq) fun r s' hq' => ?_))
  cases r with
  | error e => exact hx pins _ _ e s' I2 hq'
  | ok fl =>
    cases fl with
    | ret u =>
      obtain ⟨v, H', I3, rv, ev, q3⟩ := I2.after hq'
      subst ev
      exact ⟨rv, ⟨V.ref (s.heap.objs.size + 1), H', I3, rfl, q3⟩⟩
    | next => exact False.elim hq'
    | brk => exact False.elim hq'
    | cont => exact False.elim hq'
end
/-! ### words for a law's table -/
def pOf (K : PySem.W.Frag) (l : List (Str × Addr)) : Prm := ⟨K, fun x => (l.lookup x).getD 0, fun _ => 0, fun _ => none, l.map (·.1)⟩
def clsS (s : Stmt) (i : Nat) : Stmt := match s with
  | .ClassDef _ _ _ body _ _ _ _ _ _ _ => body.getD i (.Pass ⟨0, 0, 0, 0⟩)
  | _ => .Pass ⟨0, 0, 0, 0⟩
def AllP {α : Type} (P : α → Prop) (l : List α) : Prop := ∀ x, x ∈ l → P x
theorem allP_nil {α : Type} {P : α → Prop} : AllP P [] := fun _ h => by cases h
theorem allP_cons {α : Type} {P : α → Prop} {x : α} {l : List α} (h : P x) (t : AllP P l) : AllP P (x :: l) := fun y hy => by
  rcases List.mem_cons.mp hy with e | e
  · rw [e]; exact h
  · exact t y e
section
variable {p : Prm} {K : PySem.W.Frag} {mg : Str → Option Value}
theorem csOk_of (h : AllP (fun c => CFac p.K (p.cS c)) p.cls) (h2 : AllP (fun c => AllP (fun d => c ≠ d → PySem.W.subIn p.K (.ref (p.cS c)) (.ref (p.cS d)) = some false ∧ p.cS c ≠ p.cS d) p.cls) p.cls) : CsOk p :=
  ⟨fun c hc => h c hc, fun c d hc hd hn => h2 c hc d hd hn⟩
/-- a value of the written part is this tree -/
def Cst (p : Prm) (d : D) (u : Value) : Prop := ∃ v, RelV v u ∧ ∀ W H, Rep p W H d v
def CstA (p : Prm) (ds : List D) (us : List Value) : Prop := ∃ vs, Vals vs us ∧ ∀ W H, RepL p W H ds vs
theorem cst_int {i : Int} {t : _} : Cst p (.int i) (.int i t) := ⟨.int i, ⟨t, rfl⟩, fun _ _ => rfl⟩
theorem cst_bl {i : Bool} : Cst p (.bl i) (.bool i) := ⟨.bl i, rfl, fun _ _ => rfl⟩
theorem cst_non : Cst p .non .none := ⟨.non, rfl, fun _ _ => rfl⟩
theorem cst_str {i : Str} {t : _} : Cst p (.str i) (.str i t) := ⟨.str i, ⟨t, rfl⟩, fun _ _ => rfl⟩
theorem cstA_nil : CstA p [] [] := ⟨[], .nil, fun _ _ => rfl⟩
theorem cstA_cons {d : D} {u : Value} {ds : List D} {us : List Value} (h : Cst p d u) (t : CstA p ds us) : CstA p (d :: ds) (u :: us) := by
  obtain ⟨v, h1, h2⟩ := h
  obtain ⟨vs, t1, t2⟩ := t
  exact ⟨v :: vs, .cons h1 t1, fun W H => ⟨v, vs, rfl, h2 W H, t2 W H⟩⟩
theorem cst_tup {a : Addr} {od : Option Addr} {its : Array Value} {n : Nat} {sl : Array (Option Value)} {ds : List D} (h : p.K.lookup a = some ⟨.type "tuple", od, .seq its n, sl⟩) (hs : its.size ≤ 1000) (t : CstA p ds its.toList) : Cst p (.tup ds) (.ref a) := by
  obtain ⟨vs, t1, t2⟩ := t
  exact ⟨.ref a, rfl, fun W H => ⟨a, vs, rfl, .inr ⟨_, its, n, h, rfl, rfl, Nat.le_trans hs (by rw [sizeLine_eq]; omega), t1⟩, t2 W H⟩⟩
def AllK (mg : Str → Option Value) (p : Prm) (l : List (Str × D)) : Prop := ∀ x d, (x, d) ∈ l → ∃ v u, mg x = some u ∧ RelV v u ∧ ∀ W H, Rep p W H d v
theorem allK_nil : AllK mg p [] := fun _ _ h => by cases h
theorem allK_cons {x : Str} {d : D} {u : Value} {l : List (Str × D)} (h : mg x = some u) (c : Cst p d u) (t : AllK mg p l) : AllK mg p ((x, d) :: l) := by
  intro x' d' hm
  rcases List.mem_cons.mp hm with e | e
  · cases e
    obtain ⟨v, h1, h2⟩ := c
    exact ⟨v, u, h, h1, h2⟩
  · exact t _ _ e
def AllO (mg : Str → Option Value) (p : Prm) (l : List Str) : Prop := ∀ x, x ∈ l → mg x = some (.ref (p.cS x)) ∧ x ∈ p.cls
theorem allO_nil : AllO mg p [] := fun _ h => by cases h
theorem allO_cons {x : Str} {l : List Str} (h : mg x = some (.ref (p.cS x))) (c : x ∈ p.cls) (t : AllO mg p l) : AllO mg p (x :: l) := by
  intro x' hm
  rcases List.mem_cons.mp hm with e | e
  · rw [e]; exact ⟨h, c⟩
  · exact t _ e
def AllA (K : PySem.W.Frag) (p : Prm) (f : Str) (l : List Str) : Prop := ∀ k, k ∈ l → k ∈ p.cls → NoAttr K (p.cS k) f
theorem allA_nil {f : Str} : AllA K p f [] := fun _ h => by cases h
theorem allA_cons {f x : Str} {l : List Str} (h : NoAttr K (p.cS x) f) (t : AllA K p f l) : AllA K p f (x :: l) := by
  intro x' hm hc
  rcases List.mem_cons.mp hm with e | e
  · rw [e]; exact h
  · exact t _ e hc
theorem allA_no {f x : Str} {l : List Str} (h : x ∉ p.cls) (t : AllA K p f l) : AllA K p f (x :: l) := by
  intro x' hm hc
  rcases List.mem_cons.mp hm with e | e
  · rw [e] at hc; exact absurd hc h
  · exact t _ e hc
def AllF (K : PySem.W.Frag) (p : Prm) (l : List (Str × List Str)) : Prop := ∀ f cs, (f, cs) ∈ l → AllA K p f cs
theorem allF_nil : AllF K p [] := fun _ _ h => by cases h
theorem allF_cons {f : Str} {cs : List Str} {l : List (Str × List Str)} (h : AllA K p f cs) (t : AllF K p l) : AllF K p ((f, cs) :: l) := by
  intro f' cs' hm
  rcases List.mem_cons.mp hm with e | e
  · cases e; exact h
  · exact t _ _ e
theorem CallE.mono {P : Program} {w : World} {base : Heap} {j k : Nat} {x : Str} {F : FSem} (h : CallE P w K mg base j p x F) (hl : j ≤ k) : CallE P w K mg base k p x F := fun X e1 e2 e3 e4 e5 hr => h X e1 e2 e3 e4 e5 (hr.mono hl)
def AllE (P : Program) (w : World) (K : PySem.W.Frag) (mg : Str → Option Value) (base : Heap) (k : Nat) (p : Prm) (l : List (Str × FSem)) : Prop := ∀ x F, (x, F) ∈ l → CallE P w K mg base k p x F
theorem allE_nil {P : Program} {w : World} {base : Heap} {k : Nat} : AllE P w K mg base k p [] := fun _ _ h => by cases h
theorem allE_cons {P : Program} {w : World} {base : Heap} {k : Nat} {x : Str} {F : FSem} {l : List (Str × FSem)} (h : CallE P w K mg base k p x F) (t : AllE P w K mg base k p l) : AllE P w K mg base k p ((x, F) :: l) := by
  intro x' F' hm
  rcases List.mem_cons.mp hm with e | e
  · cases e; exact h
  · exact t _ _ e
theorem CallS.mono {P : Program} {w : World} {base : Heap} {j k : Nat} {x : Str × Str} {F : FSem} (h : CallS P w K mg base j p x F) (hl : j ≤ k) : CallS P w K mg base k p x F := fun X e1 e2 e3 e4 e5 hr => h X e1 e2 e3 e4 e5 (hr.mono hl)
def AllS (P : Program) (w : World) (K : PySem.W.Frag) (mg : Str → Option Value) (base : Heap) (k : Nat) (p : Prm) (l : List ((Str × Str) × FSem)) : Prop := ∀ x F, (x, F) ∈ l → CallS P w K mg base k p x F
theorem allS_nil {P : Program} {w : World} {base : Heap} {k : Nat} : AllS P w K mg base k p [] := fun _ _ h => by cases h
theorem allS_cons {P : Program} {w : World} {base : Heap} {k : Nat} {x : Str × Str} {F : FSem} {l : List ((Str × Str) × FSem)} (h : CallS P w K mg base k p x F) (t : AllS P w K mg base k p l) : AllS P w K mg base k p ((x, F) :: l) := by
  intro x' F' hm
  rcases List.mem_cons.mp hm with e | e
  · cases e; exact h
  · exact t _ _ e
theorem CallM.mono {P : Program} {w : World} {base : Heap} {j k : Nat} {x : MKey} {F : FSem} (h : CallM P w K mg base j p x F) (hl : j ≤ k) : CallM P w K mg base k p x F := fun X e1 e2 e3 e4 e5 hr => h X e1 e2 e3 e4 e5 (hr.mono hl)
def AllM (P : Program) (w : World) (K : PySem.W.Frag) (mg : Str → Option Value) (base : Heap) (k : Nat) (p : Prm) (l : List (MKey × FSem)) : Prop := ∀ x F, (x, F) ∈ l → CallM P w K mg base k p x F
theorem allM_nil {P : Program} {w : World} {base : Heap} {k : Nat} : AllM P w K mg base k p [] := fun _ _ h => by cases h
theorem allM_cons {P : Program} {w : World} {base : Heap} {k : Nat} {x : MKey} {F : FSem} {l : List (MKey × FSem)} (h : CallM P w K mg base k p x F) (t : AllM P w K mg base k p l) : AllM P w K mg base k p ((x, F) :: l) := by
  intro x' F' hm
  rcases List.mem_cons.mp hm with e | e
  · cases e; exact h
  · exact t _ _ e
theorem bind_dfC {fd : FuncData} {ps : List Str} {np : Nat} {ks : List Str} {T : Addr} {oT : Obj} {its : List Value} {n : Nat} {dD : List D} (lT : K.lookup T = some oT) (ho : oT.data = .seq its.toArray n) (hv : CstA p dD its)
    (pl : List Src) (hr : planR np pl = true) (hl : pl.length = ps.length)
    (h : ∀ us ws : List Value, us.length = np → ws.length = ks.length → ∃ k, bindArgs fd ⟨us, ks.zip ws⟩ = seqItems? (.ref T) >>= k ∧ k (some its.toArray) = pure (ps.zip (planX .none us ws its pl))) : BindP p K fd ps np ks (planD np dD pl) := by
  obtain ⟨vs, h1, h2⟩ := hv
  exact bind_df lT ho h1 h2 pl hr hl h
end
/-- the law's own promise -/
def spLaw (K : PySem.W.Frag) (F : FSem) : Sp := fun vs H Q E => ∃ a ns, vs = [.ref a] ∧ (∃ st, F [scriptD ns] [] = some (.ret (.val (.bl true)) st)) ∧ SqL K H a (ns.map V.int) ∧ ∀ H', Q (.bl true) H'
theorem law_imp {p : Prm} {K : PySem.W.Frag} {F : FSem} (hK : p.K = K) {vs : List V} {H : Hp} {Q : VK} {E : XK} (h : spLaw K F vs H Q E) : spN p 1 F vs H Q E := by
  obtain ⟨a, ns, rfl, hF, hS, q⟩ := h
  obtain ⟨h1, W, st, ds, S, R, h2⟩ := law_sp hK H a ns hF hS
  refine ⟨h1, W, st, ds, S, R, ?_⟩
  cases z : F ds st with
  | none => rw [z] at h2; exact h2
  | some r =>
    rw [z] at h2
    cases r with
    | ret v st1 =>
      intro W' H' x f S' R'
      have e : x = V.bl true := h2 W' H' x f S' R'
      rw [e]
      exact q H'
    | exc e st1 => exact fun W' H' c d f S' R' => (h2 W' H' c d f S' R').elim
theorem spLaw_of {K : PySem.W.Frag} {F : FSem} {H : Hp} {a : Addr} {ns : List Int} {E : XK} (hF : ∃ st, F [scriptD ns] [] = some (.ret (.val (.bl true)) st)) (hS : SqL K H a (ns.map V.int)) : spLaw K F [.ref a] H (fun v _ => v = .bl true) E := ⟨a, ns, rfl, hF, hS, fun _ => rfl⟩
end Tz

set_option Elab.async false
set_option linter.all false
set_option maxRecDepth 100000
set_option maxHeartbeats 4000000
/-! Tw: the combinators applied, as rules of reckoning; sizes; loops by an invariant. -/
namespace Tz
open PySem L2
section
variable {r : Rho} {st : Store}
theorem x_eC {d : D} : eC d r st = some (.ok (.val d) st) := rfl
theorem x_eVar {i : Nat} : eVar i r st = match r[i]? with
  | some (.val d) => some (.ok (.val d) st)
  | some (.own d) => some (.ok (.peek d) st)
  | _ => none := rfl
theorem x_eOp1 {f : Store → RV → Option RV} {a : ESem} : eOp1 f a r st = match a r st with
  | some (.ok x st1) => match f st1 x with
    | some z => some (.ok z st1)
    | none => none
  | some (.exc x st1) => some (.exc x st1)
  | none => none := rfl
theorem x_eOp2 {f : Store → RV → RV → Option RV} {a b : ESem} : eOp2 f a b r st = match a r st with
  | some (.ok x st1) => match b r st1 with
    | some (.ok y st2) => match f st2 x y with
      | some z => some (.ok z st2)
      | none => none
    | some (.exc x st2) => some (.exc x st2)
    | none => none
  | some (.exc x st1) => some (.exc x st1)
  | none => none := rfl
theorem x_aNil : aNil r st = some (.ok [] st) := rfl
theorem x_argsN : argsS [] r st = some (.ok [] st) := rfl
theorem x_argsC {a : ESem} {t : List ESem} : argsS (a :: t) r st = match a r st with
  | some (.ok x st1) => match x.toVal with
    | some d => match argsS t r st1 with
      | some (.ok ds st2) => some (.ok (d :: ds) st2)
      | some (.exc x st2) => some (.exc x st2)
      | none => none
    | none => none
  | some (.exc x st1) => some (.exc x st1)
  | none => none := rfl
theorem x_aApp {a b : ASem} : aApp a b r st = match a r st with
  | some (.ok ds st1) => match b r st1 with
    | some (.ok es st2) => some (.ok (ds ++ es) st2)
    | some (.exc x st2) => some (.exc x st2)
    | none => none
  | some (.exc x st1) => some (.exc x st1)
  | none => none := rfl
theorem x_eTup {t : ASem} : eTup t r st = match t r st with
  | some (.ok ds st1) => if ds.length ≤ lim then some (.ok (.val (.tup ds)) st1) else none
  | some (.exc x st1) => some (.exc x st1)
  | none => none := rfl
theorem x_eLst {t : ASem} : eLst t r st = match t r st with
  | some (.ok ds st1) => if ds.length ≤ lim then some (.ok (.fresh (.lst ds)) st1) else none
  | some (.exc x st1) => some (.exc x st1)
  | none => none := rfl
theorem x_eCall {F : FSem} {t : ASem} : eCall F t r st = match t r st with
  | some (.ok ds st1) => match F ds st1 with
    | some (.ret v st2) => some (.ok v st2)
    | some (.exc x st2) => some (.exc x st2)
    | none => none
  | some (.exc x st1) => some (.exc x st1)
  | none => none := rfl
theorem x_tVal {a : ESem} : tVal a r st = match a r st with
  | some (.ok x st1) => match truth st1 x with
    | some b => some (.ok b st1)
    | none => none
  | some (.exc x st1) => some (.exc x st1)
  | none => none := rfl
theorem x_tBool {a : ESem} : tBool a r st = match a r st with
  | some (.ok (.val (.bl b)) st1) => some (.ok b st1)
  | some (.exc x st1) => some (.exc x st1)
  | _ => none := rfl
theorem x_tNotS {a : TSem} : tNotS a r st = match a r st with
  | some (.ok b st1) => some (.ok (!b) st1)
  | some (.exc x st1) => some (.exc x st1)
  | none => none := rfl
theorem x_tAndS {a b : TSem} : tAndS a b r st = match a r st with
  | some (.ok true st1) => b r st1
  | some (.ok false st1) => some (.ok false st1)
  | some (.exc x st1) => some (.exc x st1)
  | none => none := rfl
theorem x_tOrS {a b : TSem} : tOrS a b r st = match a r st with
  | some (.ok false st1) => b r st1
  | some (.ok true st1) => some (.ok true st1)
  | some (.exc x st1) => some (.exc x st1)
  | none => none := rfl
theorem x_tTrue : tTrue r st = some (.ok true st) := rfl
theorem x_eAndS {a b : ESem} : eAndS a b r st = match a r st with
  | some (.ok (.val (.bl true)) st1) => b r st1
  | some (.ok (.val (.bl false)) st1) => some (.ok (.val (.bl false)) st1)
  | some (.exc x st1) => some (.exc x st1)
  | _ => none := rfl
theorem x_eOrS {a b : ESem} : eOrS a b r st = match a r st with
  | some (.ok (.val (.bl false)) st1) => b r st1
  | some (.ok (.val (.bl true)) st1) => some (.ok (.val (.bl true)) st1)
  | some (.exc x st1) => some (.exc x st1)
  | _ => none := rfl
theorem x_eTest {a : TSem} : eTest a r st = match a r st with
  | some (.ok b st1) => some (.ok (.val (.bl b)) st1)
  | some (.exc x st1) => some (.exc x st1)
  | none => none := rfl
theorem x_eIf {t : TSem} {a b : ESem} : eIf t a b r st = match t r st with
  | some (.ok true st1) => a r st1
  | some (.ok false st1) => b r st1
  | some (.exc x st1) => some (.exc x st1)
  | none => none := rfl
theorem x_eChain {f g : Store → RV → RV → Option RV} {a b c : ESem} : eChain f g a b c r st = match a r st with
  | some (.ok x st1) => match b r st1 with
    | some (.ok y st2) => match f st2 x y with
      | some (.val (.bl true)) => match c r st2 with
        | some (.ok z st3) => match g st3 y z with
          | some v => some (.ok v st3)
          | none => none
        | some (.exc x st3) => some (.exc x st3)
        | none => none
      | some (.val (.bl false)) => some (.ok (.val (.bl false)) st2)
      | _ => none
    | some (.exc x st2) => some (.exc x st2)
    | none => none
  | some (.exc x st1) => some (.exc x st1)
  | none => none := rfl
theorem x_oNone : oNone r st = some (none, st) := rfl
theorem x_oSome {a : ESem} : oSome a r st = match a r st with
  | some (.ok (.val (.int i)) st1) => some (some i, st1)
  | _ => none := rfl
theorem x_eSl {a : ESem} {lo hi : Rho → Store → Option (Option Int × Store)} : eSl a lo hi r st = match a r st with
  | some (.ok x st1) => match lo r st1 with
    | some (l, st2) => match hi r st2 with
      | some (h, st3) => match slV st3 x l h with
        | some z => some (.ok z st3)
        | none => none
      | none => none
    | none => none
  | some (.exc x st1) => some (.exc x st1)
  | none => none := rfl
theorem x_iExp {a : ESem} : iExp a r st = match a r st with
  | some (.ok v st1) => match itemsOf v with
    | some xs => some (xs, st1)
    | none => none
  | _ => none := rfl
theorem x_iExpU {a : ESem} : iExpU a r st = match a r st with
  | some (.ok v st1) => match itemsU v with
    | some xs => some (xs, st1)
    | none => none
  | _ => none := rfl
def rngD (j : Int) (st1 : Store) : Option (List D × Store) := if -(2 ^ 62) ≤ j ∧ j < 2 ^ 62 then some ((List.range j.toNat).map fun i : Nat => D.int (0 + i), st1) else none
theorem x_iRange1 {a : ESem} : iRange1 a r st = match a r st with
  | some (.ok (.val (.int j)) st1) => rngD j st1
  | _ => none := rfl
theorem v_rngD {j : Int} (h1 : -4611686018427387904 ≤ j) (h2 : j < 4611686018427387904) : rngD j st = some ((List.range j.toNat).map fun i : Nat => D.int (0 + i), st) := by
  unfold rngD
  rw [if_pos]
  omega
theorem x_iRange2 {a b : ESem} : iRange2 a b r st = match a r st with
  | some (.ok (.val (.int i)) st1) => match b r st1 with
    | some (.ok (.val (.int j)) st2) => if (-(2 ^ 62) ≤ i ∧ i < 2 ^ 62) ∧ (-(2 ^ 62) ≤ j ∧ j < 2 ^ 62) then some ((List.range (j - i).toNat).map fun k : Nat => D.int (i + k), st2) else none
    | _ => none
  | _ => none := rfl
theorem x_eComp {ws : List Nat} {it : ISem} {g : TgSem} {t : TSem} {e : ESem} : eComp ws it g t e r st = match it r st with
  | some (xs, st1) => match compL g t e (wipeR r ws) [] xs st1 with
    | some (ys, st2) => some (.ok (.fresh (.lst ys)) st2)
    | none => none
  | none => none := rfl
theorem x_gVarV {i : Nat} {d : D} : gVar i (.val d) r st = some (r.set i (.val d), st) := rfl
theorem x_gVarF {i : Nat} {d : D} : gVar i (.fresh d) r st = some (r.set i (.own d), st) := rfl
theorem x_gTup {gs : List TgSem} {ds : List D} : gTupS gs (.val (.tup ds)) r st = if ds.length = gs.length then gList gs ds r st else none := rfl
theorem x_gListN : gList [] [] r st = some (r, st) := rfl
theorem x_gListC {g : TgSem} {gs : List TgSem} {d : D} {ds : List D} : gList (g :: gs) (d :: ds) r st = match g (.val d) r st with
  | some (r1, st1) => gList gs ds r1 st1
  | none => none := rfl
theorem x_sNext : sNext r st = some (.nx r st) := rfl
theorem x_sBreak : sBreak r st = some (.bk r st) := rfl
theorem x_sCont : sCont r st = some (.ct r st) := rfl
theorem x_sSeq {a b : SSem} : sSeq a b r st = match a r st with
  | some (.nx r1 st1) => b r1 st1
  | o => o := rfl
theorem x_sDrop {a : ESem} : sDrop a r st = match a r st with
  | some (.ok _ st1) => some (.nx r st1)
  | some (.exc x st1) => some (.exc x r st1)
  | none => none := rfl
theorem x_sRet {a : ESem} : sRet a r st = match a r st with
  | some (.ok (.val d) st1) => some (.rt (.val d) st1)
  | some (.ok (.fresh d) st1) => some (.rt (.fresh d) st1)
  | some (.exc x st1) => some (.exc x r st1)
  | _ => none := rfl
theorem x_sRetB {a : ESem} : sRetB a r st = match a r st with
  | some (.ok (.fresh (.lst xs)) st1) => some (.rt (.val (.ref st1.length)) (st1 ++ [.lst xs]))
  | some (.exc x st1) => some (.exc x r st1)
  | _ => none := rfl
theorem x_sRetV {i : Nat} : sRetV i r st = match r[i]? with
  | some (.val d) => some (.rt (.val d) st)
  | some (.own d) => some (.rt (.fresh d) st)
  | _ => none := rfl
theorem x_sRetN : sRetN r st = some (.rt (.val .non) st) := rfl
theorem x_sAsg {a : ESem} {g : TgSem} : sAsg a g r st = match a r st with
  | some (.ok v st1) => match g v r st1 with
    | some (r2, st2) => some (.nx r2 st2)
    | none => none
  | some (.exc x st1) => some (.exc x r st1)
  | none => none := rfl
theorem x_sPar2 {i j : Nat} {a b : ESem} : sPar2 i j a b r st = match a r st with
  | some (.ok v st1) => match b r st1 with
    | some (.ok w st2) => match gVar i v r st2 with
      | some (r1, st3) => match gVar j w r1 st3 with
        | some (r2, st4) => some (.nx r2 st4)
        | none => none
      | none => none
    | some (.exc x st2) => some (.exc x r st2)
    | none => none
  | some (.exc x st1) => some (.exc x r st1)
  | none => none := rfl
theorem x_sAug {f : Store → RV → RV → Option RV} {i : Nat} {a : ESem} : sAug f i a r st = match r[i]? with
  | some (.val x) => match a r st with
    | some (.ok y st1) => match f st1 (.val x) y with
      | some z => match gVar i z r st1 with
        | some (r2, st2) => some (.nx r2 st2)
        | none => none
      | none => none
    | some (.exc x st1) => some (.exc x r st1)
    | none => none
  | _ => none := rfl
theorem x_sIf {t : TSem} {a b : SSem} : sIf t a b r st = match t r st with
  | some (.ok true st1) => a r st1
  | some (.ok false st1) => b r st1
  | some (.exc x st1) => some (.exc x r st1)
  | none => none := rfl
theorem x_sFreeze {i : Nat} : sFreeze i r st = match r[i]? with
  | some (.own d) => some (.nx (r.set i (.val d)) st)
  | _ => some (.nx r st) := rfl
theorem x_sFor {it : ISem} {g : TgSem} {b : SSem} : sFor it g b r st = match it r st with
  | some (xs, st1) => forS g b xs r st1
  | none => none := rfl
theorem x_forN {g : TgSem} {b : SSem} : forS g b [] r st = some (.nx r st) := rfl
theorem x_forC {g : TgSem} {b : SSem} {x : D} {xs : List D} : forS g b (x :: xs) r st = match g (.val x) r st with
  | some (r1, st1) => match b r1 st1 with
    | some (.nx r2 st2) => forS g b xs r2 st2
    | some (.ct r2 st2) => forS g b xs r2 st2
    | some (.bk r2 st2) => some (.nx r2 st2)
    | some (.rt v st2) => some (.rt v st2)
    | some (.exc x r2 st2) => some (.exc x r2 st2)
    | none => none
  | none => none := rfl
theorem x_fnS {n : Nat} {b : SSem} {ds : List D} : fnS n b ds st = match b (slots0 n ds) st with
  | some (.nx _ st1) => some (.ret (.val .non) st1)
  | some (.rt (.val d) st1) => some (.ret (.val d) st1)
  | some (.rt (.fresh d) st1) => some (.ret (.fresh d) st1)
  | some (.exc x _ st1) => some (.exc x st1)
  | _ => none := rfl
theorem x_slots0 {n : Nat} {ds : List D} : slots0 n ds = ds.map .val ++ List.replicate (n - ds.length) .no := rfl
theorem x_sSetIx {j : Nat} {ie e : ESem} : sSetIx j ie e r st = match e r st with
  | some (.ok v st1) => match v.toVal with
    | some d => match r[j]? with
      | some (.own (.lst xs)) => match ie r st1 with
        | some (.ok (.val (.int k)) st2) => match L2.ixN xs.length k with
          | some m => some (.nx (r.set j (.own (.lst (xs.set m d)))) st2)
          | none => none
        | some (.exc x st2) => some (.exc x r st2)
        | _ => none
      | some (.val (.ref n)) => match ie r st1 with
        | some (.ok (.val (.int k)) st2) => match st2[n]? with
          | some (.lst xs) => match L2.ixN xs.length k with
            | some m => some (.nx r (st2.set n (.lst (xs.set m d))))
            | none => none
          | _ => none
        | some (.exc x st2) => some (.exc x r st2)
        | _ => none
      | _ => none
    | none => none
  | some (.exc x st1) => some (.exc x r st1)
  | none => none := rfl

/-! values -/
variable {i j : Int}
theorem v_addI : addV st (.val (.int i)) (.val (.int j)) = some (.val (.int (i + j))) := rfl
theorem v_subI : subV st (.val (.int i)) (.val (.int j)) = some (.val (.int (i - j))) := rfl
theorem v_mulI (h : mulOk i j = true) : mulT st (.val (.int i)) (.val (.int j)) = some (.val (.int (i * j))) := by
  unfold mulT mulV i2
  dsimp only [RV.d]
  rw [if_pos h]
theorem v_imulI (h1 : -(2 ^ 64) < j) (h2 : j < 2 ^ 64) : imulV st (.val (.int i)) (.val (.int j)) = some (.val (.int (i * j))) := by
  unfold imulV i2
  dsimp only [RV.d]
  rw [if_pos]
  simp only [Bool.and_eq_true, decide_eq_true_eq]
  exact ⟨h1, h2⟩
theorem v_divI (h : divOk i j = true) : divV st (.val (.int i)) (.val (.int j)) = some (.val (.int (i / j))) := by
  unfold divV i2
  dsimp only [RV.d]
  rw [if_pos h]
theorem v_modI (h : 0 < j) : modV st (.val (.int i)) (.val (.int j)) = some (.val (.int (i % j))) := by
  unfold modV i2
  dsimp only [RV.d]
  rw [if_pos (show modOk i j = true from decide_eq_true h)]
theorem v_powI (h : powOk i j = true) : powV st (.val (.int i)) (.val (.int j)) = some (.val (.int (i ^ j.toNat))) := by
  unfold powV i2
  dsimp only [RV.d]
  rw [if_pos h]
theorem v_ltI : ltV st (.val (.int i)) (.val (.int j)) = some (.val (.bl (decide (i < j)))) := rfl
theorem v_leI : leV st (.val (.int i)) (.val (.int j)) = some (.val (.bl (decide (i ≤ j)))) := rfl
theorem v_gtI : gtV st (.val (.int i)) (.val (.int j)) = some (.val (.bl (decide (j < i)))) := rfl
theorem v_geI : geV st (.val (.int i)) (.val (.int j)) = some (.val (.bl (decide (j ≤ i)))) := rfl
theorem v_max : max2V st (.val (.int i)) (.val (.int j)) = some (.val (.int (max i j))) := by
  have : max i j = (if j > i then j else i) := by split <;> omega
  rw [this]
  rfl
theorem v_min : min2V st (.val (.int i)) (.val (.int j)) = some (.val (.int (min i j))) := by
  have : min i j = (if j < i then j else i) := by split <;> omega
  rw [this]
  rfl
theorem v_abs : absV st (.val (.int i)) = some (.val (.int i.natAbs)) := rfl
theorem v_intI : intV st (.val (.int i)) = some (.val (.int i)) := rfl
theorem v_intB {b : Bool} : intV st (.val (.bl b)) = some (.val (.int (if b = true then 1 else 0))) := rfl
theorem v_neg : negV st (.val (.int i)) = some (.val (.int (-i))) := rfl
theorem v_eqI : eqT st (.val (.int i)) (.val (.int j)) = some (.val (.bl (decide (i = j)))) := rfl
theorem v_neI : neT st (.val (.int i)) (.val (.int j)) = some (.val (.bl (!decide (i = j)))) := rfl
theorem v_eqB {a b : Bool} : eqT st (.val (.bl a)) (.val (.bl b)) = some (.val (.bl (decide (a = b)))) := rfl
theorem v_neB {a b : Bool} : neT st (.val (.bl a)) (.val (.bl b)) = some (.val (.bl (!decide (a = b)))) := rfl
theorem v_eqTT {xs ys : List D} : eqT st (.val (.tup xs)) (.val (.tup ys)) = if dOks 15 xs = true ∧ dOks 15 ys = true then some (.val (.bl (dEqs xs ys))) else none := rfl
theorem v_neTT {xs ys : List D} : neT st (.val (.tup xs)) (.val (.tup ys)) = if dOks 15 xs = true ∧ dOks 15 ys = true then some (.val (.bl (!dEqs xs ys))) else none := by
  unfold neT
  rw [v_eqTT]
  by_cases h : dOks 15 xs = true ∧ dOks 15 ys = true
  · rw [if_pos h, if_pos h]
  · rw [if_neg h, if_neg h]
theorem v_eqFF {xs ys : List D} : eqT st (.fresh (.lst xs)) (.fresh (.lst ys)) = if dOks 15 xs = true ∧ dOks 15 ys = true then some (.val (.bl (dEqs xs ys))) else none := rfl
theorem v_neFF {xs ys : List D} : neT st (.fresh (.lst xs)) (.fresh (.lst ys)) = if dOks 15 xs = true ∧ dOks 15 ys = true then some (.val (.bl (!dEqs xs ys))) else none := by
  unfold neT
  rw [v_eqFF]
  by_cases h : dOks 15 xs = true ∧ dOks 15 ys = true
  · rw [if_pos h, if_pos h]
  · rw [if_neg h, if_neg h]
theorem z_dOksN {n : Nat} : dOks n [] = true := rfl
theorem z_dOksC {n : Nat} {x : D} {xs : List D} : dOks n (x :: xs) = (dOk n x && dOks n xs) := rfl
theorem z_dOkI {n : Nat} : dOk n (.int i) = true := rfl
theorem z_dOkB {n : Nat} {b : Bool} : dOk n (.bl b) = true := rfl
theorem z_dOkN {n : Nat} : dOk n .non = true := rfl
theorem z_dOkT {n : Nat} {xs : List D} : dOk (n + 1) (.tup xs) = dOks n xs := rfl
theorem z_dEqsN : dEqs [] [] = true := rfl
theorem z_dEqsC {x y : D} {xs ys : List D} : dEqs (x :: xs) (y :: ys) = (dEq x y && dEqs xs ys) := rfl
theorem z_dEqI : dEq (.int i) (.int j) = decide (i = j) := rfl
theorem z_dEqB {a b : Bool} : dEq (.bl a) (.bl b) = (a == b) := rfl
theorem z_dEqT {xs ys : List D} : dEq (.tup xs) (.tup ys) = dEqs xs ys := rfl
theorem v_isTB {a b : Bool} : isT st (.val (.bl a)) (.val (.bl b)) = some (.val (.bl (decide (a = b)))) := rfl
theorem v_isTN : isT st (.val .non) (.val .non) = some (.val (.bl true)) := rfl
theorem v_isTNI : isT st (.val (.int i)) (.val .non) = some (.val (.bl false)) := rfl
theorem v_isTNT {xs : List D} : isT st (.val (.tup xs)) (.val .non) = some (.val (.bl false)) := rfl
theorem v_isntTB {a b : Bool} : isntT st (.val (.bl a)) (.val (.bl b)) = some (.val (.bl (!decide (a = b)))) := rfl
theorem v_isntTN : isntT st (.val .non) (.val .non) = some (.val (.bl false)) := rfl
theorem v_isntTNI : isntT st (.val (.int i)) (.val .non) = some (.val (.bl true)) := rfl
theorem v_isntTNT {xs : List D} : isntT st (.val (.tup xs)) (.val .non) = some (.val (.bl true)) := rfl
theorem v_isC {c d : Str} {ns : List Str} {fs : List D} : isC c st (.val (.ins d ns fs)) = some (.val (.bl (decide (d = c)))) := rfl
theorem v_isCF {c d : Str} {ns : List Str} {fs : List D} : isC c st (.fresh (.ins d ns fs)) = some (.val (.bl (decide (d = c)))) := rfl
theorem v_isCI {c : Str} : isC c st (.val (.int i)) = some (.val (.bl false)) := rfl
theorem v_isCT {c : Str} {xs : List D} : isC c st (.val (.tup xs)) = some (.val (.bl false)) := rfl
theorem v_isiB {T : Ty} {b : Bool} : isiT T st (.val (.bl b)) = some (.val (.bl (tyIs .bl T))) := rfl
theorem v_b4 : tyIs .bl .bl = true := rfl
theorem v_b5 : tyIs .bl .int = true := rfl
theorem z_bnd {np : Nat} {dD ds : List D} {pl : List Src} {F : FSem} : bnd np dD pl F ds st = F (planD np dD pl ds) st := rfl
theorem z_planN {np : Nat} {dD ds : List D} : planD np dD [] ds = [] := rfl
theorem z_planP {np n : Nat} {dD ds : List D} {pl : List Src} : planD np dD (.p n :: pl) ds = ds.getD n .non :: planD np dD pl ds := rfl
theorem z_planK {np n : Nat} {dD ds : List D} {pl : List Src} : planD np dD (.k n :: pl) ds = ds.getD (np + n) .non :: planD np dD pl ds := rfl
theorem z_planD {np n : Nat} {dD ds : List D} {pl : List Src} : planD np dD (.d n :: pl) ds = dD.getD n .non :: planD np dD pl ds := rfl
theorem z_getD0 {α : Type} {a d : α} {l : List α} : (a :: l).getD 0 d = a := rfl
theorem z_getDS {α : Type} {a d : α} {l : List α} {n : Nat} : (a :: l).getD (n + 1) d = l.getD n d := rfl
theorem x_iEnum {a : ESem} : iEnumD a r st = match a r st with
  | some (.ok v st1) => match itemsOf v with
    | some xs => some (enumF 0 xs, st1)
    | none => none
  | _ => none := rfl
theorem x_iZipM {a b : ESem} : iZipM a b r st = match a r st with
  | some (.ok x st1) => match itemsOf x with
    | some xs => match b r st1 with
      | some (.ok y st2) => match itemsOf y with
        | some ys => some (zipF xs ys, st2)
        | none => none
      | _ => none
    | none => none
  | _ => none := rfl
theorem x_tValO {l : List ((Str × Str) × FSem)} {a : ESem} : tValO l a r st = match a r st with
  | some (.ok x st1) => match truthO l st1 x with
    | some b => some (.ok b st1)
    | none => none
  | some (.exc x st1) => some (.exc x st1)
  | none => none := rfl
theorem v_trOB {l : List ((Str × Str) × FSem)} {b : Bool} : truthO l st (.val (.bl b)) = some b := rfl
theorem x_eIndex {a b : ESem} : eIndex a b r st = match a r st with
  | some (.ok x st1) => match seqTag x with
    | some _ => match b r st1 with
      | some (.ok y st2) => match indexV st2 x y with
        | some z => some (.ok z st2)
        | none => none
      | some (.exc e st2) => some (.exc e st2)
      | none => none
    | none => none
  | some (.exc e st1) => some (.exc e st1)
  | none => none := rfl
theorem x_eMeth {l : List (MKey × FSem)} {m : Str} {np : Nat} {ks : List Str} {o : ESem} {t : ASem} : eMeth l m np ks o t r st = match o r st with
  | some (.ok (.val d) st1) => match insOf st1 (.val d) with
    | some (c, ns, fs) => if ns.contains m = true then none else (match lookM l (c, m, np, ks) with
      | some F => match t r st1 with
        | some (.ok ds st2) => match F (d :: ds) st2 with
          | some (.ret v st3) => some (.ok v st3)
          | some (.exc x st3) => some (.exc x st3)
          | none => none
        | some (.exc x st2) => some (.exc x st2)
        | none => none
      | none => none)
    | none => none
  | some (.exc x st1) => some (.exc x st1)
  | _ => none := rfl
theorem x_iZip {a b : ESem} : iZipD a b r st = match a r st with
  | some (.ok x st1) => match itemsOf x with
    | some xs => match b r st1 with
      | some (.ok y st2) => match itemsOf y with
        | some ys => if xs.length = ys.length then some (zipF xs ys, st2) else none
        | none => none
      | _ => none
    | none => none
  | _ => none := rfl
theorem x_eLstR {a : ESem} : eLstR a r st = match a r st with
  | some (.ok x st1) => match x.d with
    | .int n => if 0 ≤ n ∧ n ≤ 16777216 then some (.ok (.fresh (.lst ((List.range n.toNat).map fun i : Nat => D.int (0 + i)))) st1) else none
    | _ => none
  | some (.exc x st1) => some (.exc x st1)
  | none => none := rfl
theorem x_eChN {a : ESem} {l : List ((Store → RV → RV → Option RV) × ESem)} : eChN a l r st = match a r st with
  | some (.ok x st1) => eChL x l r st1
  | some (.exc x st1) => some (.exc x st1)
  | none => none := rfl
theorem x_chL1 {x : RV} {fn : Store → RV → RV → Option RV} {b : ESem} : eChL x [(fn, b)] r st = match b r st with
  | some (.ok y st2) => match fn st2 x y with
    | some z => some (.ok z st2)
    | none => none
  | some (.exc e st2) => some (.exc e st2)
  | none => none := rfl
theorem x_chLC {x : RV} {fn : Store → RV → RV → Option RV} {b : ESem} {c : (Store → RV → RV → Option RV) × ESem} {l : List ((Store → RV → RV → Option RV) × ESem)} : eChL x ((fn, b) :: c :: l) r st = match b r st with
  | some (.ok y st2) => match fn st2 x y with
    | some (.val (.bl true)) => eChL y (c :: l) r st2
    | some (.val (.bl false)) => some (.ok (.val (.bl false)) st2)
    | _ => none
  | some (.exc e st2) => some (.exc e st2)
  | none => none := rfl
theorem x_sAppend {j : Nat} {e : ESem} : sAppend j e r st = match r[j]? with
  | some (.own (.lst xs)) => match e r st with
    | some (.ok v st1) => match v.toVal with
      | some d => if xs.length < lim then some (.nx (r.set j (.own (.lst (xs ++ [d])))) st1) else none
      | none => none
    | some (.exc x st1) => some (.exc x r st1)
    | none => none
  | some (.val (.ref n)) => match st[n]? with
    | some (.lst _) => match e r st with
      | some (.ok v st1) => match v.toVal with
        | some d => match st1[n]? with
          | some (.lst xs) => if xs.length < lim then some (.nx r (st1.set n (.lst (xs ++ [d])))) else none
          | _ => none
        | none => none
      | some (.exc x st1) => some (.exc x r st1)
      | none => none
    | _ => none
  | _ => none := rfl
theorem z_enumN {n : Nat} : enumF n [] = [] := rfl
theorem z_enumC {n : Nat} {x : D} {xs : List D} : enumF n (x :: xs) = .tup [.int n, x] :: enumF (n + 1) xs := rfl
theorem z_zipC {x y : D} {xs ys : List D} : zipF (x :: xs) (y :: ys) = .tup [x, y] :: zipF xs ys := rfl
theorem z_zipN : zipF [] [] = [] := rfl
theorem v_ixT {xs : List D} : ixV st (.val (.tup xs)) (.val (.int i)) = (L2.atI xs i).map .val := rfl
theorem v_ixF {xs : List D} : ixV st (.fresh (.lst xs)) (.val (.int i)) = (L2.atI xs i).map .val := rfl
theorem v_ixP {xs : List D} : ixV st (.peek (.lst xs)) (.val (.int i)) = (L2.atI xs i).map .val := rfl
theorem v_ixL {xs : List D} : ixV st (.val (.lst xs)) (.val (.int i)) = (L2.atI xs i).map .val := rfl
theorem v_ixO {xs : List D} : ixV st (.val (.rol xs)) (.val (.int i)) = (L2.atI xs i).map .val := rfl
theorem v_ixR {n : Nat} : ixV st (.val (.ref n)) (.val (.int i)) = match asL st (.val (.ref n)) with
  | some xs => (L2.atI xs i).map .val
  | none => none := rfl
theorem v_asR {n : Nat} : asL st (.val (.ref n)) = match st[n]? with
  | some (.lst xs) => some xs
  | _ => none := rfl
theorem v_lenT {xs : List D} : lenV st (.val (.tup xs)) = some (.val (.int xs.length)) := rfl
theorem v_lenO {xs : List D} : lenV st (.val (.rol xs)) = some (.val (.int xs.length)) := rfl
theorem v_lenL {xs : List D} : lenV st (.val (.lst xs)) = some (.val (.int xs.length)) := rfl
theorem v_lenP {xs : List D} : lenV st (.peek (.lst xs)) = some (.val (.int xs.length)) := rfl
theorem v_allF {xs : List D} : allV st (.fresh (.lst xs)) = match bools xs with
  | some bs => some (.val (.bl (bs.all id)))
  | none => none := rfl
theorem v_anyF {xs : List D} : anyV st (.fresh (.lst xs)) = match bools xs with
  | some bs => some (.val (.bl (bs.any id)))
  | none => none := rfl
theorem v_tupF {xs : List D} : tupV st (.fresh (.lst xs)) = some (.val (.tup xs)) := rfl
theorem v_lisT {xs : List D} : listV st (.val (.tup xs)) = some (.fresh (.lst xs)) := rfl
theorem v_lisF {xs : List D} : listV st (.fresh (.lst xs)) = some (.fresh (.lst xs)) := rfl
theorem v_lisP {xs : List D} : listV st (.peek (.lst xs)) = some (.fresh (.lst xs)) := rfl
theorem v_lisL {xs : List D} : listV st (.val (.lst xs)) = some (.fresh (.lst xs)) := rfl
theorem v_tupP {xs : List D} : tupV st (.peek (.lst xs)) = some (.val (.tup xs)) := rfl
theorem v_tupL {xs : List D} : tupV st (.val (.lst xs)) = some (.val (.tup xs)) := rfl
theorem v_tupT {xs : List D} : tupV st (.val (.tup xs)) = some (.val (.tup xs)) := rfl
theorem v_lenF {xs : List D} : lenV st (.fresh (.lst xs)) = some (.val (.int xs.length)) := rfl
theorem v_itL {xs : List D} : itemsOf (.val (.lst xs)) = some xs := rfl
theorem v_itUF {xs : List D} : itemsU (.fresh (.lst xs)) = some xs := rfl
theorem v_itUL {xs : List D} : itemsU (.val (.lst xs)) = some xs := rfl
theorem v_itUP {xs : List D} : itemsU (.peek (.lst xs)) = some xs := rfl
theorem v_itUO {xs : List D} : itemsU (.val (.rol xs)) = some xs := rfl
theorem v_addLPF {a b : List D} : addV st (.peek (.lst a)) (.fresh (.lst b)) = if a.length + b.length ≤ lim then some (.fresh (.lst (a ++ b))) else none := rfl
theorem v_addLFF {a b : List D} : addV st (.fresh (.lst a)) (.fresh (.lst b)) = if a.length + b.length ≤ lim then some (.fresh (.lst (a ++ b))) else none := rfl
theorem v_slO {xs : List D} {lo hi : Option Int} : slV st (.val (.rol xs)) lo hi = some (.fresh (.lst (cutD xs lo hi))) := rfl
theorem v_isiT {T : Ty} {xs : List D} : isiT T st (.val (.tup xs)) = some (.val (.bl (tyIs .tup T))) := rfl
theorem v_isiI {T : Ty} : isiT T st (.val (.int i)) = some (.val (.bl (tyIs .int T))) := rfl
theorem v_itF {xs : List D} : itemsOf (.fresh (.lst xs)) = some xs := rfl
theorem v_itO {xs : List D} : itemsOf (.val (.rol xs)) = some xs := rfl
theorem v_itUT {xs : List D} : itemsU (.val (.tup xs)) = some xs := rfl
theorem v_itT {xs : List D} : itemsOf (.val (.tup xs)) = some xs := rfl
theorem v_trB {b : Bool} : truth st (.val (.bl b)) = some b := rfl
theorem v_trI : truth st (.val (.int i)) = some (i != 0) := rfl
theorem v_toV {d : D} : RV.toVal (.val d) = some d := rfl
theorem v_toF {d : D} : RV.toVal (.fresh d) = some d := rfl
theorem v_b1 : tyIs .tup .tup = true := rfl
theorem v_b2 : tyIs .int .int = true := rfl
theorem v_b3 : tyIs .int .bl = false := rfl
theorem v_boolsN : bools [] = some [] := rfl
theorem v_boolsC {b : Bool} {xs : List D} : bools (.bl b :: xs) = match bools xs with
  | some bs => some (b :: bs)
  | none => none := rfl
end
theorem at_0 {α : Type} {a : α} {l : List α} : L2.atI (a :: l) 0 = some a := by
  show (L2.ixN (l.length + 1) 0).bind _ = _
  unfold L2.ixN
  rw [if_pos (by decide), if_pos (by omega)]
  rfl
theorem at_1 {α : Type} {a b : α} {l : List α} : L2.atI (a :: b :: l) 1 = some b := by
  show (L2.ixN (l.length + 1 + 1) 1).bind _ = _
  unfold L2.ixN
  rw [if_pos (by decide), if_pos (by omega)]
  rfl
theorem at_2 {α : Type} {a b c : α} {l : List α} : L2.atI (a :: b :: c :: l) 2 = some c := by
  show (L2.ixN (l.length + 1 + 1 + 1) 2).bind _ = _
  unfold L2.ixN
  rw [if_pos (by decide), if_pos (by omega)]
  rfl
theorem at_3 {α : Type} {a b c d : α} {l : List α} : L2.atI (a :: b :: c :: d :: l) 3 = some d := by
  show (L2.ixN (l.length + 1 + 1 + 1 + 1) 3).bind _ = _
  unfold L2.ixN
  rw [if_pos (by decide), if_pos (by omega)]
  rfl
theorem at_nat {α : Type} {l : List α} {i : Nat} {a : α} (h : l[i]? = some a) : L2.atI l (i : Int) = some a := by
  have hl := (List.getElem?_eq_some_iff.mp h).1
  unfold L2.atI L2.ixN
  rw [if_pos (by omega), if_pos (by omega)]
  exact h
theorem lim_eq : lim = 16000000 := rfl
theorem z_map {α β : Type} {f : α → β} {x : α} : (some x).map f = some (f x) := rfl
theorem z_get0 {α : Type} {a : α} {l : List α} : (a :: l)[0]? = some a := rfl
theorem z_getS {α : Type} {a : α} {l : List α} {i : Nat} : (a :: l)[i + 1]? = l[i]? := rfl
theorem z_set0 {α : Type} {a b : α} {l : List α} : (a :: l).set 0 b = b :: l := rfl
theorem z_setS {α : Type} {a b : α} {l : List α} {i : Nat} : (a :: l).set (i + 1) b = a :: l.set i b := rfl
theorem z_mapC {α β : Type} {f : α → β} {a : α} {l : List α} : (a :: l).map f = f a :: l.map f := rfl
theorem z_mapN {α β : Type} {f : α → β} : ([] : List α).map f = [] := rfl
theorem z_lenC {α : Type} {a : α} {l : List α} : (a :: l).length = l.length + 1 := rfl
theorem z_lenN {α : Type} : ([] : List α).length = 0 := rfl
theorem z_appC {α : Type} {a : α} {l m : List α} : (a :: l) ++ m = a :: (l ++ m) := rfl
theorem z_appN {α : Type} {m : List α} : ([] : List α) ++ m = m := rfl
theorem z_rep0 {α : Type} {a : α} : List.replicate 0 a = [] := rfl
theorem z_repS {α : Type} {a : α} {n : Nat} : List.replicate (n + 1) a = a :: List.replicate n a := rfl
theorem z_at {α : Type} {l p : List α} {a : α} : (l ++ a :: p)[l.length]? = some a := by simp
theorem z_setAt {α : Type} {l p : List α} {a b : α} : (l ++ a :: p).set l.length b = l ++ b :: p := by simp
/-! sizes -/
def Bd (k : Nat) (i : Int) : Prop := i.natAbs < 2 ^ k
theorem Bd.mono {a b : Nat} {i : Int} (h : Bd a i) (hl : a ≤ b) : Bd b i := Nat.lt_of_lt_of_le h (Nat.pow_le_pow_right (by decide) hl)
theorem Bd.mul {a b : Nat} {i j : Int} (h1 : Bd a i) (h2 : Bd b j) : Bd (a + b) (i * j) := by
  unfold Bd at *
  rw [Int.natAbs_mul, Nat.pow_add]
  exact Nat.mul_lt_mul'' h1 h2
theorem Bd.add {a : Nat} {i j : Int} (h1 : Bd a i) (h2 : Bd a j) : Bd (a + 1) (i + j) := by
  unfold Bd at *
  have := Int.natAbs_add_le i j
  rw [Nat.pow_succ]
  omega
theorem Bd.sub {a : Nat} {i j : Int} (h1 : Bd a i) (h2 : Bd a j) : Bd (a + 1) (i - j) := by
  unfold Bd at *
  have : (i - j).natAbs ≤ i.natAbs + j.natAbs := by omega
  rw [Nat.pow_succ]
  omega
theorem Bd.neg {a : Nat} {i : Int} (h1 : Bd a i) : Bd a (-i) := by
  unfold Bd at *
  rw [Int.natAbs_neg]
  exact h1
theorem Bd.abs {a : Nat} {i : Int} (h1 : Bd a i) : Bd a (i.natAbs : Int) := by
  unfold Bd at *
  omega
theorem Bd.of_le {a : Nat} {i j : Int} (h : Bd a j) (h0 : 0 ≤ i) (h1 : i ≤ j) : Bd a i := by
  unfold Bd at *
  omega
theorem Bd.ediv {a : Nat} {i j : Int} (h : Bd a i) (h0 : 0 ≤ i) (hj : 0 ≤ j) : Bd a (i / j) :=
  h.of_le (Int.ediv_nonneg h0 hj) (Int.ediv_le_self _ h0)
theorem Bd.emod {a : Nat} {i j : Int} (h : Bd a j) (hj : 0 < j) : Bd a (i % j) :=
  h.of_le (Int.emod_nonneg _ (by omega)) (Int.le_of_lt (Int.emod_lt_of_pos _ hj))
theorem bd_log {k : Nat} {i : Int} (h : Bd k i) : i.natAbs.log2 ≤ k := by
  unfold Bd at h
  by_cases h0 : i.natAbs = 0
  · rw [h0]; exact Nat.zero_le _
  · exact Nat.le_of_lt ((Nat.log2_lt h0).mpr h)
theorem mulOk_of {a b : Nat} {i j : Int} (h1 : Bd a i) (h2 : Bd b j) (hl : a + b < 1000000 := by decide) : mulOk i j = true :=
  decide_eq_true (Nat.lt_of_le_of_lt (Nat.add_le_add (bd_log h1) (bd_log h2)) hl)
theorem divOk_of {b : Nat} {i j : Int} (h0 : 0 < j) (h2 : Bd b j) (hl : b < 9000 := by decide) : divOk i j = true := by
  unfold divOk
  rw [Bool.and_eq_true]
  exact ⟨decide_eq_true h0, decide_eq_true (Nat.lt_of_le_of_lt (bd_log h2) hl)⟩
theorem bd_lit {k : Nat} {i : Int} (h : decide (i.natAbs < 2 ^ k) = true) : Bd k i := (of_decide_eq_true h : i.natAbs < 2 ^ k)
/-! loops by an invariant -/
theorem forS_inv {g : TgSem} {b : SSem} (I : Nat → Rho → Store → Prop) : ∀ (xs : List D) (n : Nat) (r : Rho) (st : Store), I n r st →
    (∀ i x r st, xs[i]? = some x → I (n + i) r st → ∃ r1 st1 r2 st2, g (.val x) r st = some (r1, st1) ∧ (b r1 st1 = some (.nx r2 st2) ∨ b r1 st1 = some (.ct r2 st2)) ∧ I (n + i + 1) r2 st2) →
    ∃ r2 st2, forS g b xs r st = some (.nx r2 st2) ∧ I (n + xs.length) r2 st2
  | [], n, r, st, h0, _ => ⟨r, st, rfl, h0⟩
  | x :: xs, n, r, st, h0, hs => by
    obtain ⟨r1, st1, r2, st2, e1, e2, h2⟩ := hs 0 x r st rfl h0
    obtain ⟨r3, st3, e3, h3⟩ := forS_inv I xs (n + 1) r2 st2 h2 fun i y r st hi hI => by
      have := hs (i + 1) y r st hi (by rw [Nat.add_comm i 1, ← Nat.add_assoc]; exact hI)
      rw [Nat.add_comm i 1, ← Nat.add_assoc] at this
      exact this
    refine ⟨r3, st3, ?_, by rw [List.length_cons, Nat.add_comm xs.length 1, ← Nat.add_assoc]; exact h3⟩
    rw [x_forC, e1]
    rcases e2 with e2 | e2 <;> (simp only [e2]; exact e3)
/-- a loop whose rounds are alike -/
theorem forS_all {g : TgSem} {b : SSem} (I : Rho → Store → Prop) (xs : List D) (r : Rho) (st : Store) (h0 : I r st)
    (hs : ∀ x r st, x ∈ xs → I r st → ∃ r1 st1 r2 st2, g (.val x) r st = some (r1, st1) ∧ (b r1 st1 = some (.nx r2 st2) ∨ b r1 st1 = some (.ct r2 st2)) ∧ I r2 st2) :
    ∃ r2 st2, forS g b xs r st = some (.nx r2 st2) ∧ I r2 st2 :=
  forS_inv (fun _ => I) xs 0 r st h0 fun i x r st hi h => hs x r st (List.mem_of_getElem? hi) h
theorem Bd.addM {a b : Nat} {i j : Int} (h1 : Bd a i) (h2 : Bd b j) : Bd (max a b + 1) (i + j) := Bd.add (h1.mono (Nat.le_max_left a b)) (h2.mono (Nat.le_max_right a b))
theorem Bd.subM {a b : Nat} {i j : Int} (h1 : Bd a i) (h2 : Bd b j) : Bd (max a b + 1) (i - j) := Bd.sub (h1.mono (Nat.le_max_left a b)) (h2.mono (Nat.le_max_right a b))
theorem Bd.l64 {i : Int} (h : decide (i.natAbs < 18446744073709551616) = true) : Bd 64 i := (of_decide_eq_true h : i.natAbs < 18446744073709551616)
theorem Bd.l300 {i : Int} (h : decide (i.natAbs < 2 ^ 300) = true) : Bd 300 i := (of_decide_eq_true h : i.natAbs < 2 ^ 300)
theorem mulOk_bd {a b : Nat} {i j : Int} (h1 : Bd a i) (h2 : Bd b j) (hl : decide (a + b < 1000000) = true) : mulOk i j = true := mulOk_of h1 h2 (of_decide_eq_true hl)
theorem divOk_bd {b : Nat} {i j : Int} (h0 : 0 < j) (h2 : Bd b j) (hl : decide (b < 9000) = true) : divOk i j = true := divOk_of h0 h2 (of_decide_eq_true hl)
theorem bd_rng {i m : Int} (h0 : 0 ≤ i) (h1 : i < m) (hm : decide (m < 18446744073709551616) = true) : Bd 64 i := by
  have := of_decide_eq_true hm
  unfold Bd
  show i.natAbs < 18446744073709551616
  omega
theorem powOk_bd {i j : Int} (h : (decide (0 ≤ j) && decide (j ≤ 1000000) && decide (i.natAbs < 2 ^ 64)) = true) : powOk i j = true := h
/-- a fraction, as a tree -/
def frD (q : Rat) : D := .tup [.int q.num, .int (q.den : Int)]
/-- its size -/
def Rb (k : Nat) (q : Rat) : Prop := Bd k q.num ∧ Bd k (q.den : Int)
theorem Rb.mono {a b : Nat} {q : Rat} (h : Rb a q) (hl : a ≤ b) : Rb b q := ⟨h.1.mono hl, h.2.mono hl⟩
theorem v_fr0 {q : Rat} {st : Store} : ixV st (.val (frD q)) (.val (.int 0)) = some (.val (.int q.num)) := rfl
theorem v_fr1 {q : Rat} {st : Store} : ixV st (.val (frD q)) (.val (.int 1)) = some (.val (.int (q.den : Int))) := rfl
theorem v_frT {q : Rat} {st : Store} {T : Ty} : isiT T st (.val (frD q)) = some (.val (.bl (tyIs .tup T))) := rfl
theorem v_frL {q : Rat} {st : Store} : lenV st (.val (frD q)) = some (.val (.int 2)) := rfl
theorem x_frG {g h : TgSem} {q : Rat} {r : Rho} {st : Store} : gTupS [g, h] (.val (frD q)) r st = gList [g, h] [.int q.num, .int (q.den : Int)] r st := rfl
/-- a Shade, as a tree -/
def shD (a b c : Rat) : D := .ins "Shade" ["ember", "leaf", "sky"] [frD a, frD b, frD c]
section
variable {a b c q : Rat} {st : Store}
theorem fr_ext : dEq (frD a) (frD b) = decide (a = b) := by
  have e : dEq (frD a) (frD b) = (decide (a.num = b.num) && (decide ((a.den : Int) = b.den) && true)) := rfl
  rw [e, Bool.and_true]
  by_cases h : a = b
  · subst h
    rw [decide_eq_true rfl, decide_eq_true rfl, decide_eq_true rfl]
    rfl
  · rw [decide_eq_false h]
    by_cases h1 : a.num = b.num
    · have h2 : ¬ (a.den : Int) = b.den := fun z => h (Rat.ext h1 (by omega))
      rw [decide_eq_false h2, Bool.and_false]
    · rw [decide_eq_false h1, Bool.false_and]
theorem z_dEqF : dEq (frD a) (frD b) = decide (a = b) := fr_ext
theorem z_dOkF {n : Nat} : dOk (n + 1) (frD q) = true := rfl
theorem v_eqFr : eqT st (.val (frD a)) (.val (frD b)) = some (.val (.bl (decide (a = b)))) := by
  rw [← fr_ext]
  rfl
theorem v_neFr : neT st (.val (frD a)) (.val (frD b)) = some (.val (.bl (!decide (a = b)))) := by
  unfold neT
  rw [v_eqFr]
theorem v_shE : fldV ["Shade"] "ember" st (.val (shD a b c)) = some (.val (frD a)) := by
  show (if ("Shade" : Str) ∈ (["Shade"] : List Str) then (match lookF ["ember", "leaf", "sky"] [frD a, frD b, frD c] "ember" with
    | some d => some (RV.val d)
    | none => none) else none) = _
  rw [if_pos (by decide)]
  unfold lookF
  rw [if_pos rfl]
theorem v_shL : fldV ["Shade"] "leaf" st (.val (shD a b c)) = some (.val (frD b)) := by
  show (if ("Shade" : Str) ∈ (["Shade"] : List Str) then (match lookF ["ember", "leaf", "sky"] [frD a, frD b, frD c] "leaf" with
    | some d => some (RV.val d)
    | none => none) else none) = _
  rw [if_pos (by decide)]
  unfold lookF
  rw [if_neg (by decide)]
  unfold lookF
  rw [if_pos rfl]
theorem v_shS : fldV ["Shade"] "sky" st (.val (shD a b c)) = some (.val (frD c)) := by
  show (if ("Shade" : Str) ∈ (["Shade"] : List Str) then (match lookF ["ember", "leaf", "sky"] [frD a, frD b, frD c] "sky" with
    | some d => some (RV.val d)
    | none => none) else none) = _
  rw [if_pos (by decide)]
  unfold lookF
  rw [if_neg (by decide)]
  unfold lookF
  rw [if_neg (by decide)]
  unfold lookF
  rw [if_pos rfl]
theorem v_shC : isC "Shade" st (.val (shD a b c)) = some (.val (.bl true)) := by
  show some (RV.val (.bl (decide (("Shade" : Str) = "Shade")))) = _
  rw [decide_eq_true rfl]
theorem v_shT {T : Ty} : isiT T st (.val (shD a b c)) = some (.val (.bl false)) := rfl
theorem setF_ref {j n : Nat} {cs : List Str} {fl cl : Str} {e : ESem} {r : Rho} {st st1 : Store} {v : RV} {d : D} {ns : List Str} {fs : List D} (he : e r st = some (.ok v st1)) (hv : v.toVal = some d) (hr : r[j]? = some (.val (.ref n))) (hn : st1[n]? = some (.ins cl ns fs)) (hc : cl ∈ cs) (hl : ns.length = fs.length) (hs : ns.length < 1000) :
    sSetF j cs fl e r st = some (.nx r (st1.set n (.ins cl (putN fl ns) (putD fl d ns fs)))) := by
  unfold sSetF
  simp only [he, hv, hr, hn]
  rw [if_pos ⟨hc, hl, hs⟩]
end
theorem z_ixN0 {n : Nat} : L2.ixN (n + 1) 0 = some 0 := by
  unfold L2.ixN
  rw [if_pos (by decide), if_pos (by omega)]
  rfl
theorem z_ixN1 {n : Nat} : L2.ixN (n + 2) 1 = some 1 := by
  unfold L2.ixN
  rw [if_pos (by decide), if_pos (by omega)]
  rfl
theorem z_ixN2 {n : Nat} : L2.ixN (n + 3) 2 = some 2 := by
  unfold L2.ixN
  rw [if_pos (by decide), if_pos (by omega)]
  rfl
theorem z_ixN3 {n : Nat} : L2.ixN (n + 4) 3 = some 3 := by
  unfold L2.ixN
  rw [if_pos (by decide), if_pos (by omega)]
  rfl
theorem z_ixN4 {n : Nat} : L2.ixN (n + 5) 4 = some 4 := by
  unfold L2.ixN
  rw [if_pos (by decide), if_pos (by omega)]
  rfl
theorem z_ixN5 {n : Nat} : L2.ixN (n + 6) 5 = some 5 := by
  unfold L2.ixN
  rw [if_pos (by decide), if_pos (by omega)]
  rfl
theorem z_ixN6 {n : Nat} : L2.ixN (n + 7) 6 = some 6 := by
  unfold L2.ixN
  rw [if_pos (by decide), if_pos (by omega)]
  rfl
theorem z_ixN7 {n : Nat} : L2.ixN (n + 8) 7 = some 7 := by
  unfold L2.ixN
  rw [if_pos (by decide), if_pos (by omega)]
  rfl
theorem at_4 {α : Type} {a b c d e : α} {l : List α} : L2.atI (a :: b :: c :: d :: e :: l) 4 = some e := by
  show (L2.ixN (l.length + 1 + 1 + 1 + 1 + 1) 4).bind _ = _
  unfold L2.ixN
  rw [if_pos (by decide), if_pos (by omega)]
  rfl
/-! ### statements by what holds behind them -/
def SW (b : SSem) (r : Rho) (st : Store) (Q : SR → Prop) : Prop := ∃ o, b r st = some o ∧ Q o
section
variable {a b c : SSem} {r r1 : Rho} {st st1 : Store} {Q : SR → Prop} {t : TSem} {it : ISem} {g : TgSem} {xs : List D}
theorem sw_eq {o : SR} (h : a r st = some o) (q : Q o) : SW a r st Q := ⟨o, h, q⟩
theorem sw_step (h : a r st = some (.nx r1 st1)) (q : SW b r1 st1 Q) : SW (sSeq a b) r st Q := by
  obtain ⟨o, e, q⟩ := q
  exact ⟨o, by rw [x_sSeq, h]; exact e, q⟩
theorem sw_seq (h : SW a r st fun o => match o with
    | .nx r1 st1 => SW b r1 st1 Q
    | o => Q o) : SW (sSeq a b) r st Q := by
  obtain ⟨o, e, q⟩ := h
  cases o with
  | nx r1 st1 =>
    obtain ⟨o, e2, q⟩ := q
    exact ⟨o, by rw [x_sSeq, e]; exact e2, q⟩
  | _ => exact ⟨_, by rw [x_sSeq, e], q⟩
theorem sw_ret {o : SR} (h : a r st = some o) (hn : ∀ r1 st1, o ≠ .nx r1 st1) (q : Q o) : SW (sSeq a b) r st Q := by
  refine ⟨o, ?_, q⟩
  rw [x_sSeq, h]
  cases o with
  | nx r1 st1 => exact absurd rfl (hn r1 st1)
  | _ => rfl
theorem sw_ifT (h : t r st = some (.ok true st1)) (q : SW a r st1 Q) : SW (sIf t a b) r st Q := by
  obtain ⟨o, e, q⟩ := q
  exact ⟨o, by rw [x_sIf, h]; exact e, q⟩
theorem sw_ifF (h : t r st = some (.ok false st1)) (q : SW b r st1 Q) : SW (sIf t a b) r st Q := by
  obtain ⟨o, e, q⟩ := q
  exact ⟨o, by rw [x_sIf, h]; exact e, q⟩
/-- a for: I n holds ahead of turn n -/
theorem sw_forN (I : Nat → Rho → Store → Prop) (h : it r st = some (xs, st1)) (h0 : I 0 r st1)
    (hs : ∀ n x r st, xs[n]? = some x → I n r st → ∃ r1 st1, g (.val x) r st = some (r1, st1) ∧ SW b r1 st1 fun o => match o with
      | .nx r2 st2 => I (n + 1) r2 st2
      | .ct r2 st2 => I (n + 1) r2 st2
      | .bk r2 st2 => Q (.nx r2 st2)
      | o => Q o)
    (hq : ∀ r2 st2, I xs.length r2 st2 → Q (.nx r2 st2)) : SW (sFor it g b) r st Q := by
  have key : ∀ (ys zs : List D) (r : Rho) (st : Store), xs = zs ++ ys → I zs.length r st → SW (forS g b ys) r st Q := by
    intro ys
    induction ys with
    | nil =>
      intro zs r st hy hI
      rw [List.append_nil] at hy
      exact ⟨_, rfl, hq _ _ (hy ▸ hI)⟩
    | cons y ys ih =>
      intro zs r st hy hI
      obtain ⟨r1, st1, e1, o, e2, q⟩ := hs zs.length y r st (by rw [hy]; simp) hI
      have hy' : xs = (zs ++ [y]) ++ ys := by rw [hy]; simp
      have hl : (zs ++ [y]).length = zs.length + 1 := by simp
      cases o with
      | nx r2 st2 =>
        obtain ⟨o, e3, q3⟩ := ih (zs ++ [y]) r2 st2 hy' (by rw [hl]; exact q)
        exact ⟨o, by rw [x_forC, e1]; simp only [e2]; exact e3, q3⟩
      | ct r2 st2 =>
        obtain ⟨o, e3, q3⟩ := ih (zs ++ [y]) r2 st2 hy' (by rw [hl]; exact q)
        exact ⟨o, by rw [x_forC, e1]; simp only [e2]; exact e3, q3⟩
      | bk r2 st2 => exact ⟨_, by rw [x_forC, e1]; simp only [e2], q⟩
      | rt v st2 => exact ⟨_, by rw [x_forC, e1]; simp only [e2], q⟩
      | exc e r2 st2 => exact ⟨_, by rw [x_forC, e1]; simp only [e2], q⟩
  obtain ⟨o, e, q⟩ := key xs [] r st1 rfl h0
  exact ⟨o, by rw [x_sFor, h]; exact e, q⟩
/-- a for whose turns are alike -/
theorem sw_for (I : Rho → Store → Prop) (h : it r st = some (xs, st1)) (h0 : I r st1)
    (hs : ∀ x r st, x ∈ xs → I r st → ∃ r1 st1, g (.val x) r st = some (r1, st1) ∧ SW b r1 st1 fun o => match o with
      | .nx r2 st2 => I r2 st2
      | .ct r2 st2 => I r2 st2
      | .bk r2 st2 => Q (.nx r2 st2)
      | o => Q o)
    (hq : ∀ r2 st2, I r2 st2 → Q (.nx r2 st2)) : SW (sFor it g b) r st Q := by
  have key : ∀ (ys : List D) (r : Rho) (st : Store), (∀ y ∈ ys, y ∈ xs) → I r st → SW (forS g b ys) r st Q := by
    intro ys
    induction ys with
    | nil => exact fun r st _ hI => ⟨_, rfl, hq _ _ hI⟩
    | cons y ys ih =>
      intro r st hy hI
      obtain ⟨r1, st1, e1, o, e2, q⟩ := hs y r st (hy y List.mem_cons_self) hI
      have hy' : ∀ z ∈ ys, z ∈ xs := fun z hz => hy z (List.mem_cons_of_mem _ hz)
      cases o with
      | nx r2 st2 =>
        obtain ⟨o, e3, q3⟩ := ih r2 st2 hy' q
        exact ⟨o, by rw [x_forC, e1]; simp only [e2]; exact e3, q3⟩
      | ct r2 st2 =>
        obtain ⟨o, e3, q3⟩ := ih r2 st2 hy' q
        exact ⟨o, by rw [x_forC, e1]; simp only [e2]; exact e3, q3⟩
      | bk r2 st2 => exact ⟨_, by rw [x_forC, e1]; simp only [e2], q⟩
      | rt v st2 => exact ⟨_, by rw [x_forC, e1]; simp only [e2], q⟩
      | exc e r2 st2 => exact ⟨_, by rw [x_forC, e1]; simp only [e2], q⟩
  obtain ⟨o, e, q⟩ := key xs r st1 (fun _ h => h) h0
  exact ⟨o, by rw [x_sFor, h]; exact e, q⟩
end
/-- a def by its body -/
theorem fn_sw {n : Nat} {b : SSem} {ds : List D} {st : Store} {P : RV → Store → Prop} (h : SW b (slots0 n ds) st fun o => match o with
    | .nx _ st1 => P (.val .non) st1
    | .rt (.val d) st1 => P (.val d) st1
    | .rt (.fresh d) st1 => P (.fresh d) st1
    | _ => False) : ∃ v st1, fnS n b ds st = some (.ret v st1) ∧ P v st1 := by
  obtain ⟨o, e, q⟩ := h
  rw [x_fnS, e]
  cases o with
  | nx r st1 => exact ⟨_, _, rfl, q⟩
  | rt v st1 =>
    cases v with
    | val d => exact ⟨_, _, rfl, q⟩
    | fresh d => exact ⟨_, _, rfl, q⟩
    | peek d => exact q.elim
  | _ => exact q.elim
end Tz

local macro_rules | `(tactic| decreasing_trivial) => `(tactic| (repeat' (first | with_reducible assumption | apply Tz.Bd.mul | apply Tz.Bd.addM | apply Tz.Bd.subM | apply Tz.Bd.neg | apply Tz.Bd.abs | (apply Tz.Bd.l64; decide +kernel) | (apply Tz.Bd.l300; decide +kernel))))
local macro_rules | `(tactic| rwa [$rs,*]) => do
  let ts : Lean.TSyntaxArray `term := rs.getElems.map fun r => ⟨r.raw[1]⟩
  `(tactic| simp (disch := (first | with_reducible assumption | (with_reducible show Tz.mulOk _ _ = true; refine Tz.mulOk_bd (by decreasing_trivial) (by decreasing_trivial) (by decide +kernel)) | (with_reducible show Tz.divOk _ _ = true; refine Tz.divOk_bd (by first | assumption | omega) (by decreasing_trivial) (by decide +kernel)) | (with_reducible show Tz.powOk _ _ = true; refine Tz.powOk_bd (by decide +kernel)) | ((fail_if_success (intro _)); omega) | fail)) only [Tz.x_eC, Tz.x_eVar, Tz.x_eOp1, Tz.x_eOp2, Tz.x_aNil, Tz.x_argsN, Tz.x_argsC, Tz.x_aApp, Tz.x_eTup, Tz.x_eLst, Tz.x_eCall, Tz.x_tVal, Tz.x_tBool, Tz.x_tNotS, Tz.x_tAndS, Tz.x_tOrS, Tz.x_tTrue, Tz.x_eAndS, Tz.x_eOrS, Tz.x_eTest, Tz.x_eIf, Tz.x_eChain, Tz.x_oNone, Tz.x_oSome, Tz.x_eSl, Tz.x_iExp, Tz.x_iExpU, Tz.x_iRange1, Tz.v_rngD, Tz.x_iRange2, Tz.x_eComp, Tz.x_gVarV, Tz.x_gVarF, Tz.x_gTup, Tz.x_gListN, Tz.x_gListC, Tz.x_sNext, Tz.x_sBreak, Tz.x_sCont, Tz.x_sSeq, Tz.x_sDrop, Tz.x_sRet, Tz.x_sRetB, Tz.x_sRetV, Tz.x_sRetN, Tz.x_sAsg, Tz.x_sPar2, Tz.x_sAug, Tz.x_sIf, Tz.x_sFreeze, Tz.x_sFor, Tz.x_forN, Tz.x_forC, Tz.x_fnS, Tz.x_slots0, Tz.x_sSetIx, Tz.v_addI, Tz.v_subI, Tz.v_mulI, Tz.v_divI, Tz.v_modI, Tz.v_powI, Tz.v_ltI, Tz.v_leI, Tz.v_gtI, Tz.v_geI, Tz.v_max, Tz.v_min, Tz.v_abs, Tz.v_intI, Tz.v_intB, Tz.v_neg, Tz.v_eqI, Tz.v_neI, Tz.v_eqB, Tz.v_neB, Tz.v_eqTT, Tz.v_neTT, Tz.v_eqFF, Tz.v_neFF, Tz.z_dOksN, Tz.z_dOksC, Tz.z_dOkI, Tz.z_dOkB, Tz.z_dOkN, Tz.z_dOkT, Tz.z_dEqsN, Tz.z_dEqsC, Tz.z_dEqI, Tz.z_dEqB, Tz.z_dEqT, Tz.v_isTB, Tz.v_isTN, Tz.v_isTNI, Tz.v_isTNT, Tz.v_isntTB, Tz.v_isntTN, Tz.v_isntTNI, Tz.v_isntTNT, Tz.v_isC, Tz.v_isCF, Tz.v_isCI, Tz.v_isCT, Tz.v_isiB, Tz.v_b4, Tz.v_b5, Tz.z_bnd, Tz.z_planN, Tz.z_planP, Tz.z_planK, Tz.z_planD, Tz.z_getD0, Tz.z_getDS, Tz.x_iEnum, Tz.x_iZipM, Tz.x_tValO, Tz.v_trOB, Tz.x_eIndex, Tz.x_eMeth, Tz.x_iZip, Tz.x_eLstR, Tz.x_eChN, Tz.x_chL1, Tz.x_chLC, Tz.x_sAppend, Tz.z_enumN, Tz.z_enumC, Tz.z_zipC, Tz.z_zipN, Tz.v_ixT, Tz.v_ixF, Tz.v_ixP, Tz.v_ixL, Tz.v_ixO, Tz.v_ixR, Tz.v_asR, Tz.v_lenT, Tz.v_lenO, Tz.v_lenL, Tz.v_lenP, Tz.v_allF, Tz.v_anyF, Tz.v_tupF, Tz.v_lisT, Tz.v_lisF, Tz.v_lisP, Tz.v_lisL, Tz.v_tupP, Tz.v_tupL, Tz.v_tupT, Tz.v_lenF, Tz.v_itL, Tz.v_itUF, Tz.v_itUL, Tz.v_itUP, Tz.v_itUO, Tz.v_addLPF, Tz.v_addLFF, Tz.v_slO, Tz.v_isiT, Tz.v_isiI, Tz.v_itF, Tz.v_itO, Tz.v_itUT, Tz.v_itT, Tz.v_trB, Tz.v_trI, Tz.v_toV, Tz.v_toF, Tz.v_b1, Tz.v_b2, Tz.v_b3, Tz.v_boolsN, Tz.v_boolsC, Tz.at_0, Tz.at_1, Tz.at_2, Tz.at_3, Tz.z_map, Tz.z_get0, Tz.z_getS, Tz.z_set0, Tz.z_setS, Tz.z_mapC, Tz.z_mapN, Tz.z_lenC, Tz.z_lenN, Tz.z_appC, Tz.z_appN, Tz.z_rep0, Tz.z_repS, Tz.z_at, Tz.z_setAt, Tz.v_fr0, Tz.v_fr1, Tz.v_frT, Tz.v_frL, Tz.x_frG, Tz.z_dEqF, Tz.z_dOkF, Tz.v_eqFr, Tz.v_neFr, Tz.v_shE, Tz.v_shL, Tz.v_shS, Tz.v_shC, Tz.v_shT, Tz.z_ixN0, Tz.z_ixN1, Tz.z_ixN2, Tz.z_ixN3, Tz.z_ixN4, Tz.z_ixN5, Tz.z_ixN6, Tz.z_ixN7, Tz.at_4, Tz.lim_eq, ite_true, ite_false, Bool.not_true, Bool.not_false, Bool.true_and, Bool.false_and, decide_true, decide_false, Option.some.injEq, if_true, if_false, reduceIte, Nat.zero_add, Nat.sub_self, Bool.false_eq_true, Nat.add_zero, Nat.le_refl, Nat.reduceAdd, Nat.reduceSub, Nat.reduceLeDiff, Nat.reduceEqDiff, Nat.reduceLT, Int.reduceAdd, Int.reduceSub, Int.reduceMul, Int.reduceMod, Int.reduceDiv, Int.reduceNeg, Int.reduceLT, Int.reduceLE, Int.reduceEq, Int.reducePow, Int.reduceToNat, Int.cast_ofNat_Int, List.all_cons, List.all_nil, id_eq, and_self, and_true, true_and, $[$ts:term],*])

set_option Elab.async false
set_option linter.all false
set_option maxRecDepth 100000
set_option maxHeartbeats 4000000
/-! Lb: defs that many laws reach, as combinators. -/
namespace Tz
open PySem L2 PyProof.Rows
noncomputable def G_law_purse : FSem := fnS 1
  (sRetB (eLst (argsS [(eOp2 addV (eOp2 mulT (eOp2 modV (eVar 0) (eC (.int 999999937))) (eC (.int 7001))) (eC (.int 3301))), (eOp2 ixV (eLst (argsS [(eC (.int 0)), (eVar 0)])) (eOp1 intV (eOp2 geV (eVar 0) (eOp2 powV (eC (.int 10)) (eC (.int 18)))))), (eC (.int 0))])))
noncomputable def G_law_cell : FSem := fnS 4
  (sSeq (sIf (tBool (eOp2 ltV (eVar 1) (eOp1 lenV (eVar 0)))) (sRet (eOp2 ixV (eVar 0) (eVar 1))) sNext) (sSeq (sAsg (eOp2 modV (eOp2 mulT (eC (.int 60013)) (eOp2 addV (eOp2 addV (eOp2 mulT (eVar 1) (eVar 1)) (eOp2 mulT (eC (.int 7)) (eVar 1))) (eC (.int 3)))) (eC (.int 999999937))) (gVar 2)) (sSeq (sFor (iExp (eSl (eVar 0) oNone (oSome (eC (.int 4))))) (gVar 3) (sAsg (eOp2 modV (eOp2 addV (eOp2 mulT (eVar 2) (eC (.int 30103))) (eVar 3)) (eC (.int 999999937))) (gVar 2))) (sRetV 2))))
noncomputable def G_law_pick : FSem := fnS 4
  (sSeq (sSetIx 0 (eC (.int 2)) (eOp2 addV (eOp2 ixV (eVar 0) (eC (.int 2))) (eC (.int 1)))) (sSeq (sAsg (eOp2 modV (eOp2 ixV (eVar 0) (eC (.int 0))) (eC (.int 999999937))) (gVar 2)) (sSeq (sSetIx 0 (eC (.int 0)) (eOp2 addV (eOp2 mulT (eVar 2) (eOp2 addV (eOp2 modV (eVar 2) (eC (.int 50021))) (eC (.int 20011)))) (eOp2 mulT (eC (.int 90001)) (eOp2 ixV (eVar 0) (eC (.int 2)))))) (sSeq (sIf (tBool (eOp2 gtV (eOp2 ixV (eVar 0) (eC (.int 1))) (eC (.int 0)))) (sSeq (sAsg (eOp2 modV (eOp2 ixV (eVar 0) (eC (.int 1))) (eVar 1)) (gVar 3)) (sSeq (sSetIx 0 (eC (.int 1)) (eOp2 divV (eOp2 ixV (eVar 0) (eC (.int 1))) (eVar 1))) (sRetV 3))) sNext) (sRet (eOp2 modV (eOp2 divV (eOp2 modV (eOp2 ixV (eVar 0) (eC (.int 0))) (eC (.int 999999937))) (eC (.int 16))) (eVar 1)))))))
noncomputable def G_law_low : FSem := fnS 4
  (sSeq (sIf (tBool (eOp2 ltV (eVar 1) (eC (.int 0)))) (sPar2 0 1 (eOp2 subV (eC (.int 0)) (eVar 0)) (eOp2 subV (eC (.int 0)) (eVar 1))) sNext) (sSeq (sPar2 2 3 (eOp1 absV (eVar 0)) (eVar 1)) (sSeq (whileS (tBool (eOp2 gtV (eVar 3) (eC (.int 0)))) (sPar2 2 3 (eVar 3) (eOp2 modV (eVar 2) (eVar 3)))) (sRet (eTup (argsS [(eOp2 divV (eVar 0) (eVar 2)), (eOp2 divV (eVar 1) (eVar 2))]))))))
noncomputable def G_is_whole : FSem := fnS 1
  (sRet (eAndS (eOp1 (isiT .int) (eVar 0)) (eTest (tNotS (tVal (eOp1 (isiT .bl) (eVar 0)))))))
noncomputable def G_share_of : FSem := fnS 2
  (sSeq (whileS (tBool (eOp2 gtV (eVar 1) (eC (.int 0)))) (sPar2 0 1 (eVar 1) (eOp2 modV (eVar 0) (eVar 1)))) (sRetV 0))
noncomputable def G_is_fraction : FSem := fnS 2
  (sSeq (sIf (tOrS (tNotS (tVal (eOp1 (isiT .tup) (eVar 0)))) (tOrS (tBool (eOp2 neT (eOp1 lenV (eVar 0)) (eC (.int 2)))) (tNotS (tVal (eOp1 allV (eComp [1] (iExpU (eVar 0)) (gVar 1) tTrue (eCall G_is_whole (argsS [(eVar 1)])))))))) (sRet (eC (.bl false))) sNext) (sRet (eAndS (eOp2 gtV (eOp2 ixV (eVar 0) (eC (.int 1))) (eC (.int 0))) (eOp2 eqT (eCall G_share_of (argsS [(eOp1 absV (eOp2 ixV (eVar 0) (eC (.int 0)))), (eOp2 ixV (eVar 0) (eC (.int 1)))])) (eC (.int 1))))))
noncomputable def G_check_number : FSem := fnS 2
  (sIf (tNotS (tVal (eCall G_is_fraction (argsS [(eVar 0)])))) sStuck sNext)
noncomputable def G_halves_up : FSem := fnS 1
  (sRet (eOp2 divV (eOp2 addV (eOp2 mulT (eC (.int 2)) (eOp2 ixV (eVar 0) (eC (.int 0)))) (eOp2 ixV (eVar 0) (eC (.int 1)))) (eOp2 mulT (eC (.int 2)) (eOp2 ixV (eVar 0) (eC (.int 1))))))
noncomputable def G_nearest_whole : FSem := fnS 1
  (sSeq (sDrop (eCall G_check_number (argsS [(eVar 0), (eC (.int 0))]))) (sRet (eCall G_halves_up (argsS [(eVar 0)]))))
noncomputable def G_from_zero : FSem := fnS 1
  (sRet (eAndS (eCall G_is_fraction (argsS [(eVar 0)])) (eOp2 geV (eOp2 ixV (eVar 0) (eC (.int 0))) (eC (.int 0)))))
noncomputable def G_root_above : FSem := fnS 4
  (sSeq (sIf (tNotS (tVal (eCall G_from_zero (argsS [(eVar 0)])))) sStuck sNext) (sSeq (sAsg (eTup (argsS [(eC (.int 0)), (eC (.int 1))])) (gTupS [(gVar 1), (gVar 2)])) (sSeq (whileS (tBool (eOp2 ltV (eOp2 mulT (eOp2 mulT (eVar 2) (eVar 2)) (eOp2 ixV (eVar 0) (eC (.int 1)))) (eOp2 ixV (eVar 0) (eC (.int 0))))) (sAug imulV 2 (eC (.int 2)))) (sSeq (whileS (tBool (eOp2 ltV (eVar 1) (eVar 2))) (sSeq (sAsg (eOp2 divV (eOp2 addV (eVar 1) (eVar 2)) (eC (.int 2))) (gVar 3)) (sIf (tBool (eOp2 ltV (eOp2 mulT (eOp2 mulT (eVar 3) (eVar 3)) (eOp2 ixV (eVar 0) (eC (.int 1)))) (eOp2 ixV (eVar 0) (eC (.int 0))))) (sAsg (eOp2 addV (eVar 3) (eC (.int 1))) (gVar 1)) (sAsg (eVar 3) (gVar 2))))) (sRetV 1)))))
noncomputable def G_law_grade : FSem := fnS 1
  (sRet (eOp2 ixV (eLst (argsS [(eC (.int 1)), (eC (.int 2)), (eC (.int 3)), (eC (.int 255)), (eC (.int 1000)), (eOp2 addV (eC (.int 1)) (eCall G_law_pick (argsS [(eVar 0), (eC (.int 1000))])))])) (eCall G_law_pick (argsS [(eVar 0), (eC (.int 6))]))))
noncomputable def G_law_share : FSem := fnS 3
  (sSeq (sAsg (eCall G_law_pick (argsS [(eVar 0), (eC (.int 10))])) (gVar 1)) (sSeq (sAsg (eOp2 ixV (eLst (argsS [(eC (.int 1)), (eC (.int 2)), (eC (.int 3)), (eC (.int 4)), (eC (.int 6)), (eC (.int 12)), (eC (.int 60)), (eC (.int 255)), (eC (.int 510)), (eOp2 addV (eC (.int 1)) (eCall G_law_pick (argsS [(eVar 0), (eC (.int 997))])))])) (eVar 1)) (gVar 2)) (sRet (eCall G_law_low (argsS [(eCall G_law_pick (argsS [(eVar 0), (eOp2 addV (eVar 2) (eC (.int 1)))])), (eVar 2)])))))
noncomputable def G_law_shares : FSem := fnS 4
  (sSeq (sAsg (eCall G_law_pick (argsS [(eVar 0), (eC (.int 8))])) (gVar 1)) (sSeq (sAsg (eComp [3] (iRange1 (eC (.int 3))) (gVar 3) tTrue (eCall G_law_share (argsS [(eVar 0)]))) (gVar 2)) (sSeq (sIf (tBool (eOp2 eqT (eVar 1) (eC (.int 1)))) (sSetIx 2 (eOp2 addV (eC (.int 1)) (eCall G_law_pick (argsS [(eVar 0), (eC (.int 2))]))) (eOp2 ixV (eVar 2) (eC (.int 0)))) sNext) (sSeq (sIf (tBool (eOp2 eqT (eVar 1) (eC (.int 3)))) (sAsg (eLst (argsS [(eOp2 ixV (eVar 2) (eC (.int 0))), (eOp2 ixV (eVar 2) (eC (.int 0))), (eOp2 ixV (eVar 2) (eC (.int 0)))])) (gVar 2)) sNext) (sRet (eOp1 tupV (eVar 2)))))))
noncomputable def G_law_plus : FSem := fnS 2
  (sRet (eCall G_law_low (argsS [(eOp2 addV (eOp2 mulT (eOp2 ixV (eVar 0) (eC (.int 0))) (eOp2 ixV (eVar 1) (eC (.int 1)))) (eOp2 mulT (eOp2 ixV (eVar 1) (eC (.int 0))) (eOp2 ixV (eVar 0) (eC (.int 1))))), (eOp2 mulT (eOp2 ixV (eVar 0) (eC (.int 1))) (eOp2 ixV (eVar 1) (eC (.int 1))))])))
noncomputable def G_in_one : FSem := fnS 1
  (sRet (eAndS (eCall G_from_zero (argsS [(eVar 0)])) (eOp2 leV (eOp2 ixV (eVar 0) (eC (.int 0))) (eOp2 ixV (eVar 0) (eC (.int 1))))))
noncomputable def G_Shade_init : FSem := fnS 6
  (sSeq (sFor (iEnumD (eTup (argsS [(eVar 1), (eVar 2), (eVar 3)]))) (gTupS [(gVar 4), (gVar 5)]) (sIf (tNotS (tVal (eCall G_in_one (argsS [(eVar 5)])))) sStuck sNext)) (sSeq (sSetF 0 ["Shade"] "ember" (eVar 1)) (sSeq (sSetF 0 ["Shade"] "leaf" (eVar 2)) (sSetF 0 ["Shade"] "sky" (eVar 3)))))
noncomputable def G_law_made : FSem := fnS 2
  (sSeq (sIf (tBool (eOp2 eqT (eCall G_law_pick (argsS [(eVar 0), (eC (.int 2))])) (eC (.int 1)))) (sRet (eCall (mkF "Shade" (bnd 1 [] [.p 0, .k 1, .k 2, .k 0] G_Shade_init)) (argsS [(eOp2 ixV (eVar 1) (eC (.int 2))), (eOp2 ixV (eVar 1) (eC (.int 0))), (eOp2 ixV (eVar 1) (eC (.int 1)))]))) sNext) (sRet (eCall (mkF "Shade" (bnd 4 [] [.p 0, .p 1, .p 2, .p 3] G_Shade_init)) (argsS [(eOp2 ixV (eVar 1) (eC (.int 0))), (eOp2 ixV (eVar 1) (eC (.int 1))), (eOp2 ixV (eVar 1) (eC (.int 2)))]))))
noncomputable def G_law_step : FSem := fnS 2
  (sRet (eOp2 divV (eOp2 addV (eOp2 mulT (eOp2 mulT (eC (.int 2)) (eOp2 ixV (eVar 0) (eC (.int 0)))) (eVar 1)) (eOp2 ixV (eVar 0) (eC (.int 1)))) (eOp2 mulT (eC (.int 2)) (eOp2 ixV (eVar 0) (eC (.int 1))))))
noncomputable def G_check_shade : FSem := fnS 1
  (sIf (tNotS (tVal (eOp1 (isC "Shade") (eVar 0)))) sStuck sNext)
noncomputable def G_check_grade : FSem := fnS 1
  (sIf (tOrS (tNotS (tVal (eCall G_is_whole (argsS [(eVar 0)])))) (tNotS (tBool (eChain leV leV (eC (.int 1)) (eVar 0) (eC (.int 1000)))))) sStuck sNext)
noncomputable def G_low : FSem := fnS 3
  (sSeq (sIf (tBool (eOp2 ltV (eVar 1) (eC (.int 0)))) (sPar2 0 1 (eOp2 subV (eC (.int 0)) (eVar 0)) (eOp2 subV (eC (.int 0)) (eVar 1))) sNext) (sSeq (sAsg (eCall G_share_of (argsS [(eOp1 absV (eVar 0)), (eVar 1)])) (gVar 2)) (sRet (eTup (argsS [(eOp2 divV (eVar 0) (eVar 2)), (eOp2 divV (eVar 1) (eVar 2))])))))
noncomputable def G_mul : FSem := fnS 2
  (sRet (eCall G_low (argsS [(eOp2 mulT (eOp2 ixV (eVar 0) (eC (.int 0))) (eOp2 ixV (eVar 1) (eC (.int 0)))), (eOp2 mulT (eOp2 ixV (eVar 0) (eC (.int 1))) (eOp2 ixV (eVar 1) (eC (.int 1))))])))
noncomputable def G_step_of : FSem := fnS 2
  (sRet (eCall G_halves_up (argsS [(eCall G_mul (argsS [(eVar 0), (eTup (argsS [(eVar 1), (eC (.int 1))]))]))])))
noncomputable def G_parts_of : FSem := fnS 1
  (sRet (eTup (argsS [(eOp1 (fldV ["Shade"] "ember") (eVar 0)), (eOp1 (fldV ["Shade"] "leaf") (eVar 0)), (eOp1 (fldV ["Shade"] "sky") (eVar 0))])))
noncomputable def G_printed : FSem := fnS 3
  (sSeq (sDrop (eCall G_check_shade (argsS [(eVar 0)]))) (sSeq (sDrop (eCall G_check_grade (argsS [(eVar 1)]))) (sRet (eOp1 tupV (eComp [2] (iExpU (eCall G_parts_of (argsS [(eVar 0)]))) (gVar 2) tTrue (eCall G_step_of (argsS [(eVar 2), (eVar 1)])))))))
noncomputable def G_shares_of : FSem := fnS 1
  (sSeq (sDrop (eCall G_check_shade (argsS [(eVar 0)]))) (sRet (eCall G_parts_of (argsS [(eVar 0)]))))
noncomputable def G_is_step : FSem := fnS 2
  (sRet (eAndS (eCall G_is_whole (argsS [(eVar 0)])) (eChain leV leV (eC (.int 0)) (eVar 0) (eVar 1))))
noncomputable def G_spans : FSem := fnS 4
  (sSeq (sPar2 2 3 (eC (.tup [(.int 0), (.int 1)])) (eC (.tup [(.int 1), (.int 1)]))) (sSeq (sIf (tBool (eOp2 gtV (eVar 0) (eC (.int 0)))) (sAsg (eCall G_low (argsS [(eOp2 subV (eOp2 mulT (eC (.int 2)) (eVar 0)) (eC (.int 1))), (eOp2 mulT (eC (.int 2)) (eVar 1))])) (gVar 2)) sNext) (sSeq (sIf (tBool (eOp2 ltV (eVar 0) (eVar 1))) (sAsg (eCall G_low (argsS [(eOp2 addV (eOp2 mulT (eC (.int 2)) (eVar 0)) (eC (.int 1))), (eOp2 mulT (eC (.int 2)) (eVar 1))])) (gVar 3)) sNext) (sRet (eTup (argsS [(eVar 2), (eVar 3), (eOp2 eqT (eVar 0) (eVar 1))]))))))
noncomputable def G_span_of : FSem := fnS 2
  (sSeq (sDrop (eCall G_check_grade (argsS [(eVar 1)]))) (sSeq (sIf (tNotS (tVal (eCall G_is_step (argsS [(eVar 0), (eVar 1)])))) sStuck sNext) (sRet (eCall G_spans (argsS [(eVar 0), (eVar 1)])))))
noncomputable def G_law_is_fraction : FSem := fnS 1
  (sSeq (sIf (tOrS (tNotS (tVal (eOp1 (isiT .tup) (eVar 0)))) (tOrS (tBool (eOp2 neT (eOp1 lenV (eVar 0)) (eC (.int 2)))) (tOrS (tNotS (tVal (eCall G_is_whole (argsS [(eOp2 ixV (eVar 0) (eC (.int 0)))])))) (tNotS (tVal (eCall G_is_whole (argsS [(eOp2 ixV (eVar 0) (eC (.int 1)))]))))))) (sRet (eC (.bl false))) sNext) (sRet (eAndS (eOp2 gtV (eOp2 ixV (eVar 0) (eC (.int 1))) (eC (.int 0))) (eOp2 eqT (eCall G_law_low (argsS [(eOp2 ixV (eVar 0) (eC (.int 0))), (eOp2 ixV (eVar 0) (eC (.int 1)))])) (eVar 0)))))
noncomputable def G_add : FSem := fnS 2
  (sRet (eCall G_low (argsS [(eOp2 addV (eOp2 mulT (eOp2 ixV (eVar 0) (eC (.int 0))) (eOp2 ixV (eVar 1) (eC (.int 1)))) (eOp2 mulT (eOp2 ixV (eVar 1) (eC (.int 0))) (eOp2 ixV (eVar 0) (eC (.int 1))))), (eOp2 mulT (eOp2 ixV (eVar 0) (eC (.int 1))) (eOp2 ixV (eVar 1) (eC (.int 1))))])))
noncomputable def G_regraded : FSem := fnS 6
  (sSeq (sDrop (eCall G_check_grade (argsS [(eVar 1)]))) (sSeq (sDrop (eCall G_check_grade (argsS [(eVar 2)]))) (sSeq (sIf (tNotS (tVal (eCall G_is_step (argsS [(eVar 0), (eVar 1)])))) sStuck sNext) (sSeq (sAsg (eSl (eCall G_spans (argsS [(eVar 0), (eVar 1)])) oNone (oSome (eC (.int 2)))) (gTupS [(gVar 3), (gVar 4)])) (sSeq (sAsg (eCall G_add (argsS [(eCall G_mul (argsS [(eVar 4), (eTup (argsS [(eVar 2), (eC (.int 1))]))])), (eC (.tup [(.int 1), (.int 2)]))])) (gVar 5)) (sRet (eTup (argsS [(eCall G_step_of (argsS [(eVar 3), (eVar 2)])), (eOp2 divV (eOp2 subV (eOp2 ixV (eVar 5) (eC (.int 0))) (eC (.int 1))) (eOp2 ixV (eVar 5) (eC (.int 1))))]))))))))
noncomputable def G_law_below : FSem := fnS 2
  (sRet (eOp2 ltV (eOp2 mulT (eOp2 ixV (eVar 0) (eC (.int 0))) (eOp2 ixV (eVar 1) (eC (.int 1)))) (eOp2 mulT (eOp2 ixV (eVar 1) (eC (.int 0))) (eOp2 ixV (eVar 0) (eC (.int 1))))))
noncomputable def G_law_in : FSem := fnS 2
  (sSeq (sIf (tVal (eCall G_law_below (argsS [(eVar 0), (eOp2 ixV (eVar 1) (eC (.int 0)))]))) (sRet (eC (.bl false))) sNext) (sRet (eOrS (eCall G_law_below (argsS [(eVar 0), (eOp2 ixV (eVar 1) (eC (.int 1)))])) (eAndS (eOp2 ixV (eVar 1) (eC (.int 2))) (eOp2 eqT (eVar 0) (eOp2 ixV (eVar 1) (eC (.int 1))))))))
noncomputable def G_check_steps : FSem := fnS 4
  (sSeq (sIf (tOrS (tNotS (tVal (eOp1 (isiT .tup) (eVar 0)))) (tBool (eOp2 neT (eOp1 lenV (eVar 0)) (eC (.int 3))))) sStuck sNext) (sFor (iEnumD (eVar 0)) (gTupS [(gVar 2), (gVar 3)]) (sIf (tNotS (tVal (eCall G_is_step (argsS [(eVar 3), (eVar 1)])))) sStuck sNext)))
noncomputable def G_is_in : FSem := fnS 5
  (sSeq (sAsg (eVar 1) (gTupS [(gVar 2), (gVar 3), (gVar 4)])) (sSeq (sIf (tVal (eCall G_law_below (argsS [(eVar 0), (eVar 2)]))) (sRet (eC (.bl false))) sNext) (sRet (eOrS (eCall G_law_below (argsS [(eVar 0), (eVar 3)])) (eAndS (eVar 4) (eOp2 eqT (eVar 0) (eVar 3)))))))
noncomputable def G_could_be : FSem := fnS 5
  (sSeq (sDrop (eCall G_check_shade (argsS [(eVar 0)]))) (sSeq (sDrop (eCall G_check_grade (argsS [(eVar 2)]))) (sSeq (sDrop (eCall G_check_steps (argsS [(eVar 1), (eVar 2)]))) (sRet (eOp1 allV (eComp [3, 4] (iZipD (eCall G_parts_of (argsS [(eVar 0)])) (eVar 1)) (gTupS [(gVar 3), (gVar 4)]) tTrue (eCall G_is_in (argsS [(eVar 3), (eCall G_spans (argsS [(eVar 4), (eVar 2)]))]))))))))
noncomputable def G_law_times : FSem := fnS 2
  (sRet (eCall G_law_low (argsS [(eOp2 mulT (eOp2 ixV (eVar 0) (eC (.int 0))) (eOp2 ixV (eVar 1) (eC (.int 0)))), (eOp2 mulT (eOp2 ixV (eVar 0) (eC (.int 1))) (eOp2 ixV (eVar 1) (eC (.int 1))))])))
noncomputable def G_law_minus : FSem := fnS 2
  (sRet (eCall G_law_low (argsS [(eOp2 subV (eOp2 mulT (eOp2 ixV (eVar 0) (eC (.int 0))) (eOp2 ixV (eVar 1) (eC (.int 1)))) (eOp2 mulT (eOp2 ixV (eVar 1) (eC (.int 0))) (eOp2 ixV (eVar 0) (eC (.int 1))))), (eOp2 mulT (eOp2 ixV (eVar 0) (eC (.int 1))) (eOp2 ixV (eVar 1) (eC (.int 1))))])))
noncomputable def G_law_turn_row : FSem := fnS 7
  (sSeq (sAsg (eCall G_law_pick (argsS [(eVar 0), (eC (.int 6))])) (gVar 1)) (sSeq (sAsg (eCall G_law_share (argsS [(eVar 0)])) (gVar 2)) (sSeq (sAsg (eCall G_law_minus (argsS [(eTup (argsS [(eC (.int 1)), (eC (.int 1))])), (eVar 2)])) (gVar 3)) (sSeq (sIf (tOrS (tBool (eOp2 eqT (eVar 1) (eC (.int 0)))) (tBool (eOp2 eqT (eOp2 ixV (eVar 3) (eC (.int 0))) (eC (.int 0))))) (sRet (eTup (argsS [(eVar 2), (eVar 3), (eC .non)]))) sNext) (sSeq (sAsg (eOp2 addV (eC (.int 1)) (eCall G_law_pick (argsS [(eVar 0), (eC (.int 60))]))) (gVar 4)) (sSeq (sAsg (eCall G_law_times (argsS [(eVar 3), (eCall G_law_low (argsS [(eOp2 ixV (eLst (argsS [(eCall G_law_pick (argsS [(eVar 0), (eVar 4)])), (eC (.int 0))])) (eOp1 intV (eOp2 eqT (eVar 1) (eC (.int 1))))), (eVar 4)]))])) (gVar 5)) (sSeq (sAsg (eCall G_law_low (argsS [(eCall G_law_pick (argsS [(eVar 0), (eOp2 mulT (eC (.int 6)) (eVar 4))])), (eVar 4)])) (gVar 6)) (sSeq (sIf (tBool (eOp2 eqT (eVar 1) (eC (.int 2)))) (sAsg (eTup (argsS [(eCall G_law_pick (argsS [(eVar 0), (eC (.int 6))])), (eC (.int 1))])) (gVar 6)) sNext) (sSeq (sIf (tBool (eOp2 eqT (eVar 1) (eC (.int 3)))) (sPar2 2 5 (eTup (argsS [(eC (.int 0)), (eC (.int 1))])) (eCall G_law_low (argsS [(eCall G_law_pick (argsS [(eVar 0), (eVar 4)])), (eVar 4)]))) sNext) (sRet (eTup (argsS [(eVar 2), (eVar 5), (eVar 6)]))))))))))))
noncomputable def G_shade_by : FSem := fnS 1
  (sRet (eCall (mkF "Shade" (bnd 4 [] [.p 0, .p 1, .p 2, .p 3] G_Shade_init)) (argsS [(eOp2 ixV (eVar 0) (eC (.int 0))), (eOp2 ixV (eVar 0) (eC (.int 1))), (eOp2 ixV (eVar 0) (eC (.int 2)))])))
noncomputable def G_is_turn : FSem := fnS 1
  (sRet (eAndS (eCall G_from_zero (argsS [(eVar 0)])) (eCall G_law_below (argsS [(eVar 0), (eC (.tup [(.int 6), (.int 1)]))]))))
noncomputable def G_less : FSem := fnS 2
  (sRet (eCall G_low (argsS [(eOp2 subV (eOp2 mulT (eOp2 ixV (eVar 0) (eC (.int 0))) (eOp2 ixV (eVar 1) (eC (.int 1)))) (eOp2 mulT (eOp2 ixV (eVar 1) (eC (.int 0))) (eOp2 ixV (eVar 0) (eC (.int 1))))), (eOp2 mulT (eOp2 ixV (eVar 0) (eC (.int 1))) (eOp2 ixV (eVar 1) (eC (.int 1))))])))
noncomputable def G_shares_by : FSem := fnS 10
  (sSeq (sAsg (eOp2 divV (eOp2 ixV (eVar 2) (eC (.int 0))) (eOp2 ixV (eVar 2) (eC (.int 1)))) (gVar 3)) (sSeq (sAsg (eOp2 ixV (eC (.tup [(.tup [(.int 0), (.int 1), (.int 2)]), (.tup [(.int 1), (.int 0), (.int 2)]), (.tup [(.int 1), (.int 2), (.int 0)]), (.tup [(.int 2), (.int 1), (.int 0)]), (.tup [(.int 2), (.int 0), (.int 1)]), (.tup [(.int 0), (.int 2), (.int 1)])])) (eVar 3)) (gTupS [(gVar 4), (gVar 5), (gVar 6)])) (sSeq (sAsg (eCall G_less (argsS [(eVar 2), (eTup (argsS [(eVar 3), (eC (.int 1))]))])) (gVar 7)) (sSeq (sIf (tBool (eOp2 eqT (eOp2 modV (eVar 3) (eC (.int 2))) (eC (.int 1)))) (sAsg (eCall G_less (argsS [(eC (.tup [(.int 1), (.int 1)])), (eVar 7)])) (gVar 7)) sNext) (sSeq (sAsg (eCall G_less (argsS [(eC (.tup [(.int 1), (.int 1)])), (eVar 1)])) (gVar 8)) (sSeq (sAsg (eLst (argsS [(eVar 0), (eVar 0), (eVar 0)])) (gVar 9)) (sSeq (sSetIx 9 (eVar 4) (eVar 8)) (sSeq (sSetIx 9 (eVar 5) (eCall G_add (argsS [(eVar 0), (eCall G_mul (argsS [(eVar 7), (eCall G_less (argsS [(eVar 8), (eVar 0)]))]))]))) (sRet (eOp1 tupV (eVar 9)))))))))))
noncomputable def G_by_wheel : FSem := fnS 5
  (sSeq (sFor (iExp (eTup (argsS [(eVar 0), (eVar 1)]))) (gVar 3) (sIf (tNotS (tVal (eCall G_from_zero (argsS [(eVar 3)])))) sStuck sNext)) (sSeq (sAsg (eCall G_add (argsS [(eVar 0), (eVar 1)])) (gVar 4)) (sSeq (sIf (tBool (eOp2 isT (eVar 2) (eC .non))) (sSeq (sIf (tBool (eOp2 neT (eVar 4) (eC (.tup [(.int 1), (.int 1)])))) sStuck sNext) (sRet (eCall G_shade_by (argsS [(eTup (argsS [(eVar 0), (eVar 0), (eVar 0)]))])))) sNext) (sSeq (sIf (tOrS (tNotS (tVal (eCall G_is_turn (argsS [(eVar 2)])))) (tNotS (tVal (eCall G_law_below (argsS [(eVar 4), (eC (.tup [(.int 1), (.int 1)]))]))))) sStuck sNext) (sRet (eCall G_shade_by (argsS [(eCall G_shares_by (argsS [(eVar 0), (eVar 1), (eVar 2)]))])))))))
noncomputable def G_greatest_of : FSem := fnS 3
  (sSeq (sAsg (eOp2 ixV (eVar 0) (eC (.int 0))) (gVar 1)) (sSeq (sFor (iExp (eVar 0)) (gVar 2) (sIf (tVal (eCall G_law_below (argsS [(eVar 1), (eVar 2)]))) (sAsg (eVar 2) (gVar 1)) sNext)) (sRetV 1)))
noncomputable def G_least_of : FSem := fnS 3
  (sSeq (sAsg (eOp2 ixV (eVar 0) (eC (.int 0))) (gVar 1)) (sSeq (sFor (iExp (eVar 0)) (gVar 2) (sIf (tVal (eCall G_law_below (argsS [(eVar 2), (eVar 1)]))) (sAsg (eVar 2) (gVar 1)) sNext)) (sRetV 1)))
noncomputable def G_order_of : FSem := fnS 5
  (sSeq (sFor (iEnumD (eC (.tup [(.tup [(.int 0), (.int 1), (.int 2)]), (.tup [(.int 1), (.int 0), (.int 2)]), (.tup [(.int 1), (.int 2), (.int 0)]), (.tup [(.int 2), (.int 1), (.int 0)]), (.tup [(.int 2), (.int 0), (.int 1)]), (.tup [(.int 0), (.int 2), (.int 1)])]))) (gTupS [(gVar 1), (gTupS [(gVar 2), (gVar 3), (gVar 4)])]) (sIf (tAndS (tNotS (tVal (eCall G_law_below (argsS [(eOp2 ixV (eVar 0) (eVar 2)), (eOp2 ixV (eVar 0) (eVar 3))])))) (tNotS (tVal (eCall G_law_below (argsS [(eOp2 ixV (eVar 0) (eVar 3)), (eOp2 ixV (eVar 0) (eVar 4))]))))) (sRetV 1) sNext)) (sRet (eC (.int 0))))
noncomputable def G_div : FSem := fnS 2
  (sRet (eCall G_low (argsS [(eOp2 mulT (eOp2 ixV (eVar 0) (eC (.int 0))) (eOp2 ixV (eVar 1) (eC (.int 1)))), (eOp2 mulT (eOp2 ixV (eVar 0) (eC (.int 1))) (eOp2 ixV (eVar 1) (eC (.int 0))))])))
noncomputable def G_turn_of : FSem := fnS 6
  (sSeq (sAsg (eCall G_order_of (argsS [(eVar 0)])) (gVar 1)) (sSeq (sAsg (eOp2 ixV (eC (.tup [(.tup [(.int 0), (.int 1), (.int 2)]), (.tup [(.int 1), (.int 0), (.int 2)]), (.tup [(.int 1), (.int 2), (.int 0)]), (.tup [(.int 2), (.int 1), (.int 0)]), (.tup [(.int 2), (.int 0), (.int 1)]), (.tup [(.int 0), (.int 2), (.int 1)])])) (eVar 1)) (gTupS [(gVar 2), (gVar 3), (gVar 4)])) (sSeq (sAsg (eCall G_div (argsS [(eCall G_less (argsS [(eOp2 ixV (eVar 0) (eVar 3)), (eOp2 ixV (eVar 0) (eVar 4))])), (eCall G_less (argsS [(eOp2 ixV (eVar 0) (eVar 2)), (eOp2 ixV (eVar 0) (eVar 4))]))])) (gVar 5)) (sSeq (sIf (tBool (eOp2 eqT (eOp2 modV (eVar 1) (eC (.int 2))) (eC (.int 0)))) (sRet (eCall G_add (argsS [(eTup (argsS [(eVar 1), (eC (.int 1))])), (eVar 5)]))) sNext) (sRet (eCall G_less (argsS [(eTup (argsS [(eOp2 addV (eVar 1) (eC (.int 1))), (eC (.int 1))])), (eVar 5)])))))))
noncomputable def G_wheel_by : FSem := fnS 4
  (sSeq (sPar2 1 2 (eCall G_greatest_of (argsS [(eVar 0)])) (eCall G_least_of (argsS [(eVar 0)]))) (sSeq (sAsg (eCall G_less (argsS [(eC (.tup [(.int 1), (.int 1)])), (eVar 1)])) (gVar 3)) (sSeq (sIf (tBool (eOp2 eqT (eVar 1) (eVar 2))) (sRet (eTup (argsS [(eC .non), (eVar 2), (eVar 3)]))) sNext) (sRet (eTup (argsS [(eCall G_turn_of (argsS [(eVar 0)])), (eVar 2), (eVar 3)]))))))
noncomputable def G_wheel_of : FSem := fnS 1
  (sSeq (sDrop (eCall G_check_shade (argsS [(eVar 0)]))) (sRet (eCall G_wheel_by (argsS [(eCall G_parts_of (argsS [(eVar 0)]))]))))
noncomputable def G_Shade_eq : FSem := fnS 2
  (sSeq (sIf (tNotS (tVal (eOp1 (isC "Shade") (eVar 1)))) (sRet (eC (.bl false))) sNext) (sRet (eOp2 eqT (eTup (argsS [(eOp1 (fldV ["Shade"] "ember") (eVar 0)), (eOp1 (fldV ["Shade"] "leaf") (eVar 0)), (eOp1 (fldV ["Shade"] "sky") (eVar 0))])) (eTup (argsS [(eOp1 (fldV ["Shade"] "ember") (eVar 1)), (eOp1 (fldV ["Shade"] "leaf") (eVar 1)), (eOp1 (fldV ["Shade"] "sky") (eVar 1))])))))
noncomputable def G_Shade_len : FSem := fnS 2
  (sRet (eOp1 lenV (eComp [1] (iExpU (eTup (argsS [(eOp1 (fldV ["Shade"] "ember") (eVar 0)), (eOp1 (fldV ["Shade"] "leaf") (eVar 0)), (eOp1 (fldV ["Shade"] "sky") (eVar 0))]))) (gVar 1) (tBool (eOp2 neT (eVar 1) (eC (.tup [(.int 0), (.int 1)])))) (eVar 1))))
noncomputable def G_opposite : FSem := fnS 2
  (sSeq (sDrop (eCall G_check_shade (argsS [(eVar 0)]))) (sRet (eCall G_shade_by (argsS [(eComp [1] (iExpU (eCall G_parts_of (argsS [(eVar 0)]))) (gVar 1) tTrue (eCall G_less (argsS [(eC (.tup [(.int 1), (.int 1)])), (eVar 1)])))]))))
noncomputable def G_turns_of : FSem := fnS 1
  (sSeq (sIf (tBool (eOp2 isT (eVar 0) (eC .non))) (sRet (eC (.int 1))) sNext) (sSeq (sIf (tNotS (tVal (eCall G_is_whole (argsS [(eVar 0)])))) sStuck sNext) (sRetV 0)))
noncomputable def G_turned : FSem := fnS 5
  (sSeq (sDrop (eCall G_check_shade (argsS [(eVar 0)]))) (sSeq (sAsg (eCall G_turns_of (argsS [(eVar 1)])) (gVar 2)) (sSeq (sAsg (eCall G_parts_of (argsS [(eVar 0)])) (gVar 3)) (sRet (eCall G_shade_by (argsS [(eComp [4] (iRange1 (eC (.int 3))) (gVar 4) tTrue (eOp2 ixV (eVar 3) (eOp2 modV (eOp2 subV (eVar 4) (eVar 2)) (eC (.int 3)))))]))))))
noncomputable def G_towards : FSem := fnS 5
  (sRet (eCall G_shade_by (argsS [(eComp [3, 4] (iZipD (eVar 0) (eVar 1)) (gTupS [(gVar 3), (gVar 4)]) tTrue (eCall G_add (argsS [(eVar 3), (eCall G_mul (argsS [(eVar 2), (eCall G_less (argsS [(eVar 4), (eVar 3)]))]))])))])))
noncomputable def G_part_of : FSem := fnS 1
  (sSeq (sIf (tBool (eOp2 isT (eVar 0) (eC .non))) (sRet (eC (.tup [(.int 1), (.int 2)]))) sNext) (sSeq (sIf (tNotS (tVal (eCall G_in_one (argsS [(eVar 0)])))) sStuck sNext) (sRetV 0)))
noncomputable def G_lighter : FSem := fnS 2
  (sSeq (sDrop (eCall G_check_shade (argsS [(eVar 0)]))) (sRet (eCall G_towards (argsS [(eCall G_parts_of (argsS [(eVar 0)])), (eOp2 mulT (eTup (argsS [(eC (.tup [(.int 1), (.int 1)]))])) (eC (.int 3))), (eCall G_part_of (argsS [(eVar 1)]))]))))
noncomputable def G_darker : FSem := fnS 4
  (sSeq (sDrop (eCall G_check_shade (argsS [(eVar 0)]))) (sSeq (sAsg (eCall G_less (argsS [(eC (.tup [(.int 1), (.int 1)])), (eCall G_part_of (argsS [(eVar 1)]))])) (gVar 2)) (sRet (eCall G_shade_by (argsS [(eComp [3] (iExpU (eCall G_parts_of (argsS [(eVar 0)]))) (gVar 3) tTrue (eCall G_mul (argsS [(eVar 2), (eVar 3)])))])))))
noncomputable def G_law_over : FSem := fnS 2
  (sRet (eCall G_law_low (argsS [(eOp2 mulT (eOp2 ixV (eVar 0) (eC (.int 0))) (eOp2 ixV (eVar 1) (eC (.int 1)))), (eOp2 mulT (eOp2 ixV (eVar 0) (eC (.int 1))) (eOp2 ixV (eVar 1) (eC (.int 0))))])))
noncomputable def G_are_shades : FSem := fnS 4
  (sSeq (sIf (tOrS (tNotS (tVal (eOp1 (isiT .tup) (eVar 0)))) (tNotS (tBool (eChain leV leV (eVar 1) (eOp1 lenV (eVar 0)) (eVar 2))))) (sRet (eC (.bl false))) sNext) (sRet (eOp1 allV (eComp [3] (iExpU (eVar 0)) (gVar 3) tTrue (eOp1 (isC "Shade") (eVar 3))))))
noncomputable def G_are_weights : FSem := fnS 3
  (sSeq (sIf (tOrS (tNotS (tVal (eOp1 (isiT .tup) (eVar 0)))) (tBool (eOp2 neT (eOp1 lenV (eVar 0)) (eVar 1)))) (sRet (eC (.bl false))) sNext) (sSeq (sIf (tNotS (tVal (eOp1 allV (eComp [2] (iExpU (eVar 0)) (gVar 2) tTrue (eAndS (eCall G_is_whole (argsS [(eVar 2)])) (eChain leV leV (eC (.int 0)) (eVar 2) (eC (.int 1000000)))))))) (sRet (eC (.bl false))) sNext) (sRet (eOp2 gtV (eOp1 sumW (eVar 0)) (eC (.int 0))))))
noncomputable def G_total : FSem := fnS 3
  (sSeq (sAsg (eC (.tup [(.int 0), (.int 1)])) (gVar 1)) (sSeq (sFor (iExp (eVar 0)) (gVar 2) (sAsg (eCall G_add (argsS [(eVar 1), (eVar 2)])) (gVar 1))) (sRetV 1)))
noncomputable def G_mixed : FSem := fnS 7
  (sSeq (sAsg (eLst (argsS [])) (gVar 2)) (sSeq (sFor (iRange1 (eC (.int 3))) (gVar 3) (sSeq (sAsg (eComp [5, 6] (iZipD (eVar 0) (eVar 1)) (gTupS [(gVar 5), (gVar 6)]) tTrue (eCall G_mul (argsS [(eOp2 ixV (eVar 5) (eVar 3)), (eTup (argsS [(eVar 6), (eC (.int 1))]))]))) (gVar 4)) (sSeq (sFreeze 4) (sAppend 2 (eCall G_div (argsS [(eCall G_total (argsS [(eVar 4)])), (eTup (argsS [(eOp1 sumW (eVar 1)), (eC (.int 1))]))])))))) (sRet (eOp1 tupV (eVar 2)))))
noncomputable def G_mix : FSem := fnS 3
  (sSeq (sIf (tNotS (tVal (eCall G_are_shades (argsS [(eVar 0), (eC (.int 1)), (eC (.int 60))])))) sStuck sNext) (sSeq (sIf (tBool (eOp2 isT (eVar 1) (eC .non))) (sAsg (eOp2 mulT (eTup (argsS [(eC (.int 1))])) (eOp1 lenV (eVar 0))) (gVar 1)) sNext) (sSeq (sIf (tNotS (tVal (eCall G_are_weights (argsS [(eVar 1), (eOp1 lenV (eVar 0))])))) sStuck sNext) (sRet (eCall G_shade_by (argsS [(eCall G_mixed (argsS [(eComp [2] (iExpU (eVar 0)) (gVar 2) tTrue (eCall G_parts_of (argsS [(eVar 2)]))), (eVar 1)]))]))))))
end Tz

set_option Elab.async false
set_option linter.all false
set_option maxRecDepth 100000
set_option maxHeartbeats 400000
/-! Lc: what the shared defs tell. -/
namespace Tz
open PySem L2 PyProof.Rows
theorem emod_nat {x y : Nat} : ((x : Int) % (y : Int)) = ((x % y : Nat) : Int) := rfl
theorem whole_int {i : Int} {st : Store} : G_is_whole [.int i] st = some (.ret (.val (.bl true)) st) := by
  unfold G_is_whole
  rwa []
theorem share_loop : ∀ (n x y : Nat) (st : Store), y ≤ n → whileS (tBool (eOp2 gtV (eVar 1) (eC (.int 0)))) (sPar2 0 1 (eVar 1) (eOp2 modV (eVar 0) (eVar 1))) [.val (.int x), .val (.int y)] st = some (.nx [.val (.int (Nat.gcd x y)), .val (.int 0)] st) := by
  intro n
  induction n with
  | zero =>
    intro x y st h
    have : y = 0 := by omega
    subst this
    rw [Nat.gcd_zero_right]
    exact whileS_false (by rwa [])
  | succ n ih =>
    intro x y st h
    by_cases hy : y = 0
    · subst hy
      rw [Nat.gcd_zero_right]
      exact whileS_false (by rwa [])
    · have hp : (0 : Int) < (y : Int) := by omega
      rw [whileS_true (st1 := st) (r2 := [.val (.int y), .val (.int (x % y : Nat))]) (st2 := st) (by rwa [decide_eq_true hp]) (by rwa [emod_nat])]
      have hl := Nat.mod_lt x (Nat.pos_of_ne_zero hy)
      rw [ih y (x % y) st (by omega), Nat.gcd_comm x y, Nat.gcd_rec y x, Nat.gcd_comm]
theorem share_ok {x y : Nat} {st : Store} : G_share_of [.int x, .int y] st = some (.ret (.val (.int (Nat.gcd x y))) st) := by
  unfold G_share_of
  rwa [share_loop y x y st (Nat.le_refl _)]
theorem low_loop : ∀ (n x y : Nat) (a b : D) (st : Store), y ≤ n → whileS (tBool (eOp2 gtV (eVar 3) (eC (.int 0)))) (sPar2 2 3 (eVar 3) (eOp2 modV (eVar 2) (eVar 3))) [.val a, .val b, .val (.int x), .val (.int y)] st = some (.nx [.val a, .val b, .val (.int (Nat.gcd x y)), .val (.int 0)] st) := by
  intro n
  induction n with
  | zero =>
    intro x y a b st h
    have : y = 0 := by omega
    subst this
    rw [Nat.gcd_zero_right]
    exact whileS_false (by rwa [])
  | succ n ih =>
    intro x y a b st h
    by_cases hy : y = 0
    · subst hy
      rw [Nat.gcd_zero_right]
      exact whileS_false (by rwa [])
    · have hp : (0 : Int) < (y : Int) := by omega
      rw [whileS_true (st1 := st) (r2 := [.val a, .val b, .val (.int y), .val (.int (x % y : Nat))]) (st2 := st) (by rwa [decide_eq_true hp]) (by rwa [emod_nat])]
      have hl := Nat.mod_lt x (Nat.pos_of_ne_zero hy)
      rw [ih y (x % y) a b st (by omega), Nat.gcd_comm x y, Nat.gcd_rec y x, Nat.gcd_comm]
/-- two ints brought low -/
theorem num_div {a : Int} {b : Nat} (hb : 0 < b) : (Rat.divInt a b).num = a / (Nat.gcd a.natAbs b : Nat) ∧ ((Rat.divInt a b).den : Int) = (b : Int) / (Nat.gcd a.natAbs b : Nat) := by
  rw [Rat.num_divInt, Rat.den_divInt, if_neg (by omega)]
  have e : (Int.gcd (b : Int) a) = Nat.gcd a.natAbs b := by rw [Int.gcd_comm]; rfl
  rw [e, Int.sign_eq_one_of_pos (by omega), Int.one_mul]
  exact ⟨rfl, rfl⟩
theorem low_pos {a : Int} {b : Nat} {st : Store} (hb : 0 < b) (ha : Bd 8000 a) (hb2 : Bd 8000 (b : Int)) : G_law_low [.int a, .int (b : Int)] st = some (.ret (.val (frD (Rat.divInt a b))) st) := by
  have hn : ¬ ((b : Int) < 0) := by omega
  have hg : 0 < Nat.gcd a.natAbs b := Nat.gcd_pos_of_pos_right _ hb
  have hg' : (0 : Int) < ((Nat.gcd a.natAbs b : Nat) : Int) := by omega
  have hgb : Bd 8000 ((Nat.gcd a.natAbs b : Nat) : Int) := hb2.of_le (by omega) (by have := Nat.gcd_le_right a.natAbs hb; omega)
  obtain ⟨e1, e2⟩ := num_div (a := a) hb
  unfold G_law_low
  rwa [decide_eq_false hn, low_loop b a.natAbs b (.int a) (.int b) st (Nat.le_refl _)]
  unfold frD
  rw [e1, e2]
theorem low_ok {a b : Int} {st : Store} (hb : b ≠ 0) (ha : Bd 8000 a) (hb2 : Bd 8000 b) : G_law_low [.int a, .int b] st = some (.ret (.val (frD (Rat.divInt a b))) st) := by
  by_cases h0 : 0 < b
  · obtain ⟨n, rfl⟩ : ∃ n : Nat, b = n := ⟨b.toNat, by omega⟩
    exact low_pos (by omega) ha hb2
  · obtain ⟨n, rfl⟩ : ∃ n : Nat, b = -(n : Int) := ⟨(-b).toNat, by omega⟩
    have hn : 0 < n := by omega
    have hneg : (-(n : Int)) < 0 := by omega
    have hb3 : Bd 8000 (n : Int) := by have := hb2.neg; rwa [Int.neg_neg] at this
    have hg' : (0 : Int) < ((Nat.gcd a.natAbs n : Nat) : Int) := by have := Nat.gcd_pos_of_pos_right a.natAbs hn; omega
    have hgb : Bd 8000 ((Nat.gcd a.natAbs n : Nat) : Int) := hb3.of_le (by omega) (by have := Nat.gcd_le_right a.natAbs hn; omega)
    obtain ⟨e1, e2⟩ := num_div (a := -a) hn
    have ea : (0 - a) = -a := by omega
    have eb : (0 - -(n : Int)) = (n : Int) := by omega
    have en : (-a).natAbs = a.natAbs := Int.natAbs_neg a
    unfold G_law_low
    rwa [decide_eq_true hneg, ea, eb, en, low_loop n a.natAbs n (.int (-a)) (.int n) st (Nat.le_refl _)]
    unfold frD
    rw [Rat.divInt_neg', e1, e2, en]
theorem rb_div {k : Nat} {a b : Int} (hb : 0 < b) (h1 : Bd k a) (h2 : Bd k b) : Rb k (Rat.divInt a b) := by
  obtain ⟨n, rfl⟩ : ∃ n : Nat, b = n := ⟨b.toNat, by omega⟩
  have hn : 0 < n := by omega
  obtain ⟨e1, e2⟩ := num_div (a := a) hn
  have hd : ((Nat.gcd a.natAbs n : Nat) : Int) ∣ a := Int.ofNat_dvd_left.mpr (Nat.gcd_dvd_left _ _)
  refine ⟨?_, ?_⟩
  · rw [e1]
    unfold Bd at *
    rw [Int.natAbs_ediv_of_dvd hd]
    exact Nat.lt_of_le_of_lt (Nat.div_le_self _ _) h1
  · rw [e2]
    exact h2.ediv (by omega) (by omega)
theorem frD_neg {q : Rat} : D.tup [.int (0 - q.num), .int (q.den : Int)] = frD (-q) := by
  unfold frD
  rw [Int.zero_sub]
  rfl
theorem Rb.neg {k : Nat} {q : Rat} (h : Rb k q) : Rb k (-q) := ⟨h.1.neg, h.2⟩
theorem frac_ok {q : Rat} {st : Store} : G_is_fraction [frD q] st = some (.ret (.val (.bl true)) st) := by
  have hd : (0 : Int) < (q.den : Int) := by have := q.den_pos; omega
  have hg : Nat.gcd q.num.natAbs q.den = 1 := q.reduced
  unfold G_is_fraction frD
  rwa [compL, wipeR, whole_int, share_ok, decide_eq_true hd, hg]
theorem frac0_ok {q : Rat} {st : Store} : G_from_zero [frD q] st = some (.ret (.val (.bl (decide (0 ≤ q)))) st) := by
  have e : decide ((0 : Int) ≤ q.num) = decide (0 ≤ q) := by rw [decide_eq_decide]; exact Rat.num_nonneg
  unfold G_from_zero
  rwa [frac_ok]
  rw [e]
theorem checkN_ok {q : Rat} {i : D} {st : Store} : G_check_number [frD q, i] st = some (.ret (.val .non) st) := by
  unfold G_check_number
  rwa [frac_ok]
theorem half_floor (q : Rat) : (q + 1 / 2 : Rat).floor = (2 * q.num + q.den) / (2 * q.den) := by
  have hd2 : (0 : Int) < 2 * (q.den : Int) := by have := q.den_pos; omega
  have ez : ((1 : Rat) / 2) = Rat.divInt 1 2 := by rw [Rat.divInt_eq_div]; rfl
  have e0 : q + 1 / 2 = Rat.divInt (2 * q.num + q.den) (2 * q.den) := by
    conv => lhs; rw [← Rat.num_divInt_den q, ez]
    rw [Rat.divInt_add_divInt _ _ (by omega) (by decide)]
    congr 1 <;> omega
  have f1 : (((2 * q.num + q.den) / (2 * q.den) : Int) : Rat) ≤ q + 1 / 2 := by
    rw [e0, Rat.divInt_eq_div, ← Rat.not_lt, Rat.div_lt_iff (Rat.intCast_pos.mpr hd2), ← Rat.intCast_mul, Rat.intCast_lt_intCast]
    have := Int.ediv_mul_le (2 * q.num + q.den) (b := 2 * q.den) (by omega)
    omega
  have f2 : q + 1 / 2 < ((((2 * q.num + q.den) / (2 * q.den) + 1 : Int)) : Rat) := by
    rw [e0, Rat.divInt_eq_div, Rat.div_lt_iff (Rat.intCast_pos.mpr hd2), ← Rat.intCast_mul, Rat.intCast_lt_intCast]
    exact Int.lt_ediv_add_one_mul_self _ hd2
  have g1 := Rat.le_floor_iff.mpr f1
  have g2 := Rat.floor_lt_iff.mpr f2
  omega
theorem half_bd {k : Nat} {q : Rat} (h : Rb k q) : Bd (k + 2) (q + 1 / 2 : Rat).floor := by
  rw [half_floor]
  have h1 := h.1
  have hd : (0 : Int) < q.den := by have := q.den_pos; omega
  have a1 := Int.ediv_mul_le (2 * q.num + q.den) (b := 2 * q.den) (by omega)
  have a2 := Int.lt_ediv_add_one_mul_self (2 * q.num + q.den) (b := 2 * q.den) (by omega)
  generalize (2 * q.num + q.den) / (2 * (q.den : Int)) = f at *
  have m1 : f * (2 * (q.den : Int)) = 2 * (f * q.den) := by rw [Int.mul_left_comm]
  have m2 : (f + 1) * (2 * (q.den : Int)) = 2 * (f * q.den) + 2 * q.den := by rw [Int.add_mul, Int.mul_left_comm, Int.one_mul]
  have key : f.natAbs ≤ q.num.natAbs + 1 := by
    by_cases hf : 0 ≤ f
    · have : f ≤ f * q.den := by
        have := Int.mul_le_mul_of_nonneg_left (show (1 : Int) ≤ q.den by omega) hf
        omega
      by_cases hf1 : 1 ≤ f
      · have : (f - 1) ≤ (f - 1) * q.den := by
          have := Int.mul_le_mul_of_nonneg_left (show (1 : Int) ≤ q.den by omega) (show 0 ≤ f - 1 by omega)
          omega
        have e : (f - 1) * q.den = f * q.den - q.den := by rw [Int.sub_mul, Int.one_mul]
        omega
      · omega
    · have : (-f - 1) ≤ (-f - 1) * q.den := by
        have := Int.mul_le_mul_of_nonneg_left (show (1 : Int) ≤ q.den by omega) (show 0 ≤ -f - 1 by omega)
        omega
      have e : (-f - 1) * q.den = -(f * q.den) - q.den := by rw [Int.sub_mul, Int.one_mul, Int.neg_mul]
      omega
  unfold Bd at *
  rw [Nat.pow_add]
  omega
theorem halves_ok {q : Rat} {st : Store} (h : Rb 8000 q) : G_halves_up [frD q] st = some (.ret (.val (.int ((q + 1 / 2 : Rat).floor))) st) := by
  have hd : (0 : Int) < (q.den : Int) := by have := q.den_pos; omega
  have hd2 : (0 : Int) < 2 * (q.den : Int) := by omega
  have h1 := h.1
  have h2 := h.2
  unfold G_halves_up
  rwa []
  rw [half_floor]
theorem nearest_ok {q : Rat} {st : Store} (h : Rb 8000 q) : G_nearest_whole [frD q] st = some (.ret (.val (.int ((q + 1 / 2 : Rat).floor))) st) := by
  unfold G_nearest_whole
  rwa [checkN_ok, halves_ok h]
/-- a purse of at most k picks -/
structure Pu (k : Nat) (d : D) : Prop where
  ex : ∃ a b c : Int, d = .lst [.int a, .int b, .int c] ∧ 0 ≤ b ∧ 0 ≤ c ∧ c ≤ k
theorem purse_ok {i : Int} {st : Store} : ∃ d, G_law_purse [.int i] st = some (.ret (.val (.ref st.length)) (st ++ [d])) ∧ Pu 0 d := by
  have h0 : 0 ≤ i % 999999937 := Int.emod_nonneg _ (by decide)
  have h1 : i % 999999937 < 999999937 := Int.emod_lt_of_pos _ (by decide)
  have hb : Bd 64 (i % 999999937) := bd_rng h0 h1 (by decide)
  by_cases hi : 10 ^ 18 ≤ i
  · have hi' : (1000000000000000000 : Int) ≤ i := hi
    refine ⟨.lst [.int (i % 999999937 * 7001 + 3301), .int i, .int 0], ?_, ⟨_, _, _, rfl, by omega, by omega, by omega⟩⟩
    unfold G_law_purse
    rwa [decide_eq_true hi']
  · have hi' : ¬ (1000000000000000000 : Int) ≤ i := hi
    refine ⟨.lst [.int (i % 999999937 * 7001 + 3301), .int 0, .int 0], ?_, ⟨_, _, _, rfl, by omega, by omega, by omega⟩⟩
    unfold G_law_purse
    rwa [decide_eq_false hi']
theorem pick_ok {k : Nat} {m : Int} {d : D} {pre post : Store} (h : Pu k d) (hk : k < 2 ^ 60) (hm : 0 < m) (hm2 : Bd 8000 m) :
    ∃ t d', G_law_pick [.ref pre.length, .int m] (pre ++ d :: post) = some (.ret (.val (.int t)) (pre ++ d' :: post)) ∧ 0 ≤ t ∧ t < m ∧ Pu (k + 1) d' := by
  obtain ⟨a, b, c, rfl, h1, h2, h3⟩ := h
  have g0 : 0 ≤ a % 999999937 := Int.emod_nonneg _ (by decide)
  have g1 : a % 999999937 < 999999937 := Int.emod_lt_of_pos _ (by decide)
  have gb : Bd 64 (a % 999999937) := bd_rng g0 g1 (by decide)
  have q0 : 0 ≤ a % 999999937 % 50021 := Int.emod_nonneg _ (by decide)
  have q1 : a % 999999937 % 50021 < 50021 := Int.emod_lt_of_pos _ (by decide)
  have qb : Bd 64 (a % 999999937 % 50021) := bd_rng q0 q1 (by decide)
  have cb : Bd 64 (c + 1) := by
    unfold Bd
    have : (2 : Nat) ^ 60 = 1152921504606846976 := by decide
    have : (2 : Nat) ^ 64 = 18446744073709551616 := by decide
    omega
  by_cases hb : 0 < b
  · refine ⟨b % m, .lst [.int (a % 999999937 * (a % 999999937 % 50021 + 20011) + 90001 * (c + 1)), .int (b / m), .int (c + 1)], ?_, Int.emod_nonneg _ (by omega), Int.emod_lt_of_pos _ hm, ⟨_, _, _, rfl, Int.ediv_nonneg h1 (by omega), by omega, by omega⟩⟩
    unfold G_law_pick
    rwa [decide_eq_true hb]
  · refine ⟨(a % 999999937 * (a % 999999937 % 50021 + 20011) + 90001 * (c + 1)) % 999999937 / 16 % m, .lst [.int (a % 999999937 * (a % 999999937 % 50021 + 20011) + 90001 * (c + 1)), .int b, .int (c + 1)], ?_, Int.emod_nonneg _ (by omega), Int.emod_lt_of_pos _ hm, ⟨_, _, _, rfl, h1, by omega, by omega⟩⟩
    unfold G_law_pick
    rwa [decide_eq_false hb]
theorem cut_mem {α : Type} {xs : List α} {lo hi : Option Int} {x : α} (h : x ∈ cutD xs lo hi) : x ∈ xs := List.mem_of_mem_drop (List.mem_of_mem_take h)
theorem cell_ok {ns : List Int} {k : Nat} {st : Store} (hk : k < 1000) : ∃ c : Int, G_law_cell [scriptD ns, .int (k : Int)] st = some (.ret (.val (.int c)) st) := by
  have kb : Bd 64 (k : Int) := bd_rng (m := 1000) (by omega) (by omega) (by decide)
  by_cases h : k < ns.length
  · refine ⟨ns[k], ?_⟩
    have e : L2.atI (ns.map D.int) (k : Int) = some (.int ns[k]) := at_nat (by simp [h])
    have h' : (k : Int) < ((ns.map D.int).length : Int) := by simp; exact h
    unfold G_law_cell scriptD
    rwa [decide_eq_true h', e]
  · have h' : ¬ (k : Int) < ((ns.map D.int).length : Int) := by simp; omega
    have s0 : 0 ≤ 60013 * ((k : Int) * k + 7 * k + 3) % 999999937 := Int.emod_nonneg _ (by decide)
    have s1 : 60013 * ((k : Int) * k + 7 * k + 3) % 999999937 < 999999937 := Int.emod_lt_of_pos _ (by decide)
    obtain ⟨r2, st2, e, s, sl, rfl, rfl, q0, q1⟩ := forS_all (g := gVar 3) (b := sAsg (eOp2 modV (eOp2 addV (eOp2 mulT (eVar 2) (eC (.int 30103))) (eVar 3)) (eC (.int 999999937))) (gVar 2))
      (fun r st' => ∃ (s : Int) (sl : Sl), r = [.val (scriptD ns), .val (.int k), .val (.int s), sl] ∧ st' = st ∧ 0 ≤ s ∧ s < 999999937)
      (cutD (ns.map D.int) none (some 4)) [.val (scriptD ns), .val (.int k), .val (.int (60013 * ((k : Int) * k + 7 * k + 3) % 999999937)), .no] st ⟨_, _, rfl, rfl, s0, s1⟩
      (by
        rintro x r st' hx ⟨s, sl, rfl, rfl, q0, q1⟩
        obtain ⟨n, _, rfl⟩ := List.mem_map.mp (cut_mem hx)
        have sb : Bd 64 s := bd_rng q0 q1 (by decide)
        refine ⟨[.val (scriptD ns), .val (.int k), .val (.int s), .val (.int n)], _, [.val (scriptD ns), .val (.int k), .val (.int ((s * 30103 + n) % 999999937)), .val (.int n)], _, rfl, .inl ?_, ⟨_, _, rfl, rfl, Int.emod_nonneg _ (by decide), Int.emod_lt_of_pos _ (by decide)⟩⟩
        rwa [])
    refine ⟨s, ?_⟩
    unfold scriptD at e
    unfold G_law_cell scriptD
    rwa [decide_eq_false h', e]
theorem Bd.nat {k : Nat} {n : Nat} (h : n < 2 ^ k) : Bd k (n : Int) := by unfold Bd; omega
theorem bd_dbl {k N m : Nat} (hN : N < 2 ^ k) (hm : m ≤ 2 * N + 1) : Bd (k + 2) (m : Int) := by
  apply Bd.nat
  rw [Nat.pow_add]
  omega
section
variable {q : Rat} {st : Store}
theorem root_loop1 (h : Rb 2000 q) (hq : 0 ≤ q) : ∀ (f m : Nat) (a : D) (sl : Sl), 1 ≤ m → q.num.natAbs < m * 2 ^ f → m ≤ 2 * q.num.natAbs + 1 →
    ∃ m' : Nat, whileS (tBool (eOp2 ltV (eOp2 mulT (eOp2 mulT (eVar 2) (eVar 2)) (eOp2 ixV (eVar 0) (eC (.int 1)))) (eOp2 ixV (eVar 0) (eC (.int 0))))) (sAug imulV 2 (eC (.int 2))) [.val (frD q), .val a, .val (.int (m : Int)), sl] st = some (.nx [.val (frD q), .val a, .val (.int (m' : Int)), sl] st) ∧
      1 ≤ m' ∧ m' ≤ 2 * q.num.natAbs + 1 ∧ q.num ≤ (m' : Int) * m' * q.den := by
  have h1 := h.1
  have h2 := h.2
  have hn : 0 ≤ q.num := Rat.num_nonneg.mpr hq
  have hd : 0 < q.den := q.den_pos
  intro f
  induction f with
  | zero =>
    intro m a sl hm hf hb
    have mb := bd_dbl h1 hb
    have c : q.num ≤ (m : Int) * m * q.den := by
      have e1 : m ≤ m * m := Nat.le_mul_of_pos_left m hm
      have e2 : m * m ≤ m * m * q.den := Nat.le_mul_of_pos_right (m * m) hd
      have : ((m * m * q.den : Nat) : Int) = (m : Int) * m * q.den := by rw [Int.natCast_mul, Int.natCast_mul]
      omega
    refine ⟨m, whileS_false ?_, hm, hb, c⟩
    have c' : ¬ (m : Int) * m * q.den < q.num := by omega
    rwa [decide_eq_false c']
  | succ f ih =>
    intro m a sl hm hf hb
    have mb := bd_dbl h1 hb
    by_cases c : q.num ≤ (m : Int) * m * q.den
    · refine ⟨m, whileS_false ?_, hm, hb, c⟩
      have c' : ¬ (m : Int) * m * q.den < q.num := by omega
      rwa [decide_eq_false c']
    · have c' : (m : Int) * m * q.den < q.num := by omega
      have hle : m * 2 ≤ 2 * q.num.natAbs + 1 := by
        have e1 : m ≤ m * m := Nat.le_mul_of_pos_left m hm
        have e2 : m * m ≤ m * m * q.den := Nat.le_mul_of_pos_right (m * m) hd
        have : ((m * m * q.den : Nat) : Int) = (m : Int) * m * q.den := by rw [Int.natCast_mul, Int.natCast_mul]
        omega
      obtain ⟨m', e, g⟩ := ih (m * 2) a sl (by omega) (by rw [Nat.mul_assoc, ← Nat.pow_succ']; exact hf) hle
      refine ⟨m', ?_, g⟩
      rw [whileS_true (st1 := st) (r2 := [.val (frD q), .val a, .val (.int ((m * 2 : Nat) : Int)), sl]) (st2 := st) (by rwa [decide_eq_true c']) (by
        have e2 : ((m * 2 : Nat) : Int) = (m : Int) * 2 := by omega
        rw [e2]
        rwa [v_imulI (i := (m : Int)) (j := 2) (by decide) (by decide)])]
      exact e
theorem root_loop2 (h : Rb 2000 q) (hq : 0 ≤ q) : ∀ (f lo hi : Nat) (sl : Sl), hi - lo ≤ f → lo ≤ hi → hi ≤ 2 * q.num.natAbs + 1 → q.num ≤ (hi : Int) * hi * q.den → (lo = 0 ∨ ((lo : Int) - 1) * ((lo : Int) - 1) * q.den < q.num) →
    ∃ (r : Nat) (sl' : Sl), whileS (tBool (eOp2 ltV (eVar 1) (eVar 2))) (sSeq (sAsg (eOp2 divV (eOp2 addV (eVar 1) (eVar 2)) (eC (.int 2))) (gVar 3)) (sIf (tBool (eOp2 ltV (eOp2 mulT (eOp2 mulT (eVar 3) (eVar 3)) (eOp2 ixV (eVar 0) (eC (.int 1)))) (eOp2 ixV (eVar 0) (eC (.int 0))))) (sAsg (eOp2 addV (eVar 3) (eC (.int 1))) (gVar 1)) (sAsg (eVar 3) (gVar 2))))
      [.val (frD q), .val (.int (lo : Int)), .val (.int (hi : Int)), sl] st = some (.nx [.val (frD q), .val (.int (r : Int)), .val (.int (r : Int)), sl'] st) ∧
      r ≤ 2 * q.num.natAbs + 1 ∧ q.num ≤ (r : Int) * r * q.den ∧ (r = 0 ∨ ((r : Int) - 1) * ((r : Int) - 1) * q.den < q.num) := by
  have h1 := h.1
  have h2 := h.2
  intro f
  induction f with
  | zero =>
    intro lo hi sl hf hl hb c1 c2
    have e : lo = hi := by omega
    subst e
    refine ⟨lo, sl, whileS_false ?_, hb, c1, c2⟩
    have c' : ¬ (lo : Int) < lo := by omega
    rwa [decide_eq_false c']
  | succ f ih =>
    intro lo hi sl hf hl hb c1 c2
    by_cases e : lo = hi
    · subst e
      refine ⟨lo, sl, whileS_false ?_, hb, c1, c2⟩
      have c' : ¬ (lo : Int) < lo := by omega
      rwa [decide_eq_false c']
    · have hlt : (lo : Int) < hi := by omega
      have em : ((lo : Int) + hi) / 2 = (((lo + hi) / 2 : Nat) : Int) := by omega
      have mb : Bd 2002 ((((lo + hi) / 2 : Nat)) : Int) := bd_dbl h1 (by omega)
      by_cases c : q.num ≤ (((lo + hi) / 2 : Nat) : Int) * (((lo + hi) / 2 : Nat) : Int) * q.den
      · have c' : ¬ (((lo + hi) / 2 : Nat) : Int) * (((lo + hi) / 2 : Nat) : Int) * q.den < q.num := by omega
        obtain ⟨r, sl', e2, g⟩ := ih lo ((lo + hi) / 2) (.val (.int (((lo + hi) / 2 : Nat) : Int))) (by omega) (by omega) (by omega) c c2
        refine ⟨r, sl', ?_, g⟩
        rw [whileS_true (st1 := st) (r2 := [.val (frD q), .val (.int (lo : Int)), .val (.int (((lo + hi) / 2 : Nat) : Int)), .val (.int (((lo + hi) / 2 : Nat) : Int))]) (st2 := st) (by rwa [decide_eq_true hlt]) (by rwa [em, decide_eq_false c'])]
        exact e2
      · have c' : (((lo + hi) / 2 : Nat) : Int) * (((lo + hi) / 2 : Nat) : Int) * q.den < q.num := by omega
        have e3 : ((((lo + hi) / 2 : Nat) : Int) + 1) = (((lo + hi) / 2 + 1 : Nat) : Int) := by omega
        obtain ⟨r, sl', e2, g⟩ := ih ((lo + hi) / 2 + 1) hi (.val (.int (((lo + hi) / 2 : Nat) : Int))) (by omega) (by omega) hb c1 (.inr (by
          have : (((lo + hi) / 2 + 1 : Nat) : Int) - 1 = (((lo + hi) / 2 : Nat) : Int) := by omega
          rw [this]
          exact c'))
        refine ⟨r, sl', ?_, g⟩
        rw [whileS_true (st1 := st) (r2 := [.val (frD q), .val (.int (((lo + hi) / 2 + 1 : Nat) : Int)), .val (.int (hi : Int)), .val (.int (((lo + hi) / 2 : Nat) : Int))]) (st2 := st) (by rwa [decide_eq_true hlt]) (by rwa [em, decide_eq_true c', e3])]
        exact e2
/-- the root told -/
theorem root_ok (h : Rb 2000 q) (hq : 0 ≤ q) : ∃ r : Nat, (∀ st, G_root_above [frD q] st = some (.ret (.val (.int (r : Int))) st)) ∧ Bd 2002 (r : Int) ∧ q.num ≤ (r : Int) * r * q.den ∧ (r = 0 ∨ ((r : Int) - 1) * ((r : Int) - 1) * q.den < q.num) := by
  have key : ∀ st : Store, ∃ r : Nat, G_root_above [frD q] st = some (.ret (.val (.int (r : Int))) st) ∧ Bd 2002 (r : Int) ∧ q.num ≤ (r : Int) * r * q.den ∧ (r = 0 ∨ ((r : Int) - 1) * ((r : Int) - 1) * q.den < q.num) := by
    intro st
    obtain ⟨m, e1, g1, g2, g3⟩ := root_loop1 (st := st) h hq 2000 1 (.int 0) .no (Nat.le_refl 1) (by
      rw [Nat.one_mul]
      exact h.1) (by omega)
    obtain ⟨r, sl', e2, g4, g5, g6⟩ := root_loop2 (st := st) h hq m 0 m .no (by omega) (by omega) g2 g3 (.inl rfl)
    refine ⟨r, ?_, bd_dbl h.1 g4, g5, g6⟩
    rw [show ((1 : Nat) : Int) = 1 from rfl] at e1
    rw [show ((0 : Nat) : Int) = 0 from rfl] at e2
    unfold G_root_above
    rwa [frac0_ok, decide_eq_true hq, e1, e2]
  obtain ⟨r, e, g1, g2, g3⟩ := key []
  refine ⟨r, fun st => ?_, g1, g2, g3⟩
  obtain ⟨r', e', g1', g2', g3'⟩ := key st
  have : r' = r := by
    have hd : (0 : Int) < q.den := by have := q.den_pos; omega
    have mono : ∀ a b : Nat, a < b → (a : Int) * a * q.den ≤ ((b : Int) - 1) * ((b : Int) - 1) * q.den := by
      intro a b hab
      have h1 : (a : Int) ≤ (b : Int) - 1 := by omega
      have h2 : (a : Int) * a ≤ ((b : Int) - 1) * ((b : Int) - 1) := Int.mul_le_mul h1 h1 (by omega) (by omega)
      exact Int.mul_le_mul_of_nonneg_right h2 (Int.le_of_lt hd)
    rcases Nat.lt_trichotomy r' r with z | z | z
    · have := mono r' r z
      rcases g3 with g3 | g3 <;> omega
    · exact z
    · have := mono r r' z
      rcases g3' with g3' | g3' <;> omega
  rw [e', this]
end
end Tz

set_option Elab.async false
set_option linter.all false
set_option maxRecDepth 100000
set_option maxHeartbeats 400000
/-! Le: Shades, shares drawn, low, mul. -/
namespace Tz
open PySem L2 PyProof.Rows
/-- a share: from 0 to 1 -/
structure In1 (q : Rat) : Prop where
  lo : 0 ≤ q
  hi : q ≤ 1
theorem le_one {q : Rat} : (q.num ≤ (q.den : Int)) ↔ q ≤ 1 := by
  have hd : (0 : Int) < q.den := by have := q.den_pos; omega
  rw [← Rat.not_lt, Rat.lt_iff, ← Int.not_lt]
  have e1 : (1 : Rat).num = 1 := rfl
  have e2 : (1 : Rat).den = 1 := rfl
  rw [e1, e2]
  constructor <;> intro h <;> omega
theorem inone_ok {q : Rat} {st : Store} (h : In1 q) : G_in_one [frD q] st = some (.ret (.val (.bl true)) st) := by
  have h1 := le_one.mpr h.hi
  unfold G_in_one
  rwa [frac0_ok, decide_eq_true h.lo, decide_eq_true h1]
theorem init_ok {a b c : Rat} {st : Store} (ha : In1 a) (hb : In1 b) (hc : In1 c) : G_Shade_init [.ref st.length, frD a, frD b, frD c] (st ++ [.ins "Shade" [] []]) = some (.ret (.val .non) (st ++ [shD a b c])) := by
  have e1 : sSetF 0 ["Shade"] "ember" (eVar 1) [.val (.ref st.length), .val (frD a), .val (frD b), .val (frD c), .val (.int 2), .val (frD c)] (st ++ [.ins "Shade" [] []]) = some (.nx [.val (.ref st.length), .val (frD a), .val (frD b), .val (frD c), .val (.int 2), .val (frD c)] (st ++ [.ins "Shade" ["ember"] [frD a]])) := by
    rw [setF_ref (d := frD a) rfl rfl rfl z_at (by decide) rfl (by decide), z_setAt]
    rfl
  have e2 : sSetF 0 ["Shade"] "leaf" (eVar 2) [.val (.ref st.length), .val (frD a), .val (frD b), .val (frD c), .val (.int 2), .val (frD c)] (st ++ [.ins "Shade" ["ember"] [frD a]]) = some (.nx [.val (.ref st.length), .val (frD a), .val (frD b), .val (frD c), .val (.int 2), .val (frD c)] (st ++ [.ins "Shade" ["ember", "leaf"] [frD a, frD b]])) := by
    rw [setF_ref (d := frD b) rfl rfl rfl z_at (by decide) rfl (by decide), z_setAt]
    rfl
  have e3 : sSetF 0 ["Shade"] "sky" (eVar 3) [.val (.ref st.length), .val (frD a), .val (frD b), .val (frD c), .val (.int 2), .val (frD c)] (st ++ [.ins "Shade" ["ember", "leaf"] [frD a, frD b]]) = some (.nx [.val (.ref st.length), .val (frD a), .val (frD b), .val (frD c), .val (.int 2), .val (frD c)] (st ++ [shD a b c])) := by
    rw [setF_ref (d := frD c) rfl rfl rfl z_at (by decide) rfl (by decide), z_setAt]
    rfl
  unfold G_Shade_init
  rwa [inone_ok ha, inone_ok hb, inone_ok hc, e1, e2, e3]
theorem noR_sh {n : Nat} {a b c : Rat} : noR n (shD a b c) = true := rfl
theorem mk_ok {a b c : Rat} {st : Store} (ha : In1 a) (hb : In1 b) (hc : In1 c) : mkF "Shade" (bnd 4 [] [.p 0, .p 1, .p 2, .p 3] G_Shade_init) [frD a, frD b, frD c] st = some (.ret (.val (shD a b c)) st) :=
  mkF_ret (init_ok ha hb hc) noR_sh
theorem mkK_ok {a b c : Rat} {st : Store} (ha : In1 a) (hb : In1 b) (hc : In1 c) : mkF "Shade" (bnd 1 [] [.p 0, .k 1, .k 2, .k 0] G_Shade_init) [frD c, frD a, frD b] st = some (.ret (.val (shD a b c)) st) :=
  mkF_ret (init_ok ha hb hc) noR_sh
theorem in1_div {a b : Int} (h0 : 0 ≤ a) (h1 : a ≤ b) (hb : 0 < b) : In1 (Rat.divInt a b) := by
  refine ⟨Rat.divInt_nonneg h0 (by omega), ?_⟩
  rw [Rat.divInt_eq_div, ← Rat.not_lt, Rat.lt_div_iff (Rat.intCast_pos.mpr hb), Rat.one_mul, Rat.intCast_lt_intCast]
  omega
section
variable {k : Nat} {d : D} {pre post : Store}
theorem shareD_ok (h : Pu k d) (hk : k < 2 ^ 50) : ∃ q d', G_law_share [.ref pre.length] (pre ++ d :: post) = some (.ret (.val (frD q)) (pre ++ d' :: post)) ∧ In1 q ∧ Rb 64 q ∧ Pu (k + 3) d' := by
  have hk : k < 1125899906842624 := hk
  have k60 : (2 : Nat) ^ 60 = 1152921504606846976 := by decide
  obtain ⟨t1, d1, e1, a1, b1, p1⟩ := pick_ok (pre := pre) (post := post) (m := 10) h (by omega) (by decide) (bd_lit (by decide))
  obtain ⟨t2, d2, e2, a2, b2, p2⟩ := pick_ok (pre := pre) (post := post) (m := 997) p1 (by omega) (by decide) (bd_lit (by decide))
  obtain ⟨s, es, s0, sb⟩ : ∃ s : Int, L2.atI [D.int 1, D.int 2, D.int 3, D.int 4, D.int 6, D.int 12, D.int 60, D.int 255, D.int 510, D.int (1 + t2)] t1 = some (.int s) ∧ 0 < s ∧ s < 1000 := by
    obtain rfl | rfl | rfl | rfl | rfl | rfl | rfl | rfl | rfl | rfl : t1 = 0 ∨ t1 = 1 ∨ t1 = 2 ∨ t1 = 3 ∨ t1 = 4 ∨ t1 = 5 ∨ t1 = 6 ∨ t1 = 7 ∨ t1 = 8 ∨ t1 = 9 := by omega
    · exact ⟨_, rfl, by decide, by decide⟩
    · exact ⟨_, rfl, by decide, by decide⟩
    · exact ⟨_, rfl, by decide, by decide⟩
    · exact ⟨_, rfl, by decide, by decide⟩
    · exact ⟨_, rfl, by decide, by decide⟩
    · exact ⟨_, rfl, by decide, by decide⟩
    · exact ⟨_, rfl, by decide, by decide⟩
    · exact ⟨_, rfl, by decide, by decide⟩
    · exact ⟨_, rfl, by decide, by decide⟩
    · exact ⟨_, rfl, by omega, by omega⟩
  have sB : Bd 64 (s + 1) := bd_rng (m := 1002) (by omega) (by omega) (by decide)
  have sB2 : Bd 64 s := bd_rng (m := 1002) (by omega) (by omega) (by decide)
  obtain ⟨t3, d3, e3, a3, b3, p3⟩ := pick_ok (pre := pre) (post := post) (m := s + 1) p2 (by omega) (by omega) (sB.mono (by decide))
  have tB : Bd 64 t3 := bd_rng (m := 1002) (by omega) (by omega) (by decide)
  refine ⟨Rat.divInt t3 s, d3, ?_, in1_div a3 (by omega) s0, rb_div s0 tB sB2, p3⟩
  unfold G_law_share
  rwa [e1, e2, es, e3, low_ok (a := t3) (b := s) (by omega) (tB.mono (by decide)) (sB2.mono (by decide))]
theorem range3 : List.range 3 = [0, 1, 2] := rfl
theorem sharesD_ok (h : Pu k d) (hk : k < 2 ^ 49) : ∃ a b c d', G_law_shares [.ref pre.length] (pre ++ d :: post) = some (.ret (.val (.tup [frD a, frD b, frD c])) (pre ++ d' :: post)) ∧ (In1 a ∧ In1 b ∧ In1 c) ∧ (Rb 64 a ∧ Rb 64 b ∧ Rb 64 c) ∧ Pu (k + 11) d' := by
  have hk : k < 562949953421312 := hk
  have k60 : (2 : Nat) ^ 60 = 1152921504606846976 := by decide
  have k50 : (2 : Nat) ^ 50 = 1125899906842624 := by decide
  obtain ⟨t, d1, e1, a1, b1, p1⟩ := pick_ok (pre := pre) (post := post) (m := 8) h (by omega) (by decide) (bd_lit (by decide))
  obtain ⟨x, d2, e2, i2, r2, p2⟩ := shareD_ok (pre := pre) (post := post) p1 (by omega)
  obtain ⟨y, d3, e3, i3, r3, p3⟩ := shareD_ok (pre := pre) (post := post) p2 (by omega)
  obtain ⟨z, d4, e4, i4, r4, p4⟩ := shareD_ok (pre := pre) (post := post) p3 (by omega)
  obtain ⟨u, d5, e5, a5, b5, p5⟩ := pick_ok (pre := pre) (post := post) (m := 2) p4 (by omega) (by decide) (bd_lit (by decide))
  unfold G_law_shares
  by_cases h1 : t = 1
  · subst h1
    obtain rfl | rfl : u = 0 ∨ u = 1 := by omega
    · refine ⟨x, x, z, d5, ?_, ⟨i2, i2, i4⟩, ⟨r2, r2, r4⟩, p5⟩
      rwa [e1, range3, compL, wipeR, e2, e3, e4, e5]
    · refine ⟨x, y, x, d5, ?_, ⟨i2, i3, i2⟩, ⟨r2, r3, r2⟩, p5⟩
      rwa [e1, range3, compL, wipeR, e2, e3, e4, e5]
  · have p4' : Pu (k + 11) d4 := by
      obtain ⟨a, b, c, e, q1, q2, q3⟩ := p4
      exact ⟨a, b, c, e, q1, q2, by omega⟩
    by_cases h3 : t = 3
    · subst h3
      refine ⟨x, x, x, d4, ?_, ⟨i2, i2, i2⟩, ⟨r2, r2, r2⟩, p4'⟩
      rwa [e1, range3, compL, wipeR, e2, e3, e4]
    · refine ⟨x, y, z, d4, ?_, ⟨i2, i3, i4⟩, ⟨r2, r3, r4⟩, p4'⟩
      rwa [e1, range3, compL, wipeR, e2, e3, e4, decide_eq_false h1, decide_eq_false h3]
theorem made_okD {a b c : Rat} (h : Pu k d) (hk : k < 2 ^ 50) (ha : In1 a) (hb : In1 b) (hc : In1 c) : ∃ d', G_law_made [.ref pre.length, .tup [frD a, frD b, frD c]] (pre ++ d :: post) = some (.ret (.val (shD a b c)) (pre ++ d' :: post)) ∧ Pu (k + 1) d' := by
  have hk : k < 1125899906842624 := hk
  have k60 : (2 : Nat) ^ 60 = 1152921504606846976 := by decide
  obtain ⟨t, d1, e1, a1, b1, p1⟩ := pick_ok (pre := pre) (post := post) (m := 2) h (by omega) (by decide) (bd_lit (by decide))
  refine ⟨d1, ?_, p1⟩
  unfold G_law_made
  by_cases h1 : t = 1
  · subst h1
    rwa [e1, mkK_ok ha hb hc]
  · rwa [e1, decide_eq_false h1, mk_ok ha hb hc]
end
section
variable {a b c q : Rat} {st : Store}
theorem chk_ok : G_check_shade [shD a b c] st = some (.ret (.val .non) st) := by
  unfold G_check_shade
  rwa []
theorem parts_ok : G_parts_of [shD a b c] st = some (.ret (.val (.tup [frD a, frD b, frD c])) st) := by
  unfold G_parts_of
  rwa []
theorem shares_ok : G_shares_of [shD a b c] st = some (.ret (.val (.tup [frD a, frD b, frD c])) st) := by
  unfold G_shares_of
  rwa [chk_ok, parts_ok]
theorem lowP_pos {a : Int} {b : Nat} {st : Store} (hb : 0 < b) (ha : Bd 8000 a) (hb2 : Bd 8000 (b : Int)) : G_low [.int a, .int (b : Int)] st = some (.ret (.val (frD (Rat.divInt a b))) st) := by
  have hn : ¬ ((b : Int) < 0) := by omega
  have hg : 0 < Nat.gcd a.natAbs b := Nat.gcd_pos_of_pos_right _ hb
  have hg' : (0 : Int) < ((Nat.gcd a.natAbs b : Nat) : Int) := by omega
  have hgb : Bd 8000 ((Nat.gcd a.natAbs b : Nat) : Int) := hb2.of_le (by omega) (by have := Nat.gcd_le_right a.natAbs hb; omega)
  obtain ⟨e1, e2⟩ := num_div (a := a) hb
  unfold G_low
  rwa [decide_eq_false hn, share_ok]
  unfold frD
  rw [e1, e2]
theorem lowP_ok {a b : Int} {st : Store} (hb : b ≠ 0) (ha : Bd 8000 a) (hb2 : Bd 8000 b) : G_low [.int a, .int b] st = some (.ret (.val (frD (Rat.divInt a b))) st) := by
  by_cases h0 : 0 < b
  · obtain ⟨n, rfl⟩ : ∃ n : Nat, b = n := ⟨b.toNat, by omega⟩
    exact lowP_pos (by omega) ha hb2
  · obtain ⟨n, rfl⟩ : ∃ n : Nat, b = -(n : Int) := ⟨(-b).toNat, by omega⟩
    have hn : 0 < n := by omega
    have hneg : (-(n : Int)) < 0 := by omega
    have hb3 : Bd 8000 (n : Int) := by have := hb2.neg; rwa [Int.neg_neg] at this
    have hg' : (0 : Int) < ((Nat.gcd a.natAbs n : Nat) : Int) := by have := Nat.gcd_pos_of_pos_right a.natAbs hn; omega
    have hgb : Bd 8000 ((Nat.gcd a.natAbs n : Nat) : Int) := hb3.of_le (by omega) (by have := Nat.gcd_le_right a.natAbs hn; omega)
    obtain ⟨e1, e2⟩ := num_div (a := -a) hn
    have ea : (0 - a) = -a := by omega
    have eb : (0 - -(n : Int)) = (n : Int) := by omega
    have en : (-a).natAbs = a.natAbs := Int.natAbs_neg a
    unfold G_low
    rwa [decide_eq_true hneg, ea, eb, share_ok, en]
    unfold frD
    rw [Rat.divInt_neg', e1, e2, en]
theorem mul_div {a b : Rat} : Rat.divInt (a.num * b.num) (a.den * b.den) = a * b := by
  conv => rhs; rw [← Rat.num_divInt_den a, ← Rat.num_divInt_den b]
  rw [Rat.divInt_mul_divInt]
theorem mul_ok {k : Nat} (h1 : Rb k a) (h2 : Rb k b) (hk : k + k ≤ 8000) : G_mul [frD a, frD b] st = some (.ret (.val (frD (a * b))) st) := by
  have hd1 := a.den_pos
  have hd2 := b.den_pos
  have n1 := (h1.1.mul h2.1).mono hk
  have n2 := (h1.2.mul h2.2).mono hk
  have g1 := h1.1
  have g2 := h1.2
  have g3 := h2.1
  have g4 := h2.2
  have hm : (a.den : Int) * b.den ≠ 0 := by
    have : (0 : Int) < (a.den : Int) * b.den := Int.mul_pos (by omega) (by omega)
    omega
  have o1 : mulOk a.num b.num = true := mulOk_of g1 g3 (by omega)
  have o2 : mulOk a.den b.den = true := mulOk_of g2 g4 (by omega)
  unfold G_mul
  rwa [lowP_ok (a := a.num * b.num) (b := a.den * b.den) hm n1 n2, mul_div]
end
end Tz

set_option Elab.async false
set_option linter.all false
set_option maxRecDepth 100000
set_option maxHeartbeats 400000
/-! Lf: prints, spans, grades; lists of fractions; order of fractions. -/
namespace Tz
open PySem L2 PyProof.Rows
theorem half_floorD {a b : Int} (hb : 0 < b) : (Rat.divInt a b + 1 / 2 : Rat).floor = (2 * a + b) / (2 * b) := by
  have hd2 : (0 : Int) < 2 * b := by omega
  have ez : ((1 : Rat) / 2) = Rat.divInt 1 2 := by rw [Rat.divInt_eq_div]; rfl
  have e0 : Rat.divInt a b + 1 / 2 = Rat.divInt (2 * a + b) (2 * b) := by
    rw [ez, Rat.divInt_add_divInt _ _ (by omega) (by decide)]
    congr 1 <;> omega
  have f1 : (((2 * a + b) / (2 * b) : Int) : Rat) ≤ Rat.divInt a b + 1 / 2 := by
    rw [e0, Rat.divInt_eq_div, ← Rat.not_lt, Rat.div_lt_iff (Rat.intCast_pos.mpr hd2), ← Rat.intCast_mul, Rat.intCast_lt_intCast]
    have := Int.ediv_mul_le (2 * a + b) (b := 2 * b) (by omega)
    omega
  have f2 : Rat.divInt a b + 1 / 2 < ((((2 * a + b) / (2 * b) + 1 : Int)) : Rat) := by
    rw [e0, Rat.divInt_eq_div, Rat.div_lt_iff (Rat.intCast_pos.mpr hd2), ← Rat.intCast_mul, Rat.intCast_lt_intCast]
    exact Int.lt_ediv_add_one_mul_self _ hd2
  have g1 := Rat.le_floor_iff.mpr f1
  have g2 := Rat.floor_lt_iff.mpr f2
  omega
theorem frI {g : Int} : D.tup [.int g, .int 1] = frD (g : Rat) := rfl
/-- the step of a share -/
def spQ (q : Rat) (g : Int) : Int := (q * (g : Rat) + 1 / 2).floor
theorem mulI {q : Rat} {g : Int} : q * (g : Rat) = Rat.divInt (q.num * g) q.den := by
  rw [← mul_div]
  show Rat.divInt (q.num * g) (q.den * 1) = _
  rw [Int.mul_one]
section
variable {a b c q : Rat} {g : Int} {st : Store}
theorem rb_int {k : Nat} (h : Bd k g) (hk : decide (1 ≤ k) = true) : Rb k (g : Rat) := by
  refine ⟨h, ?_⟩
  show Bd k ((1 : Nat) : Int)
  have hk := of_decide_eq_true hk
  have : Bd 1 1 := bd_lit (by decide)
  exact this.mono hk
theorem step_ok (h : Rb 2000 q) (hg : Bd 64 g) : G_step_of [frD q, .int g] st = some (.ret (.val (.int (spQ q g))) st) := by
  have r1 : Rb 2000 (g : Rat) := rb_int (hg.mono (by decide)) (by decide)
  have hd : 0 < (q.den : Int) := by have := q.den_pos; omega
  have r2 : Rb 8000 (q * (g : Rat)) := by
    rw [mulI]
    have n1 : Bd 8000 (q.num * g) := (h.1.mul hg).mono (by decide)
    exact rb_div hd n1 (h.2.mono (by decide))
  unfold G_step_of
  rwa [frI, mul_ok h r1 (by decide), halves_ok r2]
  rfl
theorem lstep_ok (h : Rb 2000 q) (hg : Bd 64 g) : G_law_step [frD q, .int g] st = some (.ret (.val (.int (spQ q g))) st) := by
  have hd : 0 < (q.den : Int) := by have := q.den_pos; omega
  have hd2 : 0 < 2 * (q.den : Int) := by omega
  have h1 := h.1
  have h2 := h.2
  unfold G_law_step
  rwa []
  unfold spQ
  rw [mulI, half_floorD hd, Int.mul_assoc]
theorem grade_ok (h1 : 1 ≤ g) (h2 : g ≤ 1000) : G_check_grade [.int g] st = some (.ret (.val .non) st) := by
  unfold G_check_grade
  rwa [whole_int, decide_eq_true h1, decide_eq_true h2]
/-- the print of three shares -/
def prD (a b c : Rat) (g : Int) : D := .tup [.int (spQ a g), .int (spQ b g), .int (spQ c g)]
theorem printed_ok (ha : Rb 2000 a) (hb : Rb 2000 b) (hc : Rb 2000 c) (h1 : 1 ≤ g) (h2 : g ≤ 1000) : G_printed [shD a b c, .int g] st = some (.ret (.val (prD a b c g)) st) := by
  have hg : Bd 64 g := bd_rng (m := 1001) (by omega) (by omega) (by decide)
  unfold G_printed
  rwa [chk_ok, grade_ok h1 h2, parts_ok, compL, wipeR, step_ok ha hg, step_ok hb hg, step_ok hc hg]
  rfl
theorem lwhole_ok {i : Int} : G_is_whole [.int i] st = some (.ret (.val (.bl true)) st) := whole_int
theorem v_prT {st : Store} {T : Ty} : isiT T st (.val (prD a b c g)) = some (.val (.bl (tyIs .tup T))) := rfl
theorem v_prN {st : Store} : neT st (.val (prD a b c g)) (.val (prD a b c g)) = some (.val (.bl false)) := by
  unfold prD
  rwa []
theorem v_prE {st : Store} : eqT st (.val (prD a b c g)) (.val (prD a b c g)) = some (.val (.bl true)) := by
  unfold prD
  rwa []
theorem v_prU : itemsU (.val (prD a b c g)) = some [.int (spQ a g), .int (spQ b g), .int (spQ c g)] := rfl
end
/-! ### spans -/
def leQ (t g : Int) : Rat := if 0 < t then Rat.divInt (2 * t - 1) (2 * g) else 0
def moQ (t g : Int) : Rat := if t < g then Rat.divInt (2 * t + 1) (2 * g) else 1
def spD (t g : Int) : D := .tup [frD (leQ t g), frD (moQ t g), .bl (decide (t = g))]
section
variable {t g : Int} {st : Store}
theorem bd_lit' {i : Int} (h0 : -4000 < i) (h1 : i < 4000) : Bd 8000 i := by
  have : Bd 64 i := by
    unfold Bd
    show i.natAbs < 18446744073709551616
    omega
  exact this.mono (by decide)
theorem fr0 : D.tup [.int 0, .int 1] = frD 0 := rfl
theorem fr1 : D.tup [.int 1, .int 1] = frD 1 := rfl
theorem spans_ok (h0 : 0 ≤ t) (h1 : t ≤ g) (g1 : 1 ≤ g) (g2 : g ≤ 1000) : G_spans [.int t, .int g] st = some (.ret (.val (spD t g)) st) := by
  have tb : Bd 64 t := bd_rng (m := 1001) (by omega) (by omega) (by decide)
  have gb : Bd 64 g := bd_rng (m := 1001) (by omega) (by omega) (by decide)
  have b1 : Bd 8000 (2 * t - 1) := bd_lit' (by omega) (by omega)
  have b2 : Bd 8000 (2 * t + 1) := bd_lit' (by omega) (by omega)
  have b3 : Bd 8000 (2 * g) := bd_lit' (by omega) (by omega)
  have hg : 2 * g ≠ 0 := by omega
  unfold G_spans
  by_cases c1 : 0 < t
  · by_cases c2 : t < g
    · rwa [decide_eq_true c1, decide_eq_true c2, lowP_ok hg b1 b3, lowP_ok hg b2 b3]
      simp only [spD, leQ, moQ, if_pos c1, if_pos c2]
    · rwa [decide_eq_true c1, decide_eq_false c2, lowP_ok hg b1 b3, fr1]
      simp only [spD, leQ, moQ, if_pos c1, if_neg c2]
  · by_cases c2 : t < g
    · rwa [decide_eq_false c1, decide_eq_true c2, lowP_ok hg b2 b3, fr0]
      simp only [spD, leQ, moQ, if_neg c1, if_pos c2]
    · rwa [decide_eq_false c1, decide_eq_false c2, fr0, fr1]
      simp only [spD, leQ, moQ, if_neg c1, if_neg c2]
end
section
variable {t g : Int} {st : Store} {q a b : Rat}
theorem isstep_ok (h0 : 0 ≤ t) (h1 : t ≤ g) : G_is_step [.int t, .int g] st = some (.ret (.val (.bl true)) st) := by
  unfold G_is_step
  rwa [whole_int, decide_eq_true h0, decide_eq_true h1]
theorem span_of_ok (h0 : 0 ≤ t) (h1 : t ≤ g) (g1 : 1 ≤ g) (g2 : g ≤ 1000) : G_span_of [.int t, .int g] st = some (.ret (.val (spD t g)) st) := by
  unfold G_span_of
  rwa [grade_ok g1 g2, isstep_ok h0 h1, spans_ok h0 h1 g1 g2]
theorem lfrac_ok (h : Rb 2000 q) : G_law_is_fraction [frD q] st = some (.ret (.val (.bl true)) st) := by
  have hd : 0 < (q.den : Int) := by have := q.den_pos; omega
  have n1 := h.1.mono (b := 8000) (by decide)
  have n2 := h.2.mono (b := 8000) (by decide)
  have hz : (q.den : Int) ≠ 0 := by omega
  unfold G_law_is_fraction
  rwa [whole_int, decide_eq_true hd, low_ok hz n1 n2, Rat.num_divInt_den]
theorem rb_le (g1 : 1 ≤ g) (g2 : g ≤ 1000) (h0 : 0 ≤ t) (h1 : t ≤ g) : Rb 2000 (leQ t g) ∧ Rb 2000 (moQ t g) := by
  have bl : ∀ {i : Int}, -4000 < i → i < 4000 → Bd 2000 i := fun {i} h0 h1 => by
    have : Bd 64 i := by
      unfold Bd
      show i.natAbs < 18446744073709551616
      omega
    exact this.mono (by decide)
  have z0 : Rb 2000 (0 : Rat) := ⟨bl (i := 0) (by decide) (by decide), bl (i := 1) (by decide) (by decide)⟩
  have z1 : Rb 2000 (1 : Rat) := ⟨bl (i := 1) (by decide) (by decide), bl (i := 1) (by decide) (by decide)⟩
  refine ⟨?_, ?_⟩
  · unfold leQ
    split
    · exact rb_div (by omega) (bl (by omega) (by omega)) (bl (by omega) (by omega))
    · exact z0
  · unfold moQ
    split
    · exact rb_div (by omega) (bl (by omega) (by omega)) (bl (by omega) (by omega))
    · exact z1
theorem v_spT {st : Store} {T : Ty} : isiT T st (.val (spD t g)) = some (.val (.bl (tyIs .tup T))) := rfl
theorem v_spN {st : Store} : neT st (.val (spD t g)) (.val (spD t g)) = some (.val (.bl false)) := by
  unfold spD
  rwa [beq_self_eq_true]
theorem v_sp0 {st : Store} : ixV st (.val (spD t g)) (.val (.int 0)) = some (.val (frD (leQ t g))) := rfl
theorem v_sp1 {st : Store} : ixV st (.val (spD t g)) (.val (.int 1)) = some (.val (frD (moQ t g))) := rfl
theorem v_sp2 {st : Store} : ixV st (.val (spD t g)) (.val (.int 2)) = some (.val (.bl (decide (t = g)))) := rfl
theorem add_div {a b : Rat} : Rat.divInt (a.num * b.den + b.num * a.den) (a.den * b.den) = a + b := by
  conv => rhs; rw [← Rat.num_divInt_den a, ← Rat.num_divInt_den b]
  have h1 := a.den_pos
  have h2 := b.den_pos
  rw [Rat.divInt_add_divInt _ _ (by omega) (by omega)]
theorem plus_ok (h1 : Rb 2000 a) (h2 : Rb 2000 b) : G_law_plus [frD a, frD b] st = some (.ret (.val (frD (a + b))) st) := by
  have hd1 := a.den_pos
  have hd2 := b.den_pos
  have g1 := h1.1
  have g2 := h1.2
  have g3 := h2.1
  have g4 := h2.2
  have n1 : Bd 8000 (a.num * b.den + b.num * a.den) := by
    have : Bd (max (2000 + 2000) (2000 + 2000) + 1) (a.num * b.den + b.num * a.den) := by decreasing_trivial
    exact this.mono (by decide)
  have n2 : Bd 8000 ((a.den : Int) * b.den) := (g2.mul g4).mono (by decide)
  have hm : (a.den : Int) * b.den ≠ 0 := by
    have : (0 : Int) < (a.den : Int) * b.den := Int.mul_pos (by omega) (by omega)
    omega
  unfold G_law_plus
  rwa [low_ok hm n1 n2, add_div]
theorem rb_add {k : Nat} (h1 : Rb k a) (h2 : Rb k b) : Rb (k + k + 1) (a + b) := by
  have hd1 := a.den_pos
  have hd2 := b.den_pos
  have n1 : Bd (k + k + 1) (a.num * b.den + b.num * a.den) := (h1.1.mul h2.2).add (h2.1.mul h1.2)
  have n2 : Bd (k + k + 1) ((a.den : Int) * b.den) := (h1.2.mul h2.2).mono (by omega)
  rw [← add_div]
  exact rb_div (Int.mul_pos (by omega) (by omega)) n1 n2
end
section
variable {k : Nat} {d : D} {pre post : Store} {g : Int}
theorem gradeD_ok (h : Pu k d) (hk : k < 2 ^ 50) : ∃ g d', G_law_grade [.ref pre.length] (pre ++ d :: post) = some (.ret (.val (.int g)) (pre ++ d' :: post)) ∧ 1 ≤ g ∧ g ≤ 1000 ∧ Pu (k + 2) d' := by
  have hk : k < 1125899906842624 := hk
  have k60 : (2 : Nat) ^ 60 = 1152921504606846976 := by decide
  obtain ⟨t1, d1, e1, a1, b1, p1⟩ := pick_ok (pre := pre) (post := post) (m := 1000) h (by omega) (by decide) (bd_lit (by decide))
  obtain ⟨t2, d2, e2, a2, b2, p2⟩ := pick_ok (pre := pre) (post := post) (m := 6) p1 (by omega) (by decide) (bd_lit (by decide))
  obtain ⟨s, es, s0, sb⟩ : ∃ s : Int, L2.atI [D.int 1, D.int 2, D.int 3, D.int 255, D.int 1000, D.int (1 + t1)] t2 = some (.int s) ∧ 1 ≤ s ∧ s ≤ 1000 := by
    obtain rfl | rfl | rfl | rfl | rfl | rfl : t2 = 0 ∨ t2 = 1 ∨ t2 = 2 ∨ t2 = 3 ∨ t2 = 4 ∨ t2 = 5 := by omega
    · exact ⟨_, rfl, by decide, by decide⟩
    · exact ⟨_, rfl, by decide, by decide⟩
    · exact ⟨_, rfl, by decide, by decide⟩
    · exact ⟨_, rfl, by decide, by decide⟩
    · exact ⟨_, rfl, by decide, by decide⟩
    · exact ⟨_, rfl, by omega, by omega⟩
  refine ⟨s, d2, ?_, s0, sb, p2⟩
  unfold G_law_grade
  rwa [e1, e2, es]
theorem divI_le {n m a b : Int} (hm : 0 < m) (hb : 0 < b) (h : n * b ≤ a * m) : Rat.divInt n m ≤ Rat.divInt a b := by
  have e : (n : Rat) / (m : Rat) * (b : Rat) = ((n * b : Int) : Rat) / (m : Rat) := by
    rw [Rat.intCast_mul, Rat.div_def, Rat.div_def]
    grind
  rw [Rat.divInt_eq_div, Rat.divInt_eq_div, ← Rat.not_lt, Rat.div_lt_iff (Rat.intCast_pos.mpr hb), e, Rat.lt_div_iff (Rat.intCast_pos.mpr hm), ← Rat.intCast_mul, Rat.intCast_lt_intCast]
  omega
end
section
theorem comp_map {α : Type} {g : TgSem} {t : TSem} {e : ESem} {r : Rho} {st : Store} (h f : α → D) : ∀ (l : List α) (acc : List D), (∀ a, a ∈ l → ∃ r1, g (.val (h a)) r st = some (r1, st) ∧ t r1 st = some (.ok true st) ∧ e r1 st = some (.ok (.val (f a)) st)) → acc.length + l.length ≤ lim →
    compL g t e r acc (l.map h) st = some (acc ++ l.map f, st)
  | [], acc, _, _ => by
    rw [List.map_nil, List.map_nil, List.append_nil]
    rfl
  | a :: l, acc, hs, hl => by
    obtain ⟨r1, e1, e2, e3⟩ := hs a List.mem_cons_self
    rw [List.length_cons] at hl
    have hlt : acc.length < lim := by omega
    rw [List.map_cons, compL]
    simp only [e1, e2, e3, RV.toVal]
    rw [if_pos hlt, comp_map h f l (acc ++ [f a]) (fun b hb => hs b (List.mem_cons_of_mem _ hb)) (by rw [List.length_append, List.length_singleton]; omega), List.map_cons, List.append_assoc]
    rfl
theorem bools_true {α : Type} : ∀ l : List α, bools (l.map fun _ => D.bl true) = some (l.map fun _ => true)
  | [] => rfl
  | a :: l => by
    rw [List.map_cons, v_boolsC, bools_true l]
    rfl
theorem all_true {α : Type} {l : List α} {st : Store} : allV st (.fresh (.lst (l.map fun _ => D.bl true))) = some (.val (.bl true)) := by
  rw [v_allF, bools_true]
  have : (l.map fun _ => true).all id = true := by simp
  show some (RV.val (D.bl ((l.map fun _ => true).all id))) = _
  rw [this]
theorem dOks_fr {α : Type} {n : Nat} (h : α → Rat) : ∀ l : List α, dOks (n + 1) (l.map fun a => frD (h a)) = true
  | [] => rfl
  | a :: l => by
    rw [List.map_cons, z_dOksC, z_dOkF, dOks_fr h l]
    rfl
theorem dEqs_fr {α : Type} (h : α → Rat) : ∀ l : List α, dEqs (l.map fun a => frD (h a)) (l.map fun a => frD (h a)) = true
  | [] => rfl
  | a :: l => by
    rw [List.map_cons, z_dEqsC, z_dEqF, dEqs_fr h l, decide_eq_true rfl]
    rfl
theorem ne_self {α : Type} {h : α → Rat} {l : List α} {xs : List D} {st : Store} (e : xs = l.map fun a => frD (h a)) : neT st (.fresh (.lst xs)) (.fresh (.lst (l.map fun a => frD (h a)))) = some (.val (.bl false)) := by
  subst e
  rw [v_neFF, if_pos ⟨dOks_fr h l, dOks_fr h l⟩, dEqs_fr]
  rfl
theorem cut_1 {α : Type} {xs : List α} (h : 1 ≤ xs.length) : cutD xs (some 1) none = xs.drop 1 := by
  have e1 : HT.sIx xs.length 0 (some 1) = 1 := by
    unfold HT.sIx
    simp
    omega
  have e2 : HT.sIx xs.length xs.length none = xs.length := rfl
  unfold cutD
  rw [e1, e2, List.take_of_length_le (by rw [List.length_drop]; exact Nat.le_refl _)]
theorem cut_m1 {α : Type} {xs : List α} (h : 1 ≤ xs.length) : cutD xs none (some (-1)) = xs.take (xs.length - 1) := by
  have e1 : HT.sIx xs.length 0 none = 0 := rfl
  have e2 : HT.sIx xs.length xs.length (some (-1)) = xs.length - 1 := by
    unfold HT.sIx
    simp
    omega
  unfold cutD
  rw [e1, e2, List.drop_zero, Nat.sub_zero]
variable {s0 s1 s2 s3 s4 s5 s7 s8 s9 s10 : Sl} {s : Int} {st : Store}
end
end Tz

set_option Elab.async false
set_option linter.all false
set_option maxRecDepth 100000
set_option maxHeartbeats 400000
/-! Lg: steps and spans, as fractions. -/
namespace Tz
open PySem L2 PyProof.Rows
section
variable {t g m : Int} {s q : Rat}
theorem cast_mulg (hg : 0 < g) : (0 : Rat) < (g : Rat) := Rat.intCast_pos.mpr hg
theorem leQ_mul (hg : 0 < g) (ht : 0 < t) : leQ t g * (2 * (g : Rat)) = 2 * (t : Rat) - 1 := by
  have h2 : (0 : Rat) < ((2 * g : Int) : Rat) := Rat.intCast_pos.mpr (by omega)
  have e : ((2 * g : Int) : Rat) = 2 * (g : Rat) := by rw [Rat.intCast_mul]; rfl
  have e2 : ((2 * t - 1 : Int) : Rat) = 2 * (t : Rat) - 1 := by rw [Rat.intCast_sub, Rat.intCast_mul]; rfl
  unfold leQ
  have h3 : 2 * (g : Rat) ≠ 0 := by
    rw [← e]
    intro z
    rw [z] at h2
    exact absurd h2 (by decide)
  rw [if_pos ht, Rat.divInt_eq_div, e, e2]
  exact Rat.div_mul_cancel h3
theorem moQ_mul (hg : 0 < g) (ht : t < g) : moQ t g * (2 * (g : Rat)) = 2 * (t : Rat) + 1 := by
  have h2 : (0 : Rat) < ((2 * g : Int) : Rat) := Rat.intCast_pos.mpr (by omega)
  have e : ((2 * g : Int) : Rat) = 2 * (g : Rat) := by rw [Rat.intCast_mul]; rfl
  have e2 : ((2 * t + 1 : Int) : Rat) = 2 * (t : Rat) + 1 := by rw [Rat.intCast_add, Rat.intCast_mul]; rfl
  unfold moQ
  have h3 : 2 * (g : Rat) ≠ 0 := by
    rw [← e]
    intro z
    rw [z] at h2
    exact absurd h2 (by decide)
  rw [if_pos ht, Rat.divInt_eq_div, e, e2]
  exact Rat.div_mul_cancel h3
theorem spQ_eq (h1 : (m : Rat) ≤ q * (g : Rat) + 1 / 2) (h2 : q * (g : Rat) + 1 / 2 < (m : Rat) + 1) : spQ q g = m := by
  have a := Rat.le_floor_iff.mpr h1
  have e : ((m + 1 : Int) : Rat) = (m : Rat) + 1 := by rw [Rat.intCast_add]; rfl
  have b := Rat.floor_lt_iff.mpr (show q * (g : Rat) + 1 / 2 < ((m + 1 : Int) : Rat) by rw [e]; exact h2)
  unfold spQ
  omega
/-- a share of a step's span is printed as that step -/
structure InSp (s : Rat) (t g : Int) : Prop where
  lo : leQ t g ≤ s
  hi : s < moQ t g ∨ (t = g ∧ s = moQ t g)
theorem sp_of_in (hg : 0 < g) (h0 : 0 ≤ t) (h1 : t ≤ g) (h : InSp s t g) : spQ s g = t := by
  have G := cast_mulg hg
  have G2 : (0 : Rat) < 2 * (g : Rat) := by grind
  refine spQ_eq ?_ ?_
  · by_cases ht : 0 < t
    · have e := leQ_mul hg ht
      have := Rat.mul_le_mul_of_nonneg_right h.lo (Rat.le_of_lt G2)
      grind
    · have t0 : t = 0 := by omega
      subst t0
      have hs : (0 : Rat) ≤ s := h.lo
      have := Rat.mul_nonneg hs (Rat.le_of_lt G)
      have z : ((0 : Int) : Rat) = 0 := rfl
      grind
  · by_cases ht : t < g
    · have e := moQ_mul hg ht
      have hs : s < moQ t g := by
        rcases h.hi with z | ⟨z, _⟩
        · exact z
        · omega
      have := Rat.mul_lt_mul_of_pos_right hs G2
      grind
    · have tg : t = g := by omega
      subst tg
      have hs : s ≤ 1 := by
        have m1 : moQ t t = 1 := by unfold moQ; rw [if_neg (by omega)]
        rcases h.hi with z | ⟨_, z⟩
        · rw [m1] at z; exact Rat.le_of_lt z
        · rw [m1] at z; rw [z]; exact Rat.le_refl
      have := Rat.mul_le_mul_of_nonneg_right hs (Rat.le_of_lt G)
      grind
/-! ### the steps of another grade -/
theorem spQ_le {k : Int} : k ≤ spQ q g ↔ (k : Rat) ≤ q * (g : Rat) + 1 / 2 := Rat.le_floor_iff
theorem spQ_lt {k : Int} : spQ q g < k ↔ q * (g : Rat) + 1 / 2 < (k : Rat) := Rat.floor_lt_iff
theorem leQ_bd (hg : 0 < g) (h0 : 0 ≤ t) (h1 : t ≤ g) : 0 ≤ leQ t g ∧ leQ t g < 1 ∧ 0 < moQ t g ∧ moQ t g ≤ 1 ∧ leQ t g < moQ t g := by
  have G := cast_mulg hg
  have G2 : (0 : Rat) < 2 * (g : Rat) := by grind
  have c0 : (0 : Rat) ≤ (t : Rat) := by
    have := Rat.intCast_le_intCast.mpr h0
    exact this
  have c1 : (t : Rat) ≤ (g : Rat) := Rat.intCast_le_intCast.mpr h1
  have a1 : 0 ≤ leQ t g ∧ leQ t g < 1 := by
    by_cases ht : 0 < t
    · have e := leQ_mul hg ht
      have c2 : (1 : Rat) ≤ (t : Rat) := Rat.intCast_le_intCast.mpr (show (1 : Int) ≤ t by omega)
      refine ⟨?_, ?_⟩
      · refine Rat.le_of_mul_le_mul_right (c := 2 * (g : Rat)) ?_ G2
        grind
      · refine Rat.not_le.mp fun z => ?_
        have := Rat.mul_le_mul_of_nonneg_right z (Rat.le_of_lt G2)
        grind
    · unfold leQ
      rw [if_neg ht]
      exact ⟨Rat.le_refl, by decide +kernel⟩
  have a2 : 0 < moQ t g ∧ moQ t g ≤ 1 := by
    by_cases ht : t < g
    · have e := moQ_mul hg ht
      have c2 : (t : Rat) + 1 ≤ (g : Rat) := by
        have := Rat.intCast_le_intCast.mpr (show t + 1 ≤ g by omega)
        rw [Rat.intCast_add] at this
        exact this
      refine ⟨?_, ?_⟩
      · refine Rat.not_le.mp fun z => ?_
        have := Rat.mul_le_mul_of_nonneg_right z (Rat.le_of_lt G2)
        grind
      · refine Rat.le_of_mul_le_mul_right (c := 2 * (g : Rat)) ?_ G2
        grind
    · unfold moQ
      rw [if_neg ht]
      exact ⟨by decide +kernel, Rat.le_refl⟩
  refine ⟨a1.1, a1.2, a2.1, a2.2, ?_⟩
  by_cases ht : 0 < t
  · by_cases hu : t < g
    · have e1 := leQ_mul hg ht
      have e2 := moQ_mul hg hu
      refine Rat.not_le.mp fun z => ?_
      have := Rat.mul_le_mul_of_nonneg_right z (Rat.le_of_lt G2)
      grind
    · have : moQ t g = 1 := by unfold moQ; rw [if_neg hu]
      rw [this]
      exact a1.2
  · have : leQ t g = 0 := by unfold leQ; rw [if_neg ht]
    rw [this]
    exact a2.1
theorem hi_iff {B : Rat} {k : Int} : k ≤ (B.num - 1) / (B.den : Int) ↔ (k : Rat) < B := by
  have hd : (0 : Int) < B.den := by have := B.den_pos; omega
  rw [Int.le_ediv_iff_mul_le hd, Rat.lt_iff]
  show k * (B.den : Int) ≤ B.num - 1 ↔ k * (B.den : Int) < B.num * ((1 : Nat) : Int)
  omega
variable {u h : Int}
/-- t a step of g, u one of h: the least step -/
theorem lo_iff (hg : 0 < g) (hh : 0 < h) (t0 : 0 ≤ t) (t1 : t ≤ g) (u0 : 0 ≤ u) (u1 : u ≤ h) : spQ (leQ t g) h ≤ u ↔ leQ t g < moQ u h := by
  obtain ⟨a0, a1, _⟩ := leQ_bd hg t0 t1
  have G := cast_mulg hh
  have G2 : (0 : Rat) < 2 * (h : Rat) := by grind
  have e1 : spQ (leQ t g) h ≤ u ↔ spQ (leQ t g) h < u + 1 := by omega
  have ec : ((u + 1 : Int) : Rat) = (u : Rat) + 1 := by rw [Rat.intCast_add]; rfl
  rw [e1, spQ_lt, ec]
  by_cases hu : u < h
  · have e := moQ_mul hh hu
    constructor
    · intro z
      refine Rat.not_le.mp fun y => ?_
      have := Rat.mul_le_mul_of_nonneg_right y (Rat.le_of_lt G2)
      grind
    · intro z
      have := Rat.mul_lt_mul_of_pos_right z G2
      grind
  · have e : u = h := by omega
    subst e
    have m1 : moQ u u = 1 := by unfold moQ; rw [if_neg (by omega)]
    rw [m1]
    constructor
    · intro _
      exact a1
    · intro _
      have := Rat.mul_lt_mul_of_pos_right a1 G
      grind
/-- the greatest one -/
theorem hi_step (hg : 0 < g) (hh : 0 < h) (t0 : 0 ≤ t) (t1 : t ≤ g) (u0 : 0 ≤ u) (u1 : u ≤ h) : (u : Rat) < moQ t g * (h : Rat) + 1 / 2 ↔ leQ u h < moQ t g := by
  obtain ⟨_, _, b0, b1, _⟩ := leQ_bd hg t0 t1
  have G := cast_mulg hh
  have G2 : (0 : Rat) < 2 * (h : Rat) := by grind
  by_cases hu : 0 < u
  · have e := leQ_mul hh hu
    constructor
    · intro z
      refine Rat.not_le.mp fun y => ?_
      have := Rat.mul_le_mul_of_nonneg_right y (Rat.le_of_lt G2)
      grind
    · intro z
      have := Rat.mul_lt_mul_of_pos_right z G2
      grind
  · have e : u = 0 := by omega
    subst e
    have m1 : leQ 0 h = 0 := rfl
    rw [m1]
    constructor
    · intro _
      exact b0
    · intro _
      have := Rat.mul_lt_mul_of_pos_right b0 G
      have z : ((0 : Int) : Rat) = 0 := rfl
      grind
def inB (s : Rat) (t g : Int) : Bool := !decide (s < leQ t g) && (decide (s < moQ t g) || (decide (t = g) && decide (s = moQ t g)))
theorem inB_iff : inB s t g = true ↔ InSp s t g := by
  unfold inB
  simp only [Bool.and_eq_true, Bool.or_eq_true, Bool.not_eq_true', decide_eq_false_iff_not, decide_eq_true_eq]
  constructor
  · rintro ⟨h1, h2⟩
    exact ⟨Rat.not_lt.mp h1, h2⟩
  · rintro ⟨h1, h2⟩
    exact ⟨Rat.not_lt.mpr h1, h2⟩
/-- the share that both spans have, if any -/
def cmQ (t g u h : Int) : Rat := if leQ t g < leQ u h then leQ u h else leQ t g
theorem in_1 (hg : 0 < g) (hh : 0 < h) (t0 : 0 ≤ t) (t1 : t ≤ g) (u0 : 0 ≤ u) (u1 : u ≤ h) : InSp (cmQ t g u h) t g ↔ leQ u h < moQ t g := by
  obtain ⟨a0, a1, b0, b1, ab⟩ := leQ_bd hg t0 t1
  obtain ⟨c0, c1, d0, d1, cd⟩ := leQ_bd hh u0 u1
  unfold cmQ
  by_cases z : leQ t g < leQ u h
  · rw [if_pos z]
    constructor
    · rintro ⟨_, y | ⟨y, x⟩⟩
      · exact y
      · subst y
        have m1 : moQ t t = 1 := by unfold moQ; rw [if_neg (by omega)]
        rw [m1] at x
        rw [x] at c1
        exact absurd c1 (by decide +kernel)
    · intro y
      exact ⟨Rat.le_of_lt z, .inl y⟩
  · rw [if_neg z]
    constructor
    · intro _
      grind
    · intro _
      exact ⟨Rat.le_refl, .inl ab⟩
theorem in_2 (hg : 0 < g) (hh : 0 < h) (t0 : 0 ≤ t) (t1 : t ≤ g) (u0 : 0 ≤ u) (u1 : u ≤ h) : InSp (cmQ t g u h) u h ↔ leQ t g < moQ u h := by
  obtain ⟨a0, a1, b0, b1, ab⟩ := leQ_bd hg t0 t1
  obtain ⟨c0, c1, d0, d1, cd⟩ := leQ_bd hh u0 u1
  unfold cmQ
  by_cases z : leQ t g < leQ u h
  · rw [if_pos z]
    constructor
    · intro _
      grind
    · intro _
      exact ⟨Rat.le_refl, .inl cd⟩
  · rw [if_neg z]
    constructor
    · rintro ⟨_, y | ⟨y, x⟩⟩
      · exact y
      · subst y
        have m1 : moQ u u = 1 := by unfold moQ; rw [if_neg (by omega)]
        rw [m1] at x ⊢
        exact a1
    · intro y
      exact ⟨Rat.not_lt.mp z, .inl y⟩
end
end Tz

set_option Elab.async false
set_option linter.all false
set_option maxRecDepth 100000
set_option maxHeartbeats 400000
/-! Lh: below, times, minus; in a stretch. -/
namespace Tz
open PySem L2 PyProof.Rows
section
variable {a b c s q : Rat} {t g u h : Int} {st : Store}
theorem bel_ok (h1 : Rb 5000 a) (h2 : Rb 5000 b) : G_law_below [frD a, frD b] st = some (.ret (.val (.bl (decide (a < b)))) st) := by
  have e : decide (a.num * b.den < b.num * a.den) = decide (a < b) := by rw [decide_eq_decide]; exact (Rat.lt_iff a b).symm
  have g1 := h1.1
  have g2 := h1.2
  have g3 := h2.1
  have g4 := h2.2
  unfold G_law_below
  rwa [e]
theorem x_gSp {g1 g2 g3 : TgSem} {r : Rho} : gTupS [g1, g2, g3] (.val (spD t g)) r st = gList [g1, g2, g3] [frD (leQ t g), frD (moQ t g), .bl (decide (t = g))] r st := rfl
theorem lawin_ok (hs : Rb 5000 s) (h1 : Rb 2000 (leQ t g)) (h2 : Rb 2000 (moQ t g)) : G_law_in [frD s, spD t g] st = some (.ret (.val (.bl (inB s t g))) st) := by
  have r1 := h1.mono (b := 5000) (by decide)
  have r2 := h2.mono (b := 5000) (by decide)
  unfold G_law_in inB
  by_cases c1 : s < leQ t g
  · rwa [v_sp0, v_sp1, v_sp2, bel_ok hs r1, bel_ok hs r2, decide_eq_true c1]
  · by_cases c2 : s < moQ t g
    · rwa [v_sp0, v_sp1, v_sp2, bel_ok hs r1, bel_ok hs r2, decide_eq_false c1, decide_eq_true c2, Bool.true_or]
    · by_cases c3 : t = g
      · rwa [v_sp0, v_sp1, v_sp2, bel_ok hs r1, bel_ok hs r2, decide_eq_false c1, decide_eq_false c2, decide_eq_true c3, Bool.false_or]
      · rwa [v_sp0, v_sp1, v_sp2, bel_ok hs r1, bel_ok hs r2, decide_eq_false c1, decide_eq_false c2, decide_eq_false c3, Bool.false_or]
theorem isin_ok (hs : Rb 5000 s) (h1 : Rb 2000 (leQ t g)) (h2 : Rb 2000 (moQ t g)) : G_is_in [frD s, spD t g] st = some (.ret (.val (.bl (inB s t g))) st) := by
  have r1 := h1.mono (b := 5000) (by decide)
  have r2 := h2.mono (b := 5000) (by decide)
  unfold G_is_in inB
  by_cases c1 : s < leQ t g
  · rwa [x_gSp, bel_ok hs r1, bel_ok hs r2, decide_eq_true c1]
  · by_cases c2 : s < moQ t g
    · rwa [x_gSp, bel_ok hs r1, bel_ok hs r2, decide_eq_false c1, decide_eq_true c2, Bool.true_or]
    · by_cases c3 : t = g
      · rwa [x_gSp, bel_ok hs r1, bel_ok hs r2, decide_eq_false c1, decide_eq_false c2, decide_eq_true c3, Bool.false_or]
      · rwa [x_gSp, bel_ok hs r1, bel_ok hs r2, decide_eq_false c1, decide_eq_false c2, decide_eq_false c3, Bool.false_or]
theorem sub_div {a b : Rat} : Rat.divInt (a.num * b.den - b.num * a.den) (a.den * b.den) = a - b := by
  conv => rhs; rw [← Rat.num_divInt_den a, ← Rat.num_divInt_den b]
  have h1 := a.den_pos
  have h2 := b.den_pos
  rw [Rat.divInt_sub_divInt _ _ (by omega) (by omega)]
theorem den_ne : (a.den : Int) * b.den ≠ 0 := by
  have hd1 := a.den_pos
  have hd2 := b.den_pos
  have : (0 : Int) < (a.den : Int) * b.den := Int.mul_pos (by omega) (by omega)
  omega
theorem rb_sub {k : Nat} (h1 : Rb k a) (h2 : Rb k b) : Rb (k + k + 1) (a - b) := by
  have hd1 := a.den_pos
  have hd2 := b.den_pos
  have n1 : Bd (k + k + 1) (a.num * b.den - b.num * a.den) := by
    rw [Int.sub_eq_add_neg]
    exact (h1.1.mul h2.2).add (h2.1.mul h1.2).neg
  have n2 : Bd (k + k + 1) ((a.den : Int) * b.den) := (h1.2.mul h2.2).mono (by omega)
  rw [← sub_div]
  exact rb_div (Int.mul_pos (by omega) (by omega)) n1 n2
theorem rb_mul {k : Nat} (h1 : Rb k a) (h2 : Rb k b) : Rb (k + k) (a * b) := by
  have hd1 := a.den_pos
  have hd2 := b.den_pos
  rw [← mul_div]
  exact rb_div (Int.mul_pos (by omega) (by omega)) (h1.1.mul h2.1) (h1.2.mul h2.2)
theorem ltimes_ok (h1 : Rb 4000 a) (h2 : Rb 4000 b) : G_law_times [frD a, frD b] st = some (.ret (.val (frD (a * b))) st) := by
  have g1 := h1.1
  have g2 := h1.2
  have g3 := h2.1
  have g4 := h2.2
  have n1 : Bd 8000 (a.num * b.num) := g1.mul g3
  have n2 : Bd 8000 ((a.den : Int) * b.den) := g2.mul g4
  unfold G_law_times
  rwa [low_ok den_ne n1 n2, mul_div]
theorem lminus_ok (h1 : Rb 3900 a) (h2 : Rb 3900 b) : G_law_minus [frD a, frD b] st = some (.ret (.val (frD (a - b))) st) := by
  have g1 := h1.1
  have g2 := h1.2
  have g3 := h2.1
  have g4 := h2.2
  have n1 : Bd 8000 (a.num * b.den - b.num * a.den) := by
    have : Bd (max (3900 + 3900) (3900 + 3900) + 1) (a.num * b.den - b.num * a.den) := by decreasing_trivial
    exact this.mono (by decide)
  have n2 : Bd 8000 ((a.den : Int) * b.den) := (g2.mul g4).mono (by decide)
  unfold G_law_minus
  rwa [low_ok den_ne n1 n2, sub_div]
theorem lplus_ok (h1 : Rb 3900 a) (h2 : Rb 3900 b) : G_law_plus [frD a, frD b] st = some (.ret (.val (frD (a + b))) st) := by
  have g1 := h1.1
  have g2 := h1.2
  have g3 := h2.1
  have g4 := h2.2
  have n1 : Bd 8000 (a.num * b.den + b.num * a.den) := by
    have : Bd (max (3900 + 3900) (3900 + 3900) + 1) (a.num * b.den + b.num * a.den) := by decreasing_trivial
    exact this.mono (by decide)
  have n2 : Bd 8000 ((a.den : Int) * b.den) := (g2.mul g4).mono (by decide)
  unfold G_law_plus
  rwa [low_ok den_ne n1 n2, add_div]
end
end Tz
namespace Tz
open PySem L2 PyProof.Rows
/-- a half -/
def hfQ : Rat := { num := 1, den := 2, den_nz := by decide, reduced := by decide +kernel }
theorem hf_eq : hfQ = 1 / 2 := by decide +kernel
theorem frH : D.tup [.int 1, .int 2] = frD hfQ := rfl
theorem frU {s : Int} (h : 0 < s) : D.tup [.int 1, .int s] = frD (Rat.divInt 1 s) := by
  obtain ⟨n, rfl⟩ : ∃ n : Nat, s = n := ⟨s.toNat, by omega⟩
  obtain ⟨e1, e2⟩ := num_div (a := 1) (b := n) (by omega)
  have hg : Nat.gcd (1 : Int).natAbs n = 1 := by show Nat.gcd 1 n = 1; exact Nat.gcd_one_left n
  unfold frD
  rw [e1, e2, hg]
  show D.tup [.int 1, .int (n : Int)] = D.tup [.int (1 / 1), .int ((n : Int) / 1)]
  rw [Int.ediv_one, Int.ediv_one]
section
variable {t g : Int} {s : Rat} {st : Store}
theorem rb_le64 (g1 : 1 ≤ g) (g2 : g ≤ 1000) (h0 : 0 ≤ t) (h1 : t ≤ g) : Rb 64 (leQ t g) ∧ Rb 64 (moQ t g) := by
  have bl : ∀ {i : Int}, -4000 < i → i < 4000 → Bd 64 i := fun {i} h0 h1 => by
    unfold Bd
    show i.natAbs < 18446744073709551616
    omega
  have z0 : Rb 64 (0 : Rat) := ⟨bl (i := 0) (by decide) (by decide), bl (i := 1) (by decide) (by decide)⟩
  have z1 : Rb 64 (1 : Rat) := ⟨bl (i := 1) (by decide) (by decide), bl (i := 1) (by decide) (by decide)⟩
  refine ⟨?_, ?_⟩
  · unfold leQ
    split
    · exact rb_div (by omega) (bl (by omega) (by omega)) (bl (by omega) (by omega))
    · exact z0
  · unfold moQ
    split
    · exact rb_div (by omega) (bl (by omega) (by omega)) (bl (by omega) (by omega))
    · exact z1
theorem rb_0 {k : Nat} (hk : decide (1 ≤ k) = true) : Rb k (0 : Rat) := rb_int (g := 0) (by unfold Bd; exact Nat.pos_of_ne_zero (by have := Nat.pow_pos (n := k) (show 0 < 2 by decide); show 2 ^ k ≠ 0; omega)) hk
theorem rb_1 {k : Nat} (hk : decide (1 ≤ k) = true) : Rb k (1 : Rat) := rb_int (g := 1) (by
  have hk := of_decide_eq_true hk
  have : Bd 1 1 := bd_lit (by decide)
  exact this.mono hk) hk
/-- a share lies in the span of its own step alone -/
theorem in_iff (hi : In1 s) (hg : 0 < g) (h0 : 0 ≤ t) (h1 : t ≤ g) : InSp s t g ↔ spQ s g = t := by
  refine ⟨sp_of_in hg h0 h1, fun h => ?_⟩
  have G := cast_mulg hg
  have G2 : (0 : Rat) < 2 * (g : Rat) := by grind
  have lo : ((t : Int) : Rat) ≤ s * (g : Rat) + 1 / 2 := spQ_le.mp (by rw [h]; exact Int.le_refl _)
  have hi' : s * (g : Rat) + 1 / 2 < ((t + 1 : Int) : Rat) := spQ_lt.mp (by rw [h]; omega)
  rw [Rat.intCast_add] at hi'
  have o : ((1 : Int) : Rat) = 1 := rfl
  refine ⟨?_, ?_⟩
  · by_cases ht : 0 < t
    · have e := leQ_mul hg ht
      refine Rat.not_lt.mp fun z => ?_
      have := Rat.mul_lt_mul_of_pos_right z G2
      grind
    · have e : leQ t g = 0 := by unfold leQ; rw [if_neg ht]
      rw [e]
      exact hi.lo
  · by_cases ht : t < g
    · have e := moQ_mul hg ht
      refine .inl (Rat.not_le.mp fun z => ?_)
      have := Rat.mul_le_mul_of_nonneg_right z (Rat.le_of_lt G2)
      grind
    · have tg : t = g := by omega
      have e : moQ t g = 1 := by unfold moQ; rw [if_neg ht]
      rw [e]
      rcases Rat.le_iff_lt_or_eq.mp hi.hi with z | z
      · exact .inl z
      · exact .inr ⟨tg, z⟩
theorem in_dec (hi : In1 s) (hg : 0 < g) (h0 : 0 ≤ t) (h1 : t ≤ g) : inB s t g = decide (spQ s g = t) := by
  rw [Bool.eq_iff_iff, inB_iff, in_iff hi hg h0 h1, decide_eq_true_iff]
theorem sp_bd (hi : In1 s) (hg : 0 < g) : 0 ≤ spQ s g ∧ spQ s g ≤ g := by
  have G := cast_mulg hg
  have k1 := Rat.mul_nonneg hi.lo (Rat.le_of_lt G)
  have k2 := Rat.mul_le_mul_of_nonneg_right hi.hi (Rat.le_of_lt G)
  refine ⟨spQ_le.mpr ?_, Int.lt_add_one_iff.mp (spQ_lt.mpr ?_)⟩
  · have z : ((0 : Int) : Rat) = 0 := rfl
    grind
  · rw [Rat.intCast_add]
    have o : ((1 : Int) : Rat) = 1 := rfl
    grind
end
theorem comp_true {g : TgSem} {t : TSem} {e : ESem} {r : Rho} (I : Nat → Store → Prop) : ∀ (xs : List D) (n : Nat) (acc : List D) (st : Store), I n st →
    (∀ m x st, x ∈ xs → m < n + xs.length → I m st → ∃ r1 st', g (.val x) r st = some (r1, st) ∧ t r1 st = some (.ok true st) ∧ e r1 st = some (.ok (.val (.bl true)) st') ∧ I (m + 1) st') → acc.length + xs.length ≤ lim →
    ∃ st', compL g t e r acc xs st = some (acc ++ xs.map (fun _ => D.bl true), st') ∧ I (n + xs.length) st'
  | [], n, acc, st, h, _, _ => ⟨st, by rw [List.map_nil, List.append_nil]; rfl, h⟩
  | x :: xs, n, acc, st, h, hs, hl => by
    obtain ⟨r1, st1, e1, e2, e3, h1⟩ := hs n x st List.mem_cons_self (by rw [List.length_cons]; omega) h
    rw [List.length_cons] at hl
    have hlt : acc.length < lim := by omega
    obtain ⟨st2, e4, h2⟩ := comp_true I xs (n + 1) (acc ++ [.bl true]) st1 h1 (fun m y st hy hm => hs m y st (List.mem_cons_of_mem _ hy) (by rw [List.length_cons]; omega)) (by rw [List.length_append, List.length_singleton]; omega)
    refine ⟨st2, ?_, ?_⟩
    · rw [compL]
      simp only [e1, e2, e3, RV.toVal]
      rw [if_pos hlt, e4, List.map_cons, List.append_assoc]
      rfl
    · rw [List.length_cons]
      have : n + 1 + xs.length = n + (xs.length + 1) := by omega
      rw [← this]
      exact h2
end Tz

set_option Elab.async false
set_option linter.all false
set_option maxRecDepth 100000
set_option maxHeartbeats 400000
/-! Li: less, add, div; Shades compared, their truth; deeds. -/
namespace Tz
open PySem L2 PyProof.Rows
section
variable {a b c a' b' c' q : Rat} {j k : Nat} {st : Store}
theorem rb_addA (h1 : Rb j a) (h2 : Rb k b) : Rb (j + k + 1) (a + b) := by
  have hd1 := a.den_pos
  have hd2 := b.den_pos
  have n1 : Bd (j + k + 1) (a.num * b.den + b.num * a.den) := (h1.1.mul h2.2).add ((h2.1.mul h1.2).mono (by omega))
  rw [← add_div]
  exact rb_div (Int.mul_pos (by omega) (by omega)) n1 ((h1.2.mul h2.2).mono (by omega))
theorem rb_subA (h1 : Rb j a) (h2 : Rb k b) : Rb (j + k + 1) (a - b) := by
  have hd1 := a.den_pos
  have hd2 := b.den_pos
  have n1 : Bd (j + k + 1) (a.num * b.den - b.num * a.den) := by
    rw [Int.sub_eq_add_neg]
    exact (h1.1.mul h2.2).add (((h2.1.mul h1.2).mono (by omega)).neg)
  rw [← sub_div]
  exact rb_div (Int.mul_pos (by omega) (by omega)) n1 ((h1.2.mul h2.2).mono (by omega))
theorem rb_mulA (h1 : Rb j a) (h2 : Rb k b) : Rb (j + k) (a * b) := by
  have hd1 := a.den_pos
  have hd2 := b.den_pos
  rw [← mul_div]
  exact rb_div (Int.mul_pos (by omega) (by omega)) (h1.1.mul h2.1) (h1.2.mul h2.2)
theorem less_ok (h1 : Rb 3900 a) (h2 : Rb 3900 b) : G_less [frD a, frD b] st = some (.ret (.val (frD (a - b))) st) := by
  have g1 := h1.1
  have g2 := h1.2
  have g3 := h2.1
  have g4 := h2.2
  have n1 : Bd 8000 (a.num * b.den - b.num * a.den) := by
    have : Bd (max (3900 + 3900) (3900 + 3900) + 1) (a.num * b.den - b.num * a.den) := by decreasing_trivial
    exact this.mono (by decide)
  have n2 : Bd 8000 ((a.den : Int) * b.den) := (g2.mul g4).mono (by decide)
  unfold G_less
  rwa [lowP_ok den_ne n1 n2, sub_div]
theorem add_ok (h1 : Rb 3900 a) (h2 : Rb 3900 b) : G_add [frD a, frD b] st = some (.ret (.val (frD (a + b))) st) := by
  have g1 := h1.1
  have g2 := h1.2
  have g3 := h2.1
  have g4 := h2.2
  have n1 : Bd 8000 (a.num * b.den + b.num * a.den) := by
    have : Bd (max (3900 + 3900) (3900 + 3900) + 1) (a.num * b.den + b.num * a.den) := by decreasing_trivial
    exact this.mono (by decide)
  have n2 : Bd 8000 ((a.den : Int) * b.den) := (g2.mul g4).mono (by decide)
  unfold G_add
  rwa [lowP_ok den_ne n1 n2, add_div]
theorem mulP_ok (h1 : Rb 3900 a) (h2 : Rb 3900 b) : G_mul [frD a, frD b] st = some (.ret (.val (frD (a * b))) st) := mul_ok h1 h2 (by decide)
theorem div_div {a b : Rat} (hb : b ≠ 0) : Rat.divInt (a.num * b.den) (a.den * b.num) = a / b := by
  have h1 := a.den_pos
  have h2 := b.den_pos
  have hn : b.num ≠ 0 := fun z => hb (Rat.num_eq_zero.mp z)
  conv => rhs; rw [← Rat.num_divInt_den a, ← Rat.num_divInt_den b]
  rw [Rat.div_def, Rat.inv_divInt, Rat.divInt_mul_divInt]
theorem div_ok (h1 : Rb 3900 a) (h2 : Rb 3900 b) (hb : b ≠ 0) : G_div [frD a, frD b] st = some (.ret (.val (frD (a / b))) st) := by
  have g1 := h1.1
  have g2 := h1.2
  have g3 := h2.1
  have g4 := h2.2
  have n1 : Bd 8000 (a.num * b.den) := (g1.mul g4).mono (by decide)
  have n2 : Bd 8000 ((a.den : Int) * b.num) := (g2.mul g3).mono (by decide)
  have hn : b.num ≠ 0 := fun z => hb (Rat.num_eq_zero.mp z)
  have hd := a.den_pos
  have hm : (a.den : Int) * b.num ≠ 0 := Int.mul_ne_zero (by omega) hn
  unfold G_div
  rwa [lowP_ok hm n1 n2, div_div hb]
theorem shby_ok (ha : In1 a) (hb : In1 b) (hc : In1 c) : G_shade_by [.tup [frD a, frD b, frD c]] st = some (.ret (.val (shD a b c)) st) := by
  unfold G_shade_by
  rwa [mk_ok ha hb hc]
theorem shbyL_ok (ha : In1 a) (hb : In1 b) (hc : In1 c) : G_shade_by [.lst [frD a, frD b, frD c]] st = some (.ret (.val (shD a b c)) st) := by
  unfold G_shade_by
  rwa [mk_ok ha hb hc]
/-! Shades compared -/
noncomputable abbrev eqsS : List (Str × FSem) := [("Shade", G_Shade_eq)]
theorem sheq_ok : G_Shade_eq [shD a b c, shD a' b' c'] st = some (.ret (.val (.bl (decide (a = a') && (decide (b = b') && (decide (c = c') && true))))) st) := by
  unfold G_Shade_eq
  rwa [v_shC]
open Classical in
theorem v_eqSh : eqO eqsS st (.val (shD a b c)) (.val (shD a' b' c')) = some (.val (.bl (decide (a = a') && (decide (b = b') && (decide (c = c') && true))))) := by
  have e1 : eqT st (.val (shD a b c)) (.val (shD a' b' c')) = none := rfl
  have e2 : lookE eqsS "Shade" = some G_Shade_eq := by
    unfold lookE
    rw [if_pos rfl]
  have e3 : tgD st (shD a' b' c') = some (.inr "Shade") := rfl
  unfold eqO
  rw [e1]
  show (match lookE eqsS "Shade" with
    | some F => match tgD st (shD a' b' c') with
      | some _ => match F [shD a b c, shD a' b' c'] st with
        | some (.ret (.val (.bl b)) st2) => if st2 = st then some (RV.val (.bl b)) else none
        | _ => none
      | none => none
    | none => none) = _
  rw [e2, e3]
  simp only [sheq_ok]
  rw [if_pos trivial]
theorem v_neSh : neO eqsS st (.val (shD a b c)) (.val (shD a' b' c')) = some (.val (.bl (!(decide (a = a') && (decide (b = b') && (decide (c = c') && true)))))) := by
  unfold neO
  rw [v_eqSh]
theorem v_neOT {x y : RV} {z : Bool} (h : eqT st x y = some (.val (.bl z))) : neO eqsS st x y = some (.val (.bl (!z))) := by
  unfold neO eqO
  rw [h]
theorem v_eqOT {x y : RV} {z : Bool} (h : eqT st x y = some (.val (.bl z))) : eqO eqsS st x y = some (.val (.bl z)) := by
  unfold eqO
  rw [h]
/-! their truth -/
noncomputable abbrev spsL : List ((Str × Str) × FSem) := [(("Shade", "__len__"), G_Shade_len)]
def lenQ (a b c : Rat) : Nat := (if a = 0 then 0 else 1) + (if b = 0 then 0 else 1) + (if c = 0 then 0 else 1)
theorem shlen_ok : G_Shade_len [shD a b c] st = some (.ret (.val (.int (lenQ a b c))) st) := by
  unfold G_Shade_len lenQ
  by_cases h1 : a = 0
  · by_cases h2 : b = 0
    · by_cases h3 : c = 0
      · rwa [compL, wipeR, fr0, decide_eq_true h1, decide_eq_true h2, decide_eq_true h3, if_pos h1, if_pos h2, if_pos h3]
      · rwa [compL, wipeR, fr0, decide_eq_true h1, decide_eq_true h2, decide_eq_false h3, if_pos h1, if_pos h2, if_neg h3]
    · by_cases h3 : c = 0
      · rwa [compL, wipeR, fr0, decide_eq_true h1, decide_eq_false h2, decide_eq_true h3, if_pos h1, if_neg h2, if_pos h3]
      · rwa [compL, wipeR, fr0, decide_eq_true h1, decide_eq_false h2, decide_eq_false h3, if_pos h1, if_neg h2, if_neg h3]
  · by_cases h2 : b = 0
    · by_cases h3 : c = 0
      · rwa [compL, wipeR, fr0, decide_eq_false h1, decide_eq_true h2, decide_eq_true h3, if_neg h1, if_pos h2, if_pos h3]
      · rwa [compL, wipeR, fr0, decide_eq_false h1, decide_eq_true h2, decide_eq_false h3, if_neg h1, if_pos h2, if_neg h3]
    · by_cases h3 : c = 0
      · rwa [compL, wipeR, fr0, decide_eq_false h1, decide_eq_false h2, decide_eq_true h3, if_neg h1, if_neg h2, if_pos h3]
      · rwa [compL, wipeR, fr0, decide_eq_false h1, decide_eq_false h2, decide_eq_false h3, if_neg h1, if_neg h2, if_neg h3]
open Classical in
theorem spec_sh : spec spsL "__len__" st (shD a b c) = some (.int (lenQ a b c)) := by
  have e2 : lookS spsL ("Shade", "__len__") = some G_Shade_len := by
    unfold lookS
    rw [if_pos rfl]
  unfold spec
  show (match lookS spsL ("Shade", "__len__") with
    | some F => match F [shD a b c] st with
      | some (.ret (.val e) st2) => if st2 = st then some e else none
      | _ => none
    | none => none) = _
  rw [e2]
  simp only [shlen_ok]
  rw [if_pos trivial]
theorem lenQ_bd : (0 : Int) ≤ (lenQ a b c : Nat) ∧ ((lenQ a b c : Nat) : Int) < 2 ^ 62 := by
  have : lenQ a b c ≤ 3 := by
    unfold lenQ
    split <;> split <;> split <;> decide
  have e : (2 : Int) ^ 62 = 4611686018427387904 := by decide
  omega
theorem v_trSh : truthO spsL st (.val (shD a b c)) = some (((lenQ a b c : Nat) : Int) != 0) := by
  have e1 : truth st (.val (shD a b c)) = none := rfl
  unfold truthO
  rw [e1]
  simp only [spec_sh]
  rw [if_pos lenQ_bd]
theorem v_lenSh : lenO spsL st (.val (shD a b c)) = some (.val (.int (lenQ a b c : Nat))) := by
  have e1 : lenV st (.val (shD a b c)) = none := rfl
  unfold lenO
  rw [e1]
  simp only [spec_sh]
  rw [if_pos lenQ_bd]
end
/-! deeds -/
section
variable {a b c p : Rat} {st : Store}
theorem in1_sub (h : In1 a) : In1 (1 - a) := ⟨by have := h.hi; grind, by have := h.lo; grind⟩
theorem in1_mul (h : In1 a) (h2 : In1 b) : In1 (a * b) := by
  refine ⟨Rat.mul_nonneg h.lo h2.lo, ?_⟩
  have := Rat.mul_le_mul_of_nonneg_right h.hi h2.lo
  have := h2.hi
  grind
theorem in1_to (h : In1 a) (h2 : In1 b) (hp : In1 p) : In1 (a + p * (b - a)) := by
  have h1 := Rat.mul_nonneg hp.lo h2.lo
  have h3 := Rat.mul_nonneg (in1_sub hp).lo h.lo
  have h4 := Rat.mul_nonneg hp.lo (in1_sub h2).lo
  have h5 := Rat.mul_nonneg (in1_sub hp).lo (in1_sub h).lo
  constructor <;> grind
theorem opp_ok (ha : In1 a) (hb : In1 b) (hc : In1 c) (ra : Rb 3900 a) (rb : Rb 3900 b) (rc : Rb 3900 c) : G_opposite [shD a b c] st = some (.ret (.val (shD (1 - a) (1 - b) (1 - c))) st) := by
  have o := rb_1 (k := 3900) (by decide)
  unfold G_opposite
  rwa [chk_ok, parts_ok, compL, wipeR, fr1, less_ok o ra, less_ok o rb, less_ok o rc, shbyL_ok (in1_sub ha) (in1_sub hb) (in1_sub hc)]
theorem part_ok (hp : In1 p) : G_part_of [frD p] st = some (.ret (.val (frD p)) st) := by
  have n : isT st (.val (frD p)) (.val .non) = some (.val (.bl false)) := rfl
  unfold G_part_of
  rwa [inone_ok hp, n]
theorem partN_ok : G_part_of [.non] st = some (.ret (.val (frD hfQ)) st) := by
  unfold G_part_of
  rwa [frH]
theorem dark_ok (ha : In1 a) (hb : In1 b) (hc : In1 c) (hp : In1 p) (ra : Rb 3000 a) (rb : Rb 3000 b) (rc : Rb 3000 c) (rp : Rb 3000 p) : G_darker [shD a b c, frD p] st = some (.ret (.val (shD ((1 - p) * a) ((1 - p) * b) ((1 - p) * c))) st) := by
  have o := rb_1 (k := 3900) (by decide)
  have r1 : Rb 3900 (1 - p) := (rb_subA (rb_1 (k := 1) (by decide)) rp).mono (by decide)
  have w := in1_sub hp
  have ra' := ra.mono (b := 3900) (by decide)
  have rb' := rb.mono (b := 3900) (by decide)
  have rc' := rc.mono (b := 3900) (by decide)
  unfold G_darker
  rwa [chk_ok, part_ok hp, parts_ok, compL, wipeR, fr1, less_ok o (rp.mono (b := 3900) (by decide)), mulP_ok r1 ra', mulP_ok r1 rb', mulP_ok r1 rc', shbyL_ok (in1_mul w ha) (in1_mul w hb) (in1_mul w hc)]
end
section
variable {a b c p x y z : Rat} {st : Store}
theorem tow_ok (ha : In1 a) (hb : In1 b) (hc : In1 c) (hx : In1 x) (hy : In1 y) (hz : In1 z) (hp : In1 p) (ra : Rb 900 a) (rb : Rb 900 b) (rc : Rb 900 c) (rx : Rb 900 x) (ry : Rb 900 y) (rz : Rb 900 z) (rp : Rb 900 p) :
    G_towards [.tup [frD a, frD b, frD c], .tup [frD x, frD y, frD z], frD p] st = some (.ret (.val (shD (a + p * (x - a)) (b + p * (y - b)) (c + p * (z - c)))) st) := by
  have big : ∀ {q : Rat}, Rb 900 q → Rb 3900 q := fun h => h.mono (by decide)
  have d1 := rb_subA rx ra
  have d2 := rb_subA ry rb
  have d3 := rb_subA rz rc
  have m1 := rb_mulA rp d1
  have m2 := rb_mulA rp d2
  have m3 := rb_mulA rp d3
  have u : ∀ {q : Rat}, Rb (900 + 900 + 1) q → Rb 3900 q := fun h => h.mono (by decide)
  have v : ∀ {q : Rat}, Rb (900 + (900 + 900 + 1)) q → Rb 3900 q := fun h => h.mono (by decide)
  unfold G_towards
  rwa [compL, wipeR, less_ok (big rx) (big ra), less_ok (big ry) (big rb), less_ok (big rz) (big rc), mulP_ok (big rp) (u d1), mulP_ok (big rp) (u d2), mulP_ok (big rp) (u d3), add_ok (big ra) (v m1), add_ok (big rb) (v m2), add_ok (big rc) (v m3), shbyL_ok (in1_to ha hx hp) (in1_to hb hy hp) (in1_to hc hz hp)]
theorem light_ok (ha : In1 a) (hb : In1 b) (hc : In1 c) (hp : In1 p) (ra : Rb 900 a) (rb : Rb 900 b) (rc : Rb 900 c) (rp : Rb 900 p) :
    G_lighter [shD a b c, frD p] st = some (.ret (.val (shD (a + p * (1 - a)) (b + p * (1 - b)) (c + p * (1 - c)))) st) := by
  have o := rb_1 (k := 900) (by decide)
  have i : In1 (1 : Rat) := ⟨by decide +kernel, Rat.le_refl⟩
  have m : mulT st (.val (.tup [frD 1])) (.val (.int 3)) = some (.val (.tup [frD 1, frD 1, frD 1])) := rfl
  unfold G_lighter
  rwa [m, chk_ok, part_ok hp, parts_ok, fr1, tow_ok ha hb hc i i i hp ra rb rc o o o rp]
theorem turns_ok {n : Int} : G_turns_of [.int n] st = some (.ret (.val (.int n)) st) := by
  unfold G_turns_of
  rwa [whole_int]
/-- the share of light (i - n) mod 3 -/
def rotQ (n i : Int) (a b c : Rat) : Rat := if (i - n) % 3 = 0 then a else if (i - n) % 3 = 1 then b else c
theorem turned_ok (ha : In1 a) (hb : In1 b) (hc : In1 c) {n : Int} : G_turned [shD a b c, .int n] st = some (.ret (.val (shD (rotQ n 0 a b c) (rotQ n 1 a b c) (rotQ n 2 a b c))) st) := by
  have at_ : ∀ i : Int, L2.atI [frD a, frD b, frD c] ((i - n) % 3) = some (frD (rotQ n i a b c)) := by
    intro i
    have h0 := Int.emod_nonneg (i - n) (show (3 : Int) ≠ 0 by decide)
    have h1 := Int.emod_lt_of_pos (i - n) (show (0 : Int) < 3 by decide)
    unfold rotQ
    obtain h | h | h : (i - n) % 3 = 0 ∨ (i - n) % 3 = 1 ∨ (i - n) % 3 = 2 := by omega
    · rw [h]; rfl
    · rw [h]; rfl
    · rw [h]; rfl
  have in_ : ∀ i, In1 (rotQ n i a b c) := by
    intro i
    unfold rotQ
    split
    · exact ha
    · split
      · exact hb
      · exact hc
  have a0 := at_ 0
  have a1 := at_ 1
  have a2 := at_ 2
  unfold G_turned
  rwa [chk_ok, turns_ok, parts_ok, range3, compL, wipeR, a0, a1, a2, shbyL_ok (in_ 0) (in_ 1) (in_ 2)]
end
end Tz

set_option Elab.async false
set_option linter.all false
set_option maxRecDepth 100000
set_option maxHeartbeats 400000
/-! Lm: mixes of Shades by weights. -/
namespace Tz
open PySem L2 PyProof.Rows
theorem intsOf_map : ∀ is : List Int, intsOf (is.map D.int) = some is
  | [] => rfl
  | i :: is => by
    show (match intsOf (is.map D.int) with
      | some is => some (i :: is)
      | none => none) = _
    rw [intsOf_map is]
section
variable {st : Store} {is : List Int}
theorem v_sumT : sumW st (.val (.tup (is.map D.int))) = some (.val (.int is.sum)) := by
  show (match intsOf (is.map D.int) with
    | some is => some (RV.val (.int is.sum))
    | none => none) = _
  rw [intsOf_map]
theorem v_sumP : sumW st (.peek (.lst (is.map D.int))) = some (.val (.int is.sum)) := by
  show (match intsOf (is.map D.int) with
    | some is => some (RV.val (.int is.sum))
    | none => none) = _
  rw [intsOf_map]
theorem v_repN {d : D} {n : Nat} (h1 : 1 ≤ n) (h2 : n ≤ 1000) : mulT st (.val (.tup [d])) (.val (.int (n : Int))) = some (.val (.tup (List.replicate n d))) := by
  show (if [d] ≠ [] ∧ 1 ≤ (n : Int) ∧ (n : Int) ≤ 1000 ∧ [d].length ≤ 1000 then some (RV.val (.tup (List.replicate (n : Int).toNat [d]).flatten)) else none) = _
  rw [if_pos ⟨by simp, by omega, by omega, by show (1 : Nat) ≤ 1000; decide⟩]
  have e : ∀ m : Nat, (List.replicate m [d]).flatten = List.replicate m d := by
    intro m
    induction m with
    | zero => rfl
    | succ m ih => rw [List.replicate_succ, List.flatten_cons, ih, List.replicate_succ]; rfl
  rw [Int.toNat_natCast, e]
end
/-! three shares -/
abbrev T3 := Rat × Rat × Rat
def rowT (t : T3) : D := .tup [frD t.1, frD t.2.1, frD t.2.2]
def shT (t : T3) : D := shD t.1 t.2.1 t.2.2
def sel : Nat → T3 → Rat
  | 0, t => t.1
  | 1, t => t.2.1
  | _, t => t.2.2
structure Ok3 (k : Nat) (t : T3) : Prop where
  i : ∀ n, In1 (sel n t)
  r : ∀ n, Rb k (sel n t)
theorem v_row {st : Store} {t : T3} {n : Nat} (hn : n < 3) : ixV st (.val (rowT t)) (.val (.int (n : Int))) = some (.val (frD (sel n t))) := by
  obtain rfl | rfl | rfl : n = 0 ∨ n = 1 ∨ n = 2 := by omega
  all_goals rfl
/-! sizes of sums -/
theorem den_add (a b : Rat) : (a + b).den ≤ a.den * b.den := by
  have h1 := a.den_pos
  have h2 := b.den_pos
  have h3 : 0 < a.den * b.den := Nat.mul_pos h1 h2
  have e := (num_div (a := a.num * b.den + b.num * a.den) h3).2
  rw [Int.natCast_mul, add_div] at e
  have : ((a.den : Int) * b.den) / ((Nat.gcd (a.num * b.den + b.num * a.den).natAbs (a.den * b.den) : Nat) : Int) ≤ (a.den : Int) * b.den := Int.ediv_le_self _ (by omega)
  rw [← e, ← Int.natCast_mul] at this
  omega
theorem den_mulI (a : Rat) (w : Int) : (a * (w : Rat)).den ≤ a.den := by
  have h1 := a.den_pos
  have e := (num_div (a := a.num * w) h1).2
  rw [← mulI] at e
  have : ((a.den : Int)) / ((Nat.gcd (a.num * w).natAbs a.den : Nat) : Int) ≤ (a.den : Int) := Int.ediv_le_self _ (by omega)
  rw [← e] at this
  omega
theorem num_le {q : Rat} {c : Int} (h : q ≤ (c : Rat)) : q.num ≤ c * q.den := by
  rw [← Rat.not_lt, Rat.lt_iff] at h
  have e1 : ((c : Rat)).num = c := rfl
  have e2 : ((c : Rat)).den = 1 := rfl
  rw [e1, e2] at h
  omega
/-- a sum of j shares, each up to a million times -/
structure Sz (j : Nat) (q : Rat) : Prop where
  lo : 0 ≤ q
  hi : q ≤ ((1000000 * j : Int) : Rat)
  den : q.den ≤ 2 ^ (64 * j)
theorem Sz.rb {j : Nat} {q : Rat} (h : Sz j q) (hj : j ≤ 60) : Rb 3880 q := by
  have h1 := num_le h.hi
  have h0 : 0 ≤ q.num := Rat.num_nonneg.mpr h.lo
  have hd : q.den ≤ 2 ^ 3840 := Nat.le_trans h.den (Nat.pow_le_pow_right (by decide) (by omega))
  have hc : (1000000 * (j : Int)) ≤ 60000000 := by omega
  have e : (2 : Nat) ^ 3880 = 2 ^ 40 * 2 ^ 3840 := by rw [← Nat.pow_add]
  have e40 : (2 : Nat) ^ 40 = 1099511627776 := by decide
  generalize (2 : Nat) ^ 3840 = M at hd e
  have h2 : 1000000 * (j : Int) * q.den ≤ 60000000 * q.den := Int.mul_le_mul_of_nonneg_right hc (by omega)
  have hp := q.den_pos
  refine ⟨?_, ?_⟩
  · unfold Bd
    rw [e, e40]
    omega
  · unfold Bd
    rw [e, e40]
    omega
theorem Sz.add {j : Nat} {a b : Rat} (h : Sz j a) (h2 : Sz 1 b) : Sz (j + 1) (a + b) := by
  refine ⟨Rat.add_nonneg h.lo h2.lo, ?_, ?_⟩
  · have e : ((1000000 * ((j + 1 : Nat) : Int) : Int) : Rat) = ((1000000 * (j : Int) : Int) : Rat) + ((1000000 * ((1 : Nat) : Int) : Int) : Rat) := by
      rw [← Rat.intCast_add]
      congr 1
    rw [e]
    have a1 := h.hi
    have a2 := h2.hi
    grind
  · refine Nat.le_trans (den_add a b) ?_
    have e : 64 * (j + 1) = 64 * j + 64 * 1 := by omega
    rw [e, Nat.pow_add]
    exact Nat.mul_le_mul h.den h2.den
theorem sz_0 : Sz 0 0 := ⟨Rat.le_refl, Rat.le_refl, by decide⟩
def tQ (qs : List Rat) : Rat := qs.foldl (· + ·) 0
theorem tQ_snoc {qs : List Rat} {q : Rat} : tQ (qs ++ [q]) = tQ qs + q := by
  unfold tQ
  rw [List.foldl_append]
  rfl
theorem sz_take {qs : List Rat} (h : ∀ q ∈ qs, Sz 1 q) : ∀ m, m ≤ qs.length → Sz m (tQ (qs.take m))
  | 0, _ => by
    rw [List.take_zero]
    exact sz_0
  | m + 1, hm => by
    rw [List.take_succ, List.getElem?_eq_getElem (show m < qs.length by omega)]
    show Sz (m + 1) (tQ (qs.take m ++ [qs[m]]))
    rw [tQ_snoc]
    exact (sz_take h m (by omega)).add (h _ (List.getElem_mem _))
/-! weighted shares -/
abbrev WL := List (T3 × Int)
structure OkW (l : WL) : Prop where
  t : ∀ p, p ∈ l → Ok3 64 p.1
  w0 : ∀ p, p ∈ l → 0 ≤ p.2
  w1 : ∀ p, p ∈ l → p.2 ≤ 1000000
  len : l.length ≤ 60
  pos : 0 < (l.map (·.2)).sum
def tm (n : Nat) (p : T3 × Int) : Rat := sel n p.1 * (p.2 : Rat)
def mixQ (n : Nat) (l : WL) : Rat := tQ (l.map (tm n)) / (((l.map (·.2)).sum : Int) : Rat)
def mixT (l : WL) : T3 := (mixQ 0 l, mixQ 1 l, mixQ 2 l)
theorem sz_tm {n : Nat} {p : T3 × Int} (h : Ok3 64 p.1) (h0 : 0 ≤ p.2) (h1 : p.2 ≤ 1000000) : Sz 1 (tm n p) := by
  have i := h.i n
  have r := h.r n
  have w0 : (0 : Rat) ≤ (p.2 : Rat) := Rat.intCast_nonneg.mpr h0
  refine ⟨Rat.mul_nonneg i.lo w0, ?_, ?_⟩
  · have w1 : (p.2 : Rat) ≤ ((1000000 * ((1 : Nat) : Int) : Int) : Rat) := Rat.intCast_le_intCast.mpr (by omega)
    have := Rat.mul_le_mul_of_nonneg_right i.hi w0
    rw [Rat.one_mul] at this
    exact Rat.le_trans this w1
  · refine Nat.le_trans (den_mulI _ _) ?_
    have := r.2
    unfold Bd at this
    show _ ≤ 2 ^ 64
    omega
theorem OkW.sz {l : WL} (h : OkW l) {n m : Nat} (hm : m ≤ l.length) : Sz m (tQ ((l.map (tm n)).take m)) :=
  sz_take (fun q hq => by
    obtain ⟨p, hp, rfl⟩ := List.mem_map.mp hq
    exact sz_tm (h.t p hp) (h.w0 p hp) (h.w1 p hp)) m (by rw [List.length_map]; exact hm)
theorem OkW.all {l : WL} (h : OkW l) {n : Nat} : Sz l.length (tQ (l.map (tm n))) := by
  have := h.sz (n := n) (Nat.le_refl l.length)
  rwa [List.take_of_length_le (by rw [List.length_map]; exact Nat.le_refl _)] at this
theorem sum_bd : ∀ {ws : List Int}, (∀ w ∈ ws, 0 ≤ w ∧ w ≤ 1000000) → 0 ≤ ws.sum ∧ ws.sum ≤ 1000000 * ws.length
  | [], _ => by simp
  | w :: ws, h => by
    have a := h w List.mem_cons_self
    have b := sum_bd fun v hv => h v (List.mem_cons_of_mem _ hv)
    rw [List.sum_cons, List.length_cons]
    omega
theorem OkW.sum {l : WL} (h : OkW l) : (l.map (·.2)).sum ≤ 60000000 := by
  have := (sum_bd (ws := l.map (·.2)) fun w hw => by
    obtain ⟨p, hp, rfl⟩ := List.mem_map.mp hw
    exact ⟨h.w0 p hp, h.w1 p hp⟩).2
  rw [List.length_map] at this
  have := h.len
  omega
theorem t_le {n : Nat} : ∀ (l : WL) (a b : Rat), a ≤ b → (∀ p ∈ l, sel n p.1 ≤ 1) → (∀ p ∈ l, 0 ≤ p.2) → (l.map (tm n)).foldl (· + ·) a ≤ b + (((l.map (·.2)).sum : Int) : Rat)
  | [], a, b, h, _, _ => by
    have e : (([] : WL).map (·.2)).sum = 0 := rfl
    rw [e]
    show a ≤ b + 0
    rw [Rat.add_zero]
    exact h
  | p :: l, a, b, h, h1, h2 => by
    have w0 : (0 : Rat) ≤ (p.2 : Rat) := Rat.intCast_nonneg.mpr (h2 p List.mem_cons_self)
    have hm : tm n p ≤ (p.2 : Rat) := by
      have := Rat.mul_le_mul_of_nonneg_right (h1 p List.mem_cons_self) w0
      rw [Rat.one_mul] at this
      exact this
    have := t_le l (a + tm n p) (b + (p.2 : Rat)) (by grind) (fun q hq => h1 q (List.mem_cons_of_mem _ hq)) fun q hq => h2 q (List.mem_cons_of_mem _ hq)
    rw [List.map_cons, List.map_cons, List.sum_cons, List.foldl_cons, Rat.intCast_add, ← Rat.add_assoc]
    exact this
theorem OkW.in1 {l : WL} (h : OkW l) {n : Nat} : In1 (mixQ n l) := by
  have hp : (0 : Rat) < (((l.map (·.2)).sum : Int) : Rat) := Rat.intCast_pos.mpr h.pos
  refine ⟨by unfold mixQ; rw [← Rat.not_lt, Rat.div_lt_iff hp, Rat.zero_mul, Rat.not_lt]; exact h.all.lo, ?_⟩
  have := t_le (n := n) l 0 0 Rat.le_refl (fun p hq => ((h.t p hq).i n).hi) h.w0
  rw [Rat.zero_add] at this
  unfold mixQ
  rw [← Rat.not_lt, Rat.lt_div_iff hp, Rat.one_mul, Rat.not_lt]
  exact this
theorem OkW.rbm {l : WL} (h : OkW l) {n : Nat} : Rb 3900 (mixQ n l) := by
  have hp := h.pos
  have hs := h.sum
  have sz := h.all (n := n)
  have hd : (tQ (l.map (tm n))).den ≤ 2 ^ 3840 := Nat.le_trans sz.den (Nat.pow_le_pow_right (by decide) (by have := h.len; omega))
  have i := h.in1 (n := n)
  have hne : (((l.map (·.2)).sum : Int) : Rat) ≠ 0 := fun z => by
    have := Rat.intCast_pos.mpr hp
    rw [z] at this
    exact absurd this (by decide)
  have e := div_div (a := tQ (l.map (tm n))) hne
  have en : ((((l.map (·.2)).sum : Int) : Rat)).num = (l.map fun p : T3 × Int => p.2).sum := rfl
  have ed : ((((l.map (·.2)).sum : Int) : Rat)).den = 1 := rfl
  rw [en, ed] at e
  obtain ⟨W, hW⟩ : ∃ W : Nat, (l.map (·.2)).sum = (W : Int) := ⟨(l.map fun p : T3 × Int => p.2).sum.toNat, by omega⟩
  rw [hW] at e hp hs
  have hq := (tQ (l.map (tm n))).den_pos
  have hpos : 0 < (tQ (l.map (tm n))).den * W := Nat.mul_pos hq (by omega)
  have ec := (num_div (a := (tQ (l.map (tm n))).num * ((1 : Nat) : Int)) hpos).2
  rw [Int.natCast_mul, e] at ec
  have le : (mixQ n l).den ≤ (tQ (l.map (tm n))).den * W := by
    unfold mixQ
    rw [hW]
    have : (((tQ (l.map (tm n))).den : Int) * W) / ((Nat.gcd ((tQ (l.map (tm n))).num * ((1 : Nat) : Int)).natAbs ((tQ (l.map (tm n))).den * W) : Nat) : Int) ≤ ((tQ (l.map (tm n))).den : Int) * W := Int.ediv_le_self _ (by omega)
    rw [← ec, ← Int.natCast_mul] at this
    omega
  have le2 : (mixQ n l).den ≤ 2 ^ 3840 * 2 ^ 40 := by
    have e40 : (2 : Nat) ^ 40 = 1099511627776 := by decide
    exact Nat.le_trans le (Nat.mul_le_mul hd (by omega))
  rw [← Nat.pow_add] at le2
  have hlt : (mixQ n l).den < 2 ^ 3900 := Nat.lt_of_le_of_lt le2 (Nat.pow_lt_pow_right (by decide) (by decide))
  refine ⟨?_, ?_⟩
  · have h0 : 0 ≤ (mixQ n l).num := Rat.num_nonneg.mpr i.lo
    have h1 := le_one.mpr i.hi
    unfold Bd
    generalize (2 : Nat) ^ 3900 = M at hlt
    omega
  · unfold Bd
    generalize (2 : Nat) ^ 3900 = M at hlt
    omega
end Tz

set_option Elab.async false
set_option linter.all false
set_option maxRecDepth 100000
set_option maxHeartbeats 400000
/-! Ln: the program's mix. -/
namespace Tz
open PySem L2 PyProof.Rows
theorem _root_.Tz.Pu.le {k m : Nat} {d : D} (h : Pu k d) (hk : k ≤ m) : Pu m d := by
  obtain ⟨a, b, c, e, q1, q2, q3⟩ := h.ex
  exact ⟨a, b, c, e, q1, q2, by omega⟩
theorem comp_gen {g : TgSem} {t : TSem} {e : ESem} {r : Rho} (I : Nat → List D → Store → Prop) : ∀ (xs : List D) (n : Nat) (acc : List D) (st : Store), I n acc st →
    (∀ m acc x st, x ∈ xs → m < n + xs.length → I m acc st → ∃ r1 v st', g (.val x) r st = some (r1, st) ∧ t r1 st = some (.ok true st) ∧ e r1 st = some (.ok (.val v) st') ∧ I (m + 1) (acc ++ [v]) st') → acc.length + xs.length ≤ lim →
    ∃ ys st', compL g t e r acc xs st = some (ys, st') ∧ I (n + xs.length) ys st'
  | [], n, acc, st, h, _, _ => ⟨acc, st, rfl, h⟩
  | x :: xs, n, acc, st, h, hs, hl => by
    obtain ⟨r1, v, st1, e1, e2, e3, h1⟩ := hs n acc x st List.mem_cons_self (by rw [List.length_cons]; omega) h
    rw [List.length_cons] at hl
    have hlt : acc.length < lim := by omega
    obtain ⟨ys, st2, e4, h2⟩ := comp_gen I xs (n + 1) (acc ++ [v]) st1 h1 (fun m acc y st hy hm => hs m acc y st (List.mem_cons_of_mem _ hy) (by rw [List.length_cons]; omega)) (by rw [List.length_append, List.length_singleton]; omega)
    refine ⟨ys, st2, ?_, ?_⟩
    · rw [compL]
      simp only [e1, e2, e3, RV.toVal]
      rw [if_pos hlt, e4]
    · rw [List.length_cons]
      have : n + 1 + xs.length = n + (xs.length + 1) := by omega
      rw [← this]
      exact h2
theorem zipF_map {α : Type} (f g : α → D) : ∀ l : List α, zipF (l.map f) (l.map g) = l.map fun a => .tup [f a, g a]
  | [] => rfl
  | a :: l => by
    rw [List.map_cons, List.map_cons, z_zipC, zipF_map f g l, List.map_cons]
theorem all_id {α : Type} : ∀ l : List α, (l.map fun _ => true).all id = true
  | [] => rfl
  | a :: l => all_id l
section
variable {st : Store} {l : WL}
theorem total_ok {qs : List Rat} (hb : ∀ m, m ≤ qs.length → Rb 3900 (tQ (qs.take m))) (hq : ∀ q ∈ qs, Rb 3900 q) : G_total [.lst (qs.map frD)] st = some (.ret (.val (frD (tQ qs))) st) := by
  have key : ∃ v st1, G_total [.lst (qs.map frD)] st = some (.ret v st1) ∧ (v = .val (frD (tQ qs)) ∧ st1 = st) := by
    unfold G_total
    refine fn_sw (P := fun v s => v = .val (frD (tQ qs)) ∧ s = st) ?_
    have e0 : slots0 3 [D.lst (qs.map frD)] = [.val (.lst (qs.map frD)), .no, .no] := rfl
    rw [e0]
    refine sw_step (by rwa [fr0]; rfl) ?_
    refine sw_seq (sw_forN (fun n r s => (∃ s2, r = [.val (.lst (qs.map frD)), .val (frD (tQ (qs.take n))), s2]) ∧ s = st) (xs := qs.map frD) (st1 := st) (by rwa []) ⟨⟨_, rfl⟩, rfl⟩ ?_ ?_)
    · rintro n x r s hx ⟨⟨s2, rfl⟩, rfl⟩
      rw [List.getElem?_map] at hx
      obtain ⟨q, hq1, rfl⟩ := Option.map_eq_some_iff.mp hx
      have hlt := (List.getElem?_eq_some_iff.mp hq1).1
      have hm : q ∈ qs := List.mem_of_getElem? hq1
      have et : qs.take (n + 1) = qs.take n ++ [q] := by
        rw [List.take_succ, hq1]
        rfl
      refine ⟨_, _, rfl, ?_⟩
      refine sw_eq (o := .nx [.val (.lst (qs.map frD)), .val (frD (tQ (qs.take n) + q)), .val (frD q)] s) (by rwa [add_ok (hb n (by omega)) (hq q hm)]) ⟨⟨.val (frD q), ?_⟩, rfl⟩
      rw [et, tQ_snoc]
    · rintro r2 st2 ⟨⟨s2, rfl⟩, rfl⟩
      refine sw_eq (o := .rt (.val (frD (tQ qs))) st2) ?_ ⟨rfl, rfl⟩
      have e : (qs.map frD).length = qs.length := List.length_map _
      rw [e, List.take_length]
      rwa []
  obtain ⟨v, s1, e, rfl, rfl⟩ := key
  exact e
theorem OkW.rbt (h : OkW l) {n : Nat} {q : Rat} (hq : q ∈ l.map (tm n)) : Rb 3900 q := by
  obtain ⟨p, hp, rfl⟩ := List.mem_map.mp hq
  exact ((sz_tm (h.t p hp) (h.w0 p hp) (h.w1 p hp)).rb (by decide)).mono (by decide)
theorem OkW.rbs (h : OkW l) : Rb 3900 (((l.map (·.2)).sum : Int) : Rat) := by
  have hp := h.pos
  have hs := h.sum
  refine rb_int ?_ (by decide)
  refine Bd.mono (a := 30) ?_ (by decide)
  unfold Bd
  have e : (2 : Nat) ^ 30 = 1073741824 := by decide
  rw [e]
  omega
theorem OkW.nes (h : OkW l) : (((l.map (·.2)).sum : Int) : Rat) ≠ 0 := fun z => by
  have := Rat.intCast_pos.mpr h.pos
  rw [z] at this
  exact absurd this (by decide)
theorem OkW.rbw (h : OkW l) {p : T3 × Int} (hp : p ∈ l) : Rb 3900 (p.2 : Rat) := by
  have h0 := h.w0 p hp
  have h1 := h.w1 p hp
  refine rb_int ?_ (by decide)
  refine Bd.mono (a := 30) ?_ (by decide)
  unfold Bd
  have e : (2 : Nat) ^ 30 = 1073741824 := by decide
  rw [e]
  omega
theorem frW {w : Int} : D.tup [.int w, .int 1] = frD (w : Rat) := rfl
/-- the mixed shares of the first n lights -/
def mxs (l : WL) (n : Nat) : List D := (List.range n).map fun i => frD (mixQ i l)
theorem mxs_succ {n : Nat} : mxs l n ++ [frD (mixQ n l)] = mxs l (n + 1) := by
  unfold mxs
  rw [List.range_succ, List.map_append]
  rfl
theorem mixed_ok (h : OkW l) : G_mixed [.lst (l.map fun p => rowT p.1), .tup (l.map fun p => .int p.2)] st = some (.ret (.val (rowT (mixT l))) st) := by
  have hl := h.len
  have ews : (l.map fun p => D.int p.2) = (l.map (·.2)).map D.int := by rw [List.map_map]; rfl
  have key : ∃ v st1, G_mixed [.lst (l.map fun p => rowT p.1), .tup (l.map fun p => .int p.2)] st = some (.ret v st1) ∧ (v = .val (rowT (mixT l)) ∧ st1 = st) := by
    unfold G_mixed
    refine fn_sw (P := fun v s => v = .val (rowT (mixT l)) ∧ s = st) ?_
    have e0 : slots0 7 [D.lst (l.map fun p => rowT p.1), .tup (l.map fun p => .int p.2)] = [.val (.lst (l.map fun p => rowT p.1)), .val (.tup (l.map fun p => .int p.2)), .no, .no, .no, .no, .no] := rfl
    rw [e0]
    refine sw_step (by rwa []; rfl) ?_
    refine sw_seq (sw_forN (fun n r s => (∃ s3 s4 s5 s6, r = [.val (.lst (l.map fun p => rowT p.1)), .val (.tup (l.map fun p => .int p.2)), .own (.lst (mxs l n)), s3, s4, s5, s6]) ∧ s = st) (xs := (List.range 3).map fun i : Nat => D.int (0 + i)) (st1 := st) (by rwa []) ⟨⟨_, _, _, _, rfl⟩, rfl⟩ ?_ ?_)
    · rintro n x r s hx ⟨⟨s3, s4, s5, s6, rfl⟩, rfl⟩
      rw [List.getElem?_map] at hx
      obtain ⟨q, hq1, rfl⟩ := Option.map_eq_some_iff.mp hx
      obtain ⟨hlt, e1⟩ := List.getElem?_eq_some_iff.mp hq1
      rw [List.length_range] at hlt
      have hqn : q = n := by rw [← e1, List.getElem_range]
      subst hqn
      have e3 : (l.map fun p => rowT p.1).length = (l.map fun p => D.int p.2).length := by rw [List.length_map, List.length_map]
      have ec : compL (gTupS [(gVar 5), (gVar 6)]) tTrue (eCall G_mul (argsS [(eOp2 ixV (eVar 5) (eVar 3)), (eTup (argsS [(eVar 6), (eC (.int 1))]))])) (wipeR [.val (.lst (l.map fun p => rowT p.1)), .val (.tup (l.map fun p => .int p.2)), .own (.lst (mxs l q)), .val (.int (0 + (q : Int))), s4, s5, s6] [5, 6]) []
          (l.map fun p => D.tup [rowT p.1, .int p.2]) s = some ((l.map (tm q)).map frD, s) := by
        rw [comp_map (fun p : T3 × Int => D.tup [rowT p.1, .int p.2]) (fun p => frD (tm q p)) l [] ?_ (by have e5 : lim = 16000000 := lim_eq; rw [e5]; simp; omega), List.nil_append, List.map_map]
        · rfl
        · intro p hp
          have o := (h.t p hp).r q
          refine ⟨_, rfl, rfl, ?_⟩
          rwa [wipeR, Int.zero_add, v_row hlt, frW, mulP_ok (o.mono (b := 3900) (by decide)) (h.rbw hp)]
          rfl
      refine ⟨_, _, rfl, ?_⟩
      have rt : ∀ m, m ≤ (l.map (tm q)).length → Rb 3900 (tQ ((l.map (tm q)).take m)) := fun m hm => ((h.sz (n := q) (by rw [List.length_map] at hm; exact hm)).rb (by rw [List.length_map] at hm; omega)).mono (by decide)
      have ed := div_ok (st := s) (((h.all (n := q)).rb hl).mono (b := 3900) (by decide)) h.rbs h.nes
      have et := total_ok (st := s) rt fun z hz => h.rbt hz
      have lt : (mxs l q).length < 16000000 := by
        unfold mxs
        rw [List.length_map, List.length_range]
        omega
      refine sw_step (r1 := [.val (.lst (l.map fun p => rowT p.1)), .val (.tup (l.map fun p => .int p.2)), .own (.lst (mxs l q)), .val (.int (0 + (q : Int))), .own (.lst ((l.map (tm q)).map frD)), s5, s6]) (st1 := s) (by rwa [if_pos e3, zipF_map, ec]) ?_
      refine sw_step (by rwa []; rfl) ?_
      refine sw_eq (o := .nx [.val (.lst (l.map fun p => rowT p.1)), .val (.tup (l.map fun p => .int p.2)), .own (.lst (mxs l q ++ [frD (mixQ q l)])), .val (.int (0 + (q : Int))), .val (.lst ((l.map (tm q)).map frD)), s5, s6] s) (by rwa [et, ews, v_sumT, frW, ed]; exact (if_pos lt).trans rfl) ⟨⟨.val (.int (0 + (q : Int))), .val (.lst ((l.map (tm q)).map frD)), s5, s6, ?_⟩, rfl⟩
      rw [mxs_succ]
    · rintro r2 st2 ⟨⟨s3, s4, s5, s6, rfl⟩, rfl⟩
      exact sw_eq (o := .rt (.val (rowT (mixT l))) st2) (by rwa []; rfl) ⟨rfl, rfl⟩
  obtain ⟨v, s1, e, rfl, rfl⟩ := key
  exact e
theorem are_shades_ok {ts : List T3} {a : Int} (h0 : a ≤ ts.length) (h : ts.length ≤ 60) : G_are_shades [.tup (ts.map shT), .int a, .int 60] st = some (.ret (.val (.bl true)) st) := by
  have ec : compL (gVar 3) tTrue (eOp1 (isC "Shade") (eVar 3)) (wipeR [.val (.tup (ts.map shT)), .val (.int a), .val (.int 60), .no] [3]) [] (ts.map shT) st = some (ts.map fun _ => D.bl true, st) := by
    rw [comp_map shT (fun _ => D.bl true) ts [] ?_ (by have e5 : lim = 16000000 := lim_eq; rw [e5]; simp; omega), List.nil_append]
    intro t ht
    refine ⟨_, rfl, rfl, ?_⟩
    unfold shT
    rwa [wipeR, v_shC]
  have e1 : ((ts.map shT).length : Int) = ts.length := by rw [List.length_map]
  have d1 : decide (a ≤ (ts.length : Int)) = true := decide_eq_true (by omega)
  have d2 : decide ((ts.length : Int) ≤ 60) = true := decide_eq_true (by omega)
  unfold G_are_shades
  rwa [e1, d1, d2, ec, bools_true, all_id]
end
end Tz
namespace Tz
open PySem L2 PyProof.Rows
section
variable {st : Store}
theorem are_weights_ok {ws : List Int} {n : Nat} (hn : n = ws.length) (h : ∀ w, w ∈ ws → 0 ≤ w ∧ w ≤ 1000000) (hl : ws.length ≤ 60) (hp : 0 < ws.sum) : G_are_weights [.tup (ws.map D.int), .int (n : Int)] st = some (.ret (.val (.bl true)) st) := by
  subst hn
  have ec : compL (gVar 2) tTrue (eAndS (eCall G_is_whole (argsS [(eVar 2)])) (eChain leV leV (eC (.int 0)) (eVar 2) (eC (.int 1000000)))) (wipeR [.val (.tup (ws.map D.int)), .val (.int (ws.length : Int)), .no] [2]) [] (ws.map D.int) st = some (ws.map fun _ => D.bl true, st) := by
    rw [comp_map D.int (fun _ => D.bl true) ws [] ?_ (by have e5 : lim = 16000000 := lim_eq; rw [e5]; simp; omega), List.nil_append]
    intro w hw
    obtain ⟨h0, h1⟩ := h w hw
    have d1 : decide (0 ≤ w) = true := decide_eq_true h0
    have d2 : decide (w ≤ 1000000) = true := decide_eq_true h1
    refine ⟨_, rfl, rfl, ?_⟩
    rwa [wipeR, whole_int, d1, d2]
  have e1 : ((ws.map D.int).length : Int) = ws.length := by rw [List.length_map]
  have d3 : decide (0 < ws.sum) = true := decide_eq_true hp
  unfold G_are_weights
  rwa [e1, eq_self, ec, bools_true, all_id, v_sumT, d3]
theorem OkW.fst {l : WL} (h : OkW l) : ∀ t, t ∈ l.map (·.1) → Ok3 64 t := fun t ht => by
  obtain ⟨p, hp, rfl⟩ := List.mem_map.mp ht
  exact h.t p hp
theorem OkW.ne {l : WL} (h : OkW l) : 1 ≤ l.length := by
  cases l with
  | nil => exact absurd h.pos (by decide)
  | cons p l => simp
theorem mix_core {l : WL} (h : OkW l) {s2 : Sl} : SW (sSeq (sIf (tNotS (tVal (eCall G_are_weights (argsS [(eVar 1), (eOp1 lenV (eVar 0))])))) sStuck sNext) (sRet (eCall G_shade_by (argsS [(eCall G_mixed (argsS [(eComp [2] (iExpU (eVar 0)) (gVar 2) tTrue (eCall G_parts_of (argsS [(eVar 2)]))), (eVar 1)]))]))))
    [.val (.tup (l.map fun p => shT p.1)), .val (.tup (l.map fun p => .int p.2)), s2] st fun o => o = .rt (.val (shT (mixT l))) st := by
  have hl := h.len
  have ews : (l.map fun p => D.int p.2) = (l.map (·.2)).map D.int := by rw [List.map_map]; rfl
  have e1 : ((l.map fun p => shT p.1).length : Int) = (l.length : Nat) := by rw [List.length_map]
  have aw := are_weights_ok (st := st) (ws := l.map (·.2)) (n := l.length) (by rw [List.length_map]) (fun w hw => by
    obtain ⟨p, hp, rfl⟩ := List.mem_map.mp hw
    exact ⟨h.w0 p hp, h.w1 p hp⟩) (by rw [List.length_map]; exact hl) h.pos
  have ec : compL (gVar 2) tTrue (eCall G_parts_of (argsS [(eVar 2)])) (wipeR [.val (.tup (l.map fun p => shT p.1)), .val (.tup (l.map fun p => .int p.2)), s2] [2]) [] (l.map fun p => shT p.1) st = some (l.map fun p => rowT p.1, st) := by
    rw [comp_map (fun p : T3 × Int => shT p.1) (fun p => rowT p.1) l [] ?_ (by have e5 : lim = 16000000 := lim_eq; rw [e5]; simp; omega), List.nil_append]
    intro p hp
    refine ⟨_, rfl, rfl, ?_⟩
    unfold shT rowT
    rwa [wipeR, parts_ok]
  refine sw_step (r1 := [.val (.tup (l.map fun p => shT p.1)), .val (.tup (l.map fun p => .int p.2)), s2]) (st1 := st) (by rwa [e1, ews, aw]) ?_
  refine sw_eq (o := .rt (.val (shT (mixT l))) st) ?_ rfl
  have sb := shby_ok (st := st) (h.in1 (n := 0)) (h.in1 (n := 1)) (h.in1 (n := 2))
  have mk : G_mixed [.lst (l.map fun p => rowT p.1), .tup (l.map fun p => .int p.2)] st = some (.ret (.val (.tup [frD (mixQ 0 l), frD (mixQ 1 l), frD (mixQ 2 l)])) st) := mixed_ok h
  show _ = some (SR.rt (.val (shD (mixQ 0 l) (mixQ 1 l) (mixQ 2 l))) st)
  rwa [ec, mk, sb]
theorem mix_ok {l : WL} (h : OkW l) : G_mix [.tup (l.map fun p => shT p.1), .tup (l.map fun p => .int p.2)] st = some (.ret (.val (shT (mixT l))) st) := by
  have hl := h.len
  have hn := h.ne
  have e2 : (l.map fun p => shT p.1) = (l.map (·.1)).map shT := by rw [List.map_map]; rfl
  have as_ := are_shades_ok (st := st) (ts := l.map (·.1)) (a := 1) (by rw [List.length_map]; omega) (by rw [List.length_map]; exact hl)
  have key : ∃ v st1, G_mix [.tup (l.map fun p => shT p.1), .tup (l.map fun p => .int p.2)] st = some (.ret v st1) ∧ (v = .val (shT (mixT l)) ∧ st1 = st) := by
    unfold G_mix
    refine fn_sw (P := fun v s => v = .val (shT (mixT l)) ∧ s = st) ?_
    have e0 : slots0 3 [D.tup (l.map fun p => shT p.1), .tup (l.map fun p => .int p.2)] = [.val (.tup (l.map fun p => shT p.1)), .val (.tup (l.map fun p => .int p.2)), .no] := rfl
    have en : isT st (.val (.tup (l.map fun p => .int p.2))) (.val .non) = some (.val (.bl false)) := rfl
    rw [e0]
    refine sw_step (r1 := [.val (.tup (l.map fun p => shT p.1)), .val (.tup (l.map fun p => .int p.2)), .no]) (st1 := st) (by rwa [e2, as_]) ?_
    refine sw_step (by rwa [en]; rfl) ?_
    obtain ⟨o, q1, q2⟩ := mix_core (st := st) h (s2 := .no)
    subst q2
    exact ⟨_, q1, rfl, rfl⟩
  obtain ⟨v, s1, e, rfl, rfl⟩ := key
  exact e
/-- by alike weights -/
def ones (ts : List T3) : WL := ts.map fun t => (t, 1)
theorem ones_ok {ts : List T3} (h : ∀ t, t ∈ ts → Ok3 64 t) (h1 : 1 ≤ ts.length) (h2 : ts.length ≤ 60) : OkW (ones ts) := by
  have key : ∀ ts : List T3, ((ones ts).map (·.2)).sum = ts.length := by
    intro ts
    induction ts with
    | nil => rfl
    | cons t ts ih =>
      show 1 + ((ones ts).map (·.2)).sum = _
      rw [ih, List.length_cons]
      omega
  refine ⟨fun p hp => ?_, fun p hp => ?_, fun p hp => ?_, by unfold ones; rw [List.length_map]; exact h2, by rw [key]; omega⟩
  all_goals
    obtain ⟨t, ht, rfl⟩ := List.mem_map.mp hp
  · exact h t ht
  · show (0 : Int) ≤ 1
    decide
  · show (1 : Int) ≤ 1000000
    decide
theorem ones_1 {ts : List T3} : ((ones ts).map fun p => shT p.1) = ts.map shT := by
  unfold ones
  rw [List.map_map]
  rfl
theorem ones_2 {ts : List T3} : ((ones ts).map fun p => D.int p.2) = List.replicate ts.length (D.int 1) := by
  unfold ones
  induction ts with
  | nil => rfl
  | cons t ts ih =>
    rw [List.length_cons, List.replicate_succ, ← ih]
    rfl
theorem mixN_ok {ts : List T3} (h : ∀ t, t ∈ ts → Ok3 64 t) (h1 : 1 ≤ ts.length) (h2 : ts.length ≤ 60) : G_mix [.tup (ts.map shT), .non] st = some (.ret (.val (shT (mixT (ones ts)))) st) := by
  have as_ := are_shades_ok (st := st) (ts := ts) (a := 1) (by omega) h2
  have key : ∃ v st1, G_mix [.tup (ts.map shT), .non] st = some (.ret v st1) ∧ (v = .val (shT (mixT (ones ts))) ∧ st1 = st) := by
    unfold G_mix
    refine fn_sw (P := fun v s => v = .val (shT (mixT (ones ts))) ∧ s = st) ?_
    have e0 : slots0 3 [D.tup (ts.map shT), .non] = [.val (.tup (ts.map shT)), .val .non, .no] := rfl
    have en : isT st (.val .non) (.val .non) = some (.val (.bl true)) := rfl
    have e1 : ((ts.map shT).length : Int) = (ts.length : Nat) := by rw [List.length_map]
    rw [e0]
    refine sw_step (r1 := [.val (.tup (ts.map shT)), .val .non, .no]) (st1 := st) (by rwa [as_]) ?_
    refine sw_step (r1 := [.val (.tup (ts.map shT)), .val (.tup (List.replicate ts.length (.int 1))), .no]) (st1 := st) (by rwa [en, e1, v_repN h1 (show ts.length ≤ 1000 by omega)]) ?_
    rw [← ones_2, ← ones_1]
    obtain ⟨o, q1, q2⟩ := mix_core (st := st) (ones_ok h h1 h2) (s2 := .no)
    subst q2
    exact ⟨_, q1, rfl, rfl⟩
  obtain ⟨v, s1, e, rfl, rfl⟩ := key
  exact e
end
end Tz

set_option Elab.async false
set_option linter.all false
set_option maxRecDepth 100000
set_option maxHeartbeats 4000000
namespace Tz
open PySem L2 PyProof.Rows
def topS (i : Nat) : Stmt := (PySem.Challenge.pw_lightshares_k12_mixes_by_weights.main.body).getD i (.Pass ⟨0, 0, 0, 0⟩)
noncomputable def G_law_plain_share : FSem := fnS 1
  (sRet (eCall G_law_low (argsS [(eCall G_law_pick (argsS [(eVar 0), (eC (.int 61))])), (eC (.int 60))])))
noncomputable def G_law_rows : FSem := fnS 7
  (sSeq (sAsg (eLst (argsS [])) (gVar 2)) (sSeq (sFor (iRange1 (eVar 1)) (gVar 3) (sSeq (sAsg (eIf (tBool (eOp2 ltV (eVar 3) (eC (.int 3)))) (eCall G_law_shares (argsS [(eVar 0)])) (eOp1 tupV (eComp [6] (iRange1 (eC (.int 3))) (gVar 6) tTrue (eCall G_law_plain_share (argsS [(eVar 0)]))))) (gVar 4)) (sSeq (sAsg (eCall G_law_pick (argsS [(eVar 0), (eC (.int 6))])) (gVar 5)) (sSeq (sIf (tAndS (tBool (eOp2 eqT (eVar 5) (eC (.int 1)))) (tBool (eOp2 neT (eVar 2) (eLst (argsS []))))) (sAsg (eOp2 ixV (eVar 2) (eCall G_law_pick (argsS [(eVar 0), (eOp1 lenV (eVar 2))]))) (gVar 4)) sNext) (sAppend 2 (eVar 4)))))) (sRetV 2)))
noncomputable def G_law_shade : FSem := fnS 2
  (sSeq (sIf (tBool (eOp2 eqT (eVar 1) (eC (.int 1)))) (sRet (eCall (mkF "Shade" (bnd 1 [] [.p 0, .k 1, .k 2, .k 0] G_Shade_init)) (argsS [(eOp2 ixV (eVar 0) (eC (.int 2))), (eOp2 ixV (eVar 0) (eC (.int 0))), (eOp2 ixV (eVar 0) (eC (.int 1)))]))) sNext) (sRet (eCall (mkF "Shade" (bnd 4 [] [.p 0, .p 1, .p 2, .p 3] G_Shade_init)) (argsS [(eOp2 ixV (eVar 0) (eC (.int 0))), (eOp2 ixV (eVar 0) (eC (.int 1))), (eOp2 ixV (eVar 0) (eC (.int 2)))]))))
noncomputable def G_law_weights : FSem := fnS 5
  (sSeq (sAsg (eOp2 ixV (eLst (argsS [(eC (.int 2)), (eC (.int 10)), (eC (.int 1000001))])) (eCall G_law_pick (argsS [(eVar 0), (eC (.int 3))]))) (gVar 2)) (sSeq (sAsg (eComp [4] (iRange1 (eVar 1)) (gVar 4) tTrue (eCall G_law_pick (argsS [(eVar 0), (eVar 2)]))) (gVar 3)) (sSeq (sIf (tBool (eOp2 eqT (eOp1 sumW (eVar 3)) (eC (.int 0)))) (sSetIx 3 (eCall G_law_pick (argsS [(eVar 0), (eVar 1)])) (eOp2 subV (eVar 2) (eC (.int 1)))) sNext) (sRet (eOp1 tupV (eVar 3))))))
noncomputable def G_law_mixed : FSem := fnS 7
  (sSeq (sAsg (eLst (argsS [])) (gVar 2)) (sSeq (sFor (iRange1 (eC (.int 3))) (gVar 3) (sSeq (sAsg (eTup (argsS [(eC (.int 0)), (eC (.int 1))])) (gVar 4)) (sSeq (sFor (iZipM (eVar 0) (eVar 1)) (gTupS [(gVar 5), (gVar 6)]) (sAsg (eCall G_law_plus (argsS [(eVar 4), (eCall G_law_times (argsS [(eOp2 ixV (eVar 5) (eVar 3)), (eTup (argsS [(eVar 6), (eC (.int 1))]))]))])) (gVar 4))) (sAppend 2 (eCall G_law_over (argsS [(eVar 4), (eTup (argsS [(eOp1 sumW (eVar 1)), (eC (.int 1))]))])))))) (sRet (eOp1 tupV (eVar 2)))))
noncomputable def G_law_asked : FSem := fnS 3
  (sSeq (sIf (tAndS (tBool (eOp2 isT (eVar 1) (eC .non))) (tBool (eOp2 eqT (eVar 2) (eC (.int 0))))) (sRet (eCall (bnd 1 [.non] [.p 0, .d 0] G_mix) (argsS [(eVar 0)]))) sNext) (sSeq (sIf (tAndS (tBool (eOp2 isT (eVar 1) (eC .non))) (tBool (eOp2 eqT (eVar 2) (eC (.int 1))))) (sRet (eCall (bnd 0 [.non] [.k 0, .d 0] G_mix) (argsS [(eVar 0)]))) sNext) (sSeq (sIf (tBool (eOp2 ltV (eVar 2) (eC (.int 3)))) (sRet (eCall (bnd 2 [.non] [.p 0, .p 1] G_mix) (argsS [(eVar 0), (eVar 1)]))) sNext) (sRet (eCall (bnd 0 [.non] [.k 1, .k 0] G_mix) (argsS [(eVar 1), (eVar 0)]))))))
noncomputable def G_law_got : FSem := fnS 3
  (sSeq (sIf (tNotS (tVal (eOp1 (isC "Shade") (eVar 0)))) (sRet (eTup (argsS []))) sNext) (sSeq (sAsg (eTup (argsS [(eOp1 (fldV ["Shade"] "ember") (eVar 0)), (eOp1 (fldV ["Shade"] "leaf") (eVar 0)), (eOp1 (fldV ["Shade"] "sky") (eVar 0))])) (gVar 1)) (sRet (eIf (tVal (eOp1 allV (eComp [2] (iExpU (eVar 1)) (gVar 2) tTrue (eCall G_law_is_fraction (argsS [(eVar 2)]))))) (eVar 1) (eTup (argsS []))))))
noncomputable def G_law : FSem := fnS 13
  (sSeq (sFor (iRange1 (eOp2 max2V (eC (.int 2)) (eOp2 min2V (eOp1 lenV (eVar 0)) (eC (.int 4))))) (gVar 1) (sSeq (sAsg (eCall G_law_purse (argsS [(eCall G_law_cell (argsS [(eVar 0), (eVar 1)]))])) (gVar 2)) (sSeq (sPar2 3 4 (eCall G_law_pick (argsS [(eVar 2), (eC (.int 4))])) (eCall G_law_pick (argsS [(eVar 2), (eC (.int 8))]))) (sSeq (sAsg (eOp2 addV (eC (.int 1)) (eCall G_law_pick (argsS [(eVar 2), (eOp2 ixV (eLst (argsS [(eC (.int 6)), (eC (.int 60))])) (eOp1 intV (eOp2 (eqO [("Shade", G_Shade_eq)]) (eVar 4) (eC (.int 3)))))]))) (gVar 5)) (sSeq (sAsg (eCall G_law_rows (argsS [(eVar 2), (eVar 5)])) (gVar 6)) (sSeq (sAsg (eOp1 tupV (eComp [11] (iExpU (eVar 6)) (gVar 11) tTrue (eCall G_law_shade (argsS [(eVar 11), (eCall G_law_pick (argsS [(eVar 2), (eC (.int 2))]))])))) (gVar 7)) (sSeq (sAsg (eIf (tBool (eOp2 (eqO [("Shade", G_Shade_eq)]) (eCall G_law_pick (argsS [(eVar 2), (eC (.int 4))])) (eC (.int 1)))) (eC .non) (eCall G_law_weights (argsS [(eVar 2), (eVar 5)]))) (gVar 8)) (sSeq (sSeq (sFreeze 6) (sAsg (eCall G_law_mixed (argsS [(eVar 6), (eIf (tBool (eOp2 isT (eVar 8) (eC .non))) (eOp2 mulT (eTup (argsS [(eC (.int 1))])) (eVar 5)) (eVar 8))])) (gVar 9))) (sSeq (sAsg (eCall G_law_asked (argsS [(eVar 7), (eVar 8), (eVar 3)])) (gVar 10)) (sSeq (sIf (tOrS (tBool (eOp2 (neO [("Shade", G_Shade_eq)]) (eCall G_law_got (argsS [(eVar 10)])) (eVar 9))) (tBool (eOp2 (neO [("Shade", G_Shade_eq)]) (eCall G_law_got (argsS [(eCall G_law_asked (argsS [(eVar 7), (eVar 8), (eC (.int 3))]))])) (eVar 9)))) (sRet (eC (.bl false))) sNext) (sSeq (sIf (tOrS (tNotS (tBool (eOp2 (eqO [("Shade", G_Shade_eq)]) (eVar 10) (eCall G_law_shade (argsS [(eVar 9), (eC (.int 0))]))))) (tBool (eOp2 (notInO [("Shade", G_Shade_eq)]) (eCall G_law_shade (argsS [(eVar 9), (eC (.int 1))])) (eLst (argsS [(eVar 10)]))))) (sRet (eC (.bl false))) sNext) (sIf (tBool (eOp2 (neO [("Shade", G_Shade_eq)]) (eComp [12] (iExpU (eVar 7)) (gVar 12) tTrue (eCall G_law_got (argsS [(eVar 12)]))) (eVar 6))) (sRet (eC (.bl false))) sNext)))))))))))) (sRet (eC (.bl true))))
end Tz

set_option Elab.async false
set_option linter.all false
set_option maxRecDepth 100000
set_option maxHeartbeats 400000
namespace Tz
open PySem L2 PyProof.Rows
section
variable {k : Nat} {d : D} {pre post : Store} {st : Store}
theorem lplain_ok (h : Pu k d) (hk : k < 2 ^ 50) : ∃ q d', G_law_plain_share [.ref pre.length] (pre ++ d :: post) = some (.ret (.val (frD q)) (pre ++ d' :: post)) ∧ In1 q ∧ Rb 64 q ∧ Pu (k + 1) d' := by
  have hk : k < 1125899906842624 := hk
  have k60 : (2 : Nat) ^ 60 = 1152921504606846976 := by decide
  obtain ⟨t, d1, e1, a1, b1, p1⟩ := pick_ok (pre := pre) (post := post) (m := 61) h (by omega) (by decide) (bd_lit (by decide))
  have hb : Bd 64 t := by
    unfold Bd
    have : (2 : Nat) ^ 64 = 18446744073709551616 := by decide
    omega
  have h60 : Bd 64 (60 : Int) := by
    unfold Bd
    decide
  refine ⟨Rat.divInt t 60, d1, ?_, in1_div a1 (by omega) (by decide), rb_div (by decide) hb h60, p1⟩
  unfold G_law_plain_share
  rwa [e1, low_ok (a := t) (b := 60) (by decide) (hb.mono (by decide)) (h60.mono (by decide))]
theorem ok3 {a b c : Rat} (i1 : In1 a) (i2 : In1 b) (i3 : In1 c) {j : Nat} (r1 : Rb j a) (r2 : Rb j b) (r3 : Rb j c) : Ok3 j (a, b, c) := by
  refine ⟨fun n => ?_, fun n => ?_⟩
  · match n with
    | 0 => exact i1
    | 1 => exact i2
    | n + 2 => exact i3
  · match n with
    | 0 => exact r1
    | 1 => exact r2
    | n + 2 => exact r3
theorem dOks_row {n : Nat} : ∀ ts : List T3, dOks (n + 2) (ts.map rowT) = true
  | [] => rfl
  | t :: ts => by
    rw [List.map_cons, z_dOksC, dOks_row ts]
    rfl
theorem dEq_row {t u : T3} : dEq (rowT t) (rowT u) = true ↔ t = u := by
  obtain ⟨a, b, c⟩ := t
  obtain ⟨x, y, z⟩ := u
  show (dEq (frD a) (frD x) && (dEq (frD b) (frD y) && (dEq (frD c) (frD z) && true))) = true ↔ _
  rw [z_dEqF, z_dEqF, z_dEqF]
  simp
theorem dEqs_row : ∀ ts : List T3, dEqs (ts.map rowT) (ts.map rowT) = true
  | [] => rfl
  | t :: ts => by
    rw [List.map_cons, z_dEqsC, dEqs_row ts, dEq_row.mpr rfl]
    rfl
theorem v_neL0 {ts : List T3} : neT st (.peek (.lst (ts.map rowT))) (.fresh (.lst [])) = some (.val (.bl (!decide (ts = [])))) := by
  have e : eqT st (.peek (.lst (ts.map rowT))) (.fresh (.lst [])) = if dOks 15 (ts.map rowT) = true ∧ dOks 15 [] = true then some (.val (.bl (dEqs (ts.map rowT) []))) else none := rfl
  unfold neT
  rw [e, if_pos ⟨dOks_row ts, rfl⟩]
  cases ts with
  | nil => rfl
  | cons t ts => rfl
theorem rows_ok (h : Pu k d) (hk : k < 2 ^ 48) {n : Nat} (hn : n ≤ 60) : ∃ (ts : List T3) (d' : D), G_law_rows [.ref pre.length, .int (n : Int)] (pre ++ d :: post) = some (.ret (.fresh (.lst (ts.map rowT))) (pre ++ d' :: post)) ∧ ts.length = n ∧ (∀ t, t ∈ ts → Ok3 64 t) ∧ Pu (k + 20 * n) d' := by
  have hk : k < 281474976710656 := hk
  have k60 : (2 : Nat) ^ 60 = 1152921504606846976 := by decide
  have k49 : (2 : Nat) ^ 49 = 562949953421312 := by decide
  have k50 : (2 : Nat) ^ 50 = 1125899906842624 := by decide
  have key : ∃ v st1, G_law_rows [.ref pre.length, .int (n : Int)] (pre ++ d :: post) = some (.ret v st1) ∧ (∃ (ts : List T3) (d' : D), v = .fresh (.lst (ts.map rowT)) ∧ st1 = pre ++ d' :: post ∧ ts.length = n ∧ (∀ t, t ∈ ts → Ok3 64 t) ∧ Pu (k + 20 * n) d') := by
    unfold G_law_rows
    refine fn_sw (P := fun v st1 => ∃ (ts : List T3) (d' : D), v = .fresh (.lst (ts.map rowT)) ∧ st1 = pre ++ d' :: post ∧ ts.length = n ∧ (∀ t, t ∈ ts → Ok3 64 t) ∧ Pu (k + 20 * n) d') ?_
    have e0 : slots0 7 [D.ref pre.length, .int (n : Int)] = [.val (.ref pre.length), .val (.int (n : Int)), .no, .no, .no, .no, .no] := rfl
    rw [e0]
    refine sw_step (by rwa []; rfl) ?_
    refine sw_seq (sw_forN (fun m r s => ∃ (ts : List T3) (d' : D) (s3 s4 s5 s6 : Sl), r = [.val (.ref pre.length), .val (.int (n : Int)), .own (.lst (ts.map rowT)), s3, s4, s5, s6] ∧ s = pre ++ d' :: post ∧ ts.length = m ∧ (∀ t, t ∈ ts → Ok3 64 t) ∧ Pu (k + 20 * m) d')
      (xs := (List.range n).map fun i : Nat => D.int (0 + i)) (st1 := pre ++ d :: post) (by rwa [v_rngD (show (-4611686018427387904 : Int) ≤ (n : Int) by omega) (show (n : Int) < 4611686018427387904 by omega), Int.toNat_natCast]) ⟨[], d, _, _, _, _, rfl, rfl, rfl, fun t ht => absurd ht (by simp), h⟩ ?_ ?_)
    · rintro m x r s hx ⟨ts, d0, s3, s4, s5, s6, rfl, rfl, hl, ht, hp⟩
      rw [List.getElem?_map] at hx
      obtain ⟨q, hq1, rfl⟩ := Option.map_eq_some_iff.mp hx
      obtain ⟨hlt, e1⟩ := List.getElem?_eq_some_iff.mp hq1
      rw [List.length_range] at hlt
      have hqn : q = m := by rw [← e1, List.getElem_range]
      subst hqn
      refine ⟨_, _, rfl, ?_⟩
      obtain ⟨t, d1, es, ot, p1⟩ : ∃ (t : T3) (d1 : D), (eIf (tBool (eOp2 ltV (eVar 3) (eC (.int 3)))) (eCall G_law_shares (argsS [(eVar 0)])) (eOp1 tupV (eComp [6] (iRange1 (eC (.int 3))) (gVar 6) tTrue (eCall G_law_plain_share (argsS [(eVar 0)])))))
          [.val (.ref pre.length), .val (.int (n : Int)), .own (.lst (ts.map rowT)), .val (.int (0 + (q : Int))), s4, s5, s6] (pre ++ d0 :: post) = some (.ok (.val (rowT t)) (pre ++ d1 :: post)) ∧ Ok3 64 t ∧ Pu (k + 20 * q + 11) d1 := by
        by_cases h3 : (q : Int) < 3
        · obtain ⟨a, b, c, d1, e2, ⟨i1, i2, i3⟩, ⟨r1, r2, r3⟩, p1⟩ := sharesD_ok (pre := pre) (post := post) hp (by omega)
          refine ⟨(a, b, c), d1, ?_, ok3 i1 i2 i3 r1 r2 r3, p1⟩
          rwa [Int.zero_add, decide_eq_true h3, e2]
          rfl
        · obtain ⟨a, d1, e2, i1, r1, p1⟩ := lplain_ok (pre := pre) (post := post) hp (by omega)
          obtain ⟨b, d2, e3, i2, r2, p2⟩ := lplain_ok (pre := pre) (post := post) p1 (by omega)
          obtain ⟨c, d3, e4, i3, r3, p3⟩ := lplain_ok (pre := pre) (post := post) p2 (by omega)
          refine ⟨(a, b, c), d3, ?_, ok3 i1 i2 i3 r1 r2 r3, p3.le (by omega)⟩
          rwa [Int.zero_add, decide_eq_false h3, range3, compL, wipeR, e2, e3, e4]
          rfl
      obtain ⟨v, d2, e2, v0, v1, p2⟩ := pick_ok (pre := pre) (post := post) (m := 6) p1 (by omega) (by decide) (bd_lit (by decide))
      refine sw_step (r1 := [.val (.ref pre.length), .val (.int (n : Int)), .own (.lst (ts.map rowT)), .val (.int (0 + (q : Int))), .val (rowT t), s5, s6]) (st1 := pre ++ d1 :: post) (by rw [x_sAsg]; simp only [List.set_cons_succ, List.set_cons_zero, es]; rfl) ?_
      refine sw_step (by rwa [e2]; rfl) ?_
      have fin : ∀ (t : T3) (d3 : D), Ok3 64 t → Pu (k + 20 * (q + 1)) d3 → SW (sAppend 2 (eVar 4)) [.val (.ref pre.length), .val (.int (n : Int)), .own (.lst (ts.map rowT)), .val (.int (0 + (q : Int))), .val (rowT t), .val (.int v), s6] (pre ++ d3 :: post) fun o => match o with
          | .nx r2 st2 => ∃ (ts : List T3) (d' : D) (s3 s4 s5 s6 : Sl), r2 = [.val (.ref pre.length), .val (.int (n : Int)), .own (.lst (ts.map rowT)), s3, s4, s5, s6] ∧ st2 = pre ++ d' :: post ∧ ts.length = q + 1 ∧ (∀ t, t ∈ ts → Ok3 64 t) ∧ Pu (k + 20 * (q + 1)) d'
          | .ct r2 st2 => ∃ (ts : List T3) (d' : D) (s3 s4 s5 s6 : Sl), r2 = [.val (.ref pre.length), .val (.int (n : Int)), .own (.lst (ts.map rowT)), s3, s4, s5, s6] ∧ st2 = pre ++ d' :: post ∧ ts.length = q + 1 ∧ (∀ t, t ∈ ts → Ok3 64 t) ∧ Pu (k + 20 * (q + 1)) d'
          | .bk r2 st2 => False
          | o => False := by
        intro t d3 o3 p3
        have lt : (ts.map rowT).length < 16000000 := by
          rw [List.length_map]
          omega
        refine sw_eq (o := .nx [.val (.ref pre.length), .val (.int (n : Int)), .own (.lst (ts.map rowT ++ [rowT t])), .val (.int (0 + (q : Int))), .val (rowT t), .val (.int v), s6] (pre ++ d3 :: post)) (by rwa []; exact (if_pos lt).trans rfl) ⟨ts ++ [t], d3, _, _, _, _, by rw [List.map_append]; rfl, rfl, by rw [List.length_append]; simp; omega, fun u hu => ?_, p3⟩
        rcases List.mem_append.mp hu with hu | hu
        · exact ht u hu
        · rw [List.mem_singleton.mp hu]
          exact o3
      have wk : ∀ {a : SSem} {r : Rho} {s : Store} {Q Q' : SR → Prop}, SW a r s Q → (∀ o, Q o → Q' o) → SW a r s Q' := fun ⟨o, a1, a2⟩ f => ⟨o, a1, f o a2⟩
      by_cases hc : v = 1 ∧ ts ≠ []
      · obtain ⟨hv, hts⟩ := hc
        have hlen : 0 < ts.length := List.length_pos_iff.mpr hts
        obtain ⟨j, d3, e3, j0, j1, p3⟩ := pick_ok (pre := pre) (post := post) (m := (ts.length : Int)) p2 (by omega) (by omega) (by
          refine Bd.mono (a := 64) ?_ (by decide)
          unfold Bd
          have : (2 : Nat) ^ 64 = 18446744073709551616 := by decide
          omega)
        obtain ⟨i, rfl⟩ : ∃ i : Nat, j = (i : Int) := ⟨j.toNat, by omega⟩
        have hi : i < ts.length := by omega
        have ea : L2.atI (ts.map rowT) (i : Int) = some (rowT ts[i]) := at_nat (by rw [List.getElem?_map, List.getElem?_eq_getElem hi]; rfl)
        have el : ((ts.map rowT).length : Int) = (ts.length : Nat) := by rw [List.length_map]
        have h5 : decide (ts = []) = false := decide_eq_false hts
        refine sw_step (r1 := [.val (.ref pre.length), .val (.int (n : Int)), .own (.lst (ts.map rowT)), .val (.int (0 + (q : Int))), .val (rowT ts[i]), .val (.int v), s6]) (st1 := pre ++ d3 :: post) (by rwa [decide_eq_true hv, v_neL0, h5, el, e3, ea]) ?_
        obtain ⟨o, a1, a2⟩ := fin ts[i] d3 (ht _ (List.getElem_mem hi)) (p3.le (by omega))
        refine ⟨o, a1, ?_⟩
        cases o <;> first | exact a2 | exact a2.elim
      · have hb : decide (v = 1) = false ∨ (decide (v = 1) = true ∧ decide (ts = []) = true) := by
          by_cases hv : v = 1
          · exact .inr ⟨decide_eq_true hv, decide_eq_true (Classical.not_not.mp fun z => hc ⟨hv, z⟩)⟩
          · exact .inl (decide_eq_false hv)
        refine sw_step (r1 := [.val (.ref pre.length), .val (.int (n : Int)), .own (.lst (ts.map rowT)), .val (.int (0 + (q : Int))), .val (rowT t), .val (.int v), s6]) (st1 := pre ++ d2 :: post) (by
          rcases hb with hb | ⟨hb, hb2⟩
          · rwa [hb]
          · rwa [hb, v_neL0, hb2]) ?_
        obtain ⟨o, a1, a2⟩ := fin t d2 ot (p2.le (by omega))
        refine ⟨o, a1, ?_⟩
        cases o <;> first | exact a2 | exact a2.elim
    · rintro r2 st2 ⟨ts, d', s3, s4, s5, s6, rfl, rfl, hl, ht, hp⟩
      rw [List.length_map, List.length_range] at hl hp
      exact sw_eq (o := .rt (.fresh (.lst (ts.map rowT))) (pre ++ d' :: post)) (by rwa []) ⟨ts, d', rfl, rfl, hl, ht, hp⟩
  obtain ⟨v, s1, e, ts, d', rfl, rfl, hl, ht, hp⟩ := key
  exact ⟨ts, d', e, hl, ht, hp⟩
theorem lshade_ok {t : T3} {j : Nat} (h : Ok3 j t) {w : Int} : G_law_shade [rowT t, .int w] st = some (.ret (.val (shT t)) st) := by
  have i1 : In1 t.1 := h.i 0
  have i2 : In1 t.2.1 := h.i 1
  have i3 : In1 t.2.2 := h.i 2
  have x0 : ixV st (.val (rowT t)) (.val (.int 0)) = some (.val (frD t.1)) := rfl
  have x1 : ixV st (.val (rowT t)) (.val (.int 1)) = some (.val (frD t.2.1)) := rfl
  have x2 : ixV st (.val (rowT t)) (.val (.int 2)) = some (.val (frD t.2.2)) := rfl
  unfold G_law_shade
  by_cases hw : w = 1
  · rwa [decide_eq_true hw, x0, x1, x2, mkK_ok i1 i2 i3]
    rfl
  · rwa [decide_eq_false hw, x0, x1, x2, mk_ok i1 i2 i3]
    rfl
theorem lfrac8_ok {q : Rat} (h : Rb 3900 q) : G_law_is_fraction [frD q] st = some (.ret (.val (.bl true)) st) := by
  have hd : 0 < (q.den : Int) := by have := q.den_pos; omega
  have n1 := h.1.mono (b := 8000) (by decide)
  have n2 := h.2.mono (b := 8000) (by decide)
  have hz : (q.den : Int) ≠ 0 := by omega
  unfold G_law_is_fraction
  rwa [whole_int, decide_eq_true hd, low_ok hz n1 n2, Rat.num_divInt_den]
theorem got_ok {t : T3} (h : Ok3 3900 t) : G_law_got [shT t] st = some (.ret (.val (rowT t)) st) := by
  have r1 := lfrac8_ok (st := st) (h.r 0)
  have r2 := lfrac8_ok (st := st) (h.r 1)
  have r3 := lfrac8_ok (st := st) (h.r 2)
  obtain ⟨a, b, c⟩ := t
  have r1 : G_law_is_fraction [frD a] st = _ := r1
  have r2 : G_law_is_fraction [frD b] st = _ := r2
  have r3 : G_law_is_fraction [frD c] st = _ := r3
  unfold G_law_got shT rowT
  rwa [v_shC, compL, wipeR, r1, r2, r3]
theorem lover_ok {a b : Rat} (h1 : Rb 3900 a) (h2 : Rb 3900 b) (hb : b ≠ 0) : G_law_over [frD a, frD b] st = some (.ret (.val (frD (a / b))) st) := by
  have g1 := h1.1
  have g2 := h1.2
  have g3 := h2.1
  have g4 := h2.2
  have n1 : Bd 8000 (a.num * b.den) := (g1.mul g4).mono (by decide)
  have n2 : Bd 8000 ((a.den : Int) * b.num) := (g2.mul g3).mono (by decide)
  have hn : (a.den : Int) * b.num ≠ 0 := Int.mul_ne_zero (by have := a.den_pos; omega) (fun z => hb (Rat.num_eq_zero.mp z))
  unfold G_law_over
  rwa [low_ok hn n1 n2, div_div hb]
theorem lmixed_ok {l : WL} (h : OkW l) : G_law_mixed [.lst (l.map fun p => rowT p.1), .tup (l.map fun p => .int p.2)] st = some (.ret (.val (rowT (mixT l))) st) := by
  have hl := h.len
  have ews : (l.map fun p => D.int p.2) = (l.map (·.2)).map D.int := by rw [List.map_map]; rfl
  have key : ∃ v st1, G_law_mixed [.lst (l.map fun p => rowT p.1), .tup (l.map fun p => .int p.2)] st = some (.ret v st1) ∧ (v = .val (rowT (mixT l)) ∧ st1 = st) := by
    unfold G_law_mixed
    refine fn_sw (P := fun v s => v = .val (rowT (mixT l)) ∧ s = st) ?_
    have e0 : slots0 7 [D.lst (l.map fun p => rowT p.1), .tup (l.map fun p => .int p.2)] = [.val (.lst (l.map fun p => rowT p.1)), .val (.tup (l.map fun p => .int p.2)), .no, .no, .no, .no, .no] := rfl
    rw [e0]
    refine sw_step (by rwa []; rfl) ?_
    refine sw_seq (sw_forN (fun n r s => (∃ s3 s4 s5 s6, r = [.val (.lst (l.map fun p => rowT p.1)), .val (.tup (l.map fun p => .int p.2)), .own (.lst (mxs l n)), s3, s4, s5, s6]) ∧ s = st) (xs := (List.range 3).map fun i : Nat => D.int (0 + i)) (st1 := st) (by rwa []) ⟨⟨_, _, _, _, rfl⟩, rfl⟩ ?_ ?_)
    · rintro n x r s hx ⟨⟨s3, s4, s5, s6, rfl⟩, rfl⟩
      rw [List.getElem?_map] at hx
      obtain ⟨q, hq1, rfl⟩ := Option.map_eq_some_iff.mp hx
      obtain ⟨hlt, e1⟩ := List.getElem?_eq_some_iff.mp hq1
      rw [List.length_range] at hlt
      have hqn : q = n := by rw [← e1, List.getElem_range]
      subst hqn
      have ed := lover_ok (st := s) (((h.all (n := q)).rb hl).mono (b := 3900) (by decide)) h.rbs h.nes
      have lt : (mxs l q).length < 16000000 := by
        unfold mxs
        rw [List.length_map, List.length_range]
        omega
      refine ⟨_, _, rfl, ?_⟩
      refine sw_step (by rwa [fr0]; rfl) ?_
      refine sw_seq (sw_forN (fun m r s' => (∃ s5 s6, r = [.val (.lst (l.map fun p => rowT p.1)), .val (.tup (l.map fun p => .int p.2)), .own (.lst (mxs l q)), .val (.int (0 + (q : Int))), .val (frD (tQ ((l.map (tm q)).take m))), s5, s6]) ∧ s' = s)
        (xs := l.map fun p => D.tup [rowT p.1, .int p.2]) (st1 := s) (by rwa [zipF_map]) ⟨⟨_, _, rfl⟩, rfl⟩ ?_ ?_)
      · rintro m x r s' hx ⟨⟨s5, s6, rfl⟩, rfl⟩
        rw [List.getElem?_map] at hx
        obtain ⟨p, hp1, rfl⟩ := Option.map_eq_some_iff.mp hx
        have hm := (List.getElem?_eq_some_iff.mp hp1).1
        have hp : p ∈ l := List.mem_of_getElem? hp1
        have o := (h.t p hp).r q
        have et : (l.map (tm q)).take (m + 1) = (l.map (tm q)).take m ++ [tm q p] := by
          rw [List.take_succ, List.getElem?_map, hp1]
          rfl
        have lp := lplus_ok (st := s') (((h.sz (n := q) (m := m) (by omega)).rb (by omega)).mono (b := 3900) (by decide)) (h.rbt (List.mem_map_of_mem (f := tm q) hp))
        have lt_ := ltimes_ok (st := s') (o.mono (b := 4000) (by decide)) ((h.rbw hp).mono (b := 4000) (by decide))
        have lt_ : G_law_times [frD (sel q p.1), frD (p.2 : Rat)] s' = some (.ret (.val (frD (tm q p))) s') := lt_
        refine ⟨_, _, rfl, ?_⟩
        refine sw_eq (o := .nx [.val (.lst (l.map fun p => rowT p.1)), .val (.tup (l.map fun p => .int p.2)), .own (.lst (mxs l q)), .val (.int (0 + (q : Int))), .val (frD (tQ ((l.map (tm q)).take m) + tm q p)), .val (rowT p.1), .val (.int p.2)] s') (by rwa [Int.zero_add, v_row hlt, frW, lt_, lp]) ⟨⟨.val (rowT p.1), .val (.int p.2), ?_⟩, rfl⟩
        rw [et, tQ_snoc]
      · rintro r2 st2 ⟨⟨s5, s6, rfl⟩, rfl⟩
        have e : (l.map fun p => D.tup [rowT p.1, .int p.2]).length = (l.map (tm q)).length := by rw [List.length_map, List.length_map]
        rw [e, List.take_length]
        refine sw_eq (o := .nx [.val (.lst (l.map fun p => rowT p.1)), .val (.tup (l.map fun p => .int p.2)), .own (.lst (mxs l q ++ [frD (mixQ q l)])), .val (.int (0 + (q : Int))), .val (frD (tQ (l.map (tm q)))), s5, s6] st2) (by rwa [ews, v_sumT, frW, ed]; exact (if_pos lt).trans rfl) ⟨⟨.val (.int (0 + (q : Int))), .val (frD (tQ (l.map (tm q)))), s5, s6, ?_⟩, rfl⟩
        rw [mxs_succ]
    · rintro r2 st2 ⟨⟨s3, s4, s5, s6, rfl⟩, rfl⟩
      exact sw_eq (o := .rt (.val (rowT (mixT l))) st2) (by rwa []; rfl) ⟨rfl, rfl⟩
  obtain ⟨v, s1, e, rfl, rfl⟩ := key
  exact e
end
end Tz

set_option Elab.async false
set_option linter.all false
set_option maxRecDepth 100000
set_option maxHeartbeats 400000
namespace Tz
open PySem L2 PyProof.Rows
section
variable {k : Nat} {d : D} {pre post : Store} {st : Store}
theorem sum_pos : ∀ {ws : List Int} {v : Int}, (∀ w, w ∈ ws → 0 ≤ w ∧ w ≤ 1000000) → v ∈ ws → 0 < v → 0 < ws.sum
  | w :: ws, v, h, hm, hv => by
    have a := h w List.mem_cons_self
    have b := (sum_bd (ws := ws) fun x hx => h x (List.mem_cons_of_mem _ hx)).1
    rw [List.sum_cons]
    rcases List.mem_cons.mp hm with e | hm
    · omega
    · have := sum_pos (fun x hx => h x (List.mem_cons_of_mem _ hx)) hm hv
      omega
theorem lweights_ok (h : Pu k d) (hk : k < 2 ^ 48) {n : Nat} (h1 : 1 ≤ n) (hn : n ≤ 60) : ∃ (ws : List Int) (d' : D), G_law_weights [.ref pre.length, .int (n : Int)] (pre ++ d :: post) = some (.ret (.val (.tup (ws.map D.int))) (pre ++ d' :: post)) ∧ ws.length = n ∧ (∀ w, w ∈ ws → 0 ≤ w ∧ w ≤ 1000000) ∧ 0 < ws.sum ∧ Pu (k + (n + 2)) d' := by
  have hk : k < 281474976710656 := hk
  have k60 : (2 : Nat) ^ 60 = 1152921504606846976 := by decide
  obtain ⟨u, d1, e1, u0, u1, p1⟩ := pick_ok (pre := pre) (post := post) (m := 3) h (by omega) (by decide) (bd_lit (by decide))
  obtain ⟨M, eM, hM⟩ : ∃ M : Int, L2.atI [D.int 2, D.int 10, D.int 1000001] u = some (.int M) ∧ (2 ≤ M ∧ M ≤ 1000001) := by
    obtain rfl | rfl | rfl : u = 0 ∨ u = 1 ∨ u = 2 := by omega
    · exact ⟨_, rfl, by omega⟩
    · exact ⟨_, rfl, by omega⟩
    · exact ⟨_, rfl, by omega⟩
  have bM : Bd 8000 M := by
    refine Bd.mono (a := 64) ?_ (by decide)
    unfold Bd
    have : (2 : Nat) ^ 64 = 18446744073709551616 := by decide
    omega
  obtain ⟨ys, st2, ec, ws, d2, ey, es2, hl, hw, p2⟩ := comp_gen (g := gVar 4) (t := tTrue) (e := eCall G_law_pick (argsS [(eVar 0), (eVar 2)])) (r := wipeR [.val (.ref pre.length), .val (.int (n : Int)), .val (.int M), .no, .no] [4])
    (fun m acc s => ∃ (ws : List Int) (d' : D), acc = ws.map D.int ∧ s = pre ++ d' :: post ∧ ws.length = m ∧ (∀ w, w ∈ ws → 0 ≤ w ∧ w ≤ 1000000) ∧ Pu (k + 1 + m) d') ((List.range n).map fun i : Nat => D.int (0 + i)) 0 [] (pre ++ d1 :: post)
    ⟨[], d1, rfl, rfl, rfl, fun w hw => absurd hw (by simp), p1⟩ (by
      rintro m acc x s hx hm ⟨ws, d', rfl, rfl, hl, hw, hp⟩
      rw [List.length_map, List.length_range] at hm
      obtain ⟨t, d3, e3, t0, t1, p3⟩ := pick_ok (pre := pre) (post := post) (m := M) hp (by omega) (by omega) bM
      refine ⟨_, .int t, pre ++ d3 :: post, rfl, rfl, ?_, ws ++ [t], d3, by rw [List.map_append]; rfl, rfl, by rw [List.length_append, hl]; rfl, fun w hw' => ?_, p3⟩
      · rwa [wipeR, e3]
      · rcases List.mem_append.mp hw' with hw' | hw'
        · exact hw w hw'
        · rw [List.mem_singleton.mp hw']
          omega) (by
      have e5 : lim = 16000000 := lim_eq
      rw [e5, List.length_map, List.length_range]
      simp
      omega)
  subst ey es2
  rw [List.length_map, List.length_range] at hl p2
  have hl : ws.length = n := by omega
  have key : ∃ v st1, G_law_weights [.ref pre.length, .int (n : Int)] (pre ++ d :: post) = some (.ret v st1) ∧ (∃ (ws : List Int) (d' : D), v = .val (.tup (ws.map D.int)) ∧ st1 = pre ++ d' :: post ∧ ws.length = n ∧ (∀ w, w ∈ ws → 0 ≤ w ∧ w ≤ 1000000) ∧ 0 < ws.sum ∧ Pu (k + (n + 2)) d') := by
    unfold G_law_weights
    refine fn_sw (P := fun v st1 => ∃ (ws : List Int) (d' : D), v = .val (.tup (ws.map D.int)) ∧ st1 = pre ++ d' :: post ∧ ws.length = n ∧ (∀ w, w ∈ ws → 0 ≤ w ∧ w ≤ 1000000) ∧ 0 < ws.sum ∧ Pu (k + (n + 2)) d') ?_
    have e0 : slots0 5 [D.ref pre.length, .int (n : Int)] = [.val (.ref pre.length), .val (.int (n : Int)), .no, .no, .no] := rfl
    rw [e0]
    refine sw_step (by rwa [e1, eM]; rfl) ?_
    refine sw_step (r1 := [.val (.ref pre.length), .val (.int (n : Int)), .val (.int M), .own (.lst (ws.map D.int)), .no]) (st1 := pre ++ d2 :: post) (by
      have e2 : iRange1 (eVar 1) [.val (.ref pre.length), .val (.int (n : Int)), .val (.int M), .no, .no] (pre ++ d1 :: post) = some ((List.range n).map fun i : Nat => D.int (0 + i), pre ++ d1 :: post) := by
        rwa [v_rngD (show (-4611686018427387904 : Int) ≤ (n : Int) by omega) (show (n : Int) < 4611686018427387904 by omega), Int.toNat_natCast]
      rw [x_sAsg, x_eComp, e2]
      dsimp only
      rw [ec]
      rfl) ?_
    have s0 := sum_bd hw
    have fin : ∀ (us : List Int) (d3 : D), SW (sRet (eOp1 tupV (eVar 3))) [.val (.ref pre.length), .val (.int (n : Int)), .val (.int M), .own (.lst (us.map D.int)), .no] (pre ++ d3 :: post) fun o => o = .rt (.val (.tup (us.map D.int))) (pre ++ d3 :: post) := fun us d3 => sw_eq (by rwa []) rfl
    by_cases hz : ws.sum = 0
    · obtain ⟨j, d3, e3, j0, j1, p3⟩ := pick_ok (pre := pre) (post := post) (m := (n : Int)) p2 (by omega) (by omega) (by
        refine Bd.mono (a := 64) ?_ (by decide)
        unfold Bd
        have : (2 : Nat) ^ 64 = 18446744073709551616 := by decide
        omega)
      obtain ⟨i, rfl⟩ : ∃ i : Nat, j = (i : Int) := ⟨j.toNat, by omega⟩
      have hi : i < ws.length := by omega
      have ei : L2.ixN (ws.map D.int).length (i : Int) = some i := by
        unfold L2.ixN
        rw [List.length_map, if_pos (by omega), if_pos (by omega), Int.toNat_natCast]
      have es : (ws.map D.int).set i (D.int (M - 1)) = (ws.set i (M - 1)).map D.int := by rw [List.map_set]
      refine sw_step (r1 := [.val (.ref pre.length), .val (.int (n : Int)), .val (.int M), .own (.lst ((ws.set i (M - 1)).map D.int)), .no]) (st1 := pre ++ d3 :: post) (by rwa [v_sumP, decide_eq_true hz, e3, ei, es]) ?_
      obtain ⟨o, a1, a2⟩ := fin (ws.set i (M - 1)) d3
      subst a2
      have hw' : ∀ w, w ∈ ws.set i (M - 1) → 0 ≤ w ∧ w ≤ 1000000 := fun w hw' => by
        rcases List.mem_or_eq_of_mem_set hw' with q | q
        · exact hw w q
        · omega
      exact ⟨_, a1, ws.set i (M - 1), d3, rfl, rfl, by rw [List.length_set, hl], hw', sum_pos hw' (List.mem_set hi _) (by omega), p3.le (by omega)⟩
    · refine sw_step (r1 := [.val (.ref pre.length), .val (.int (n : Int)), .val (.int M), .own (.lst (ws.map D.int)), .no]) (st1 := pre ++ d2 :: post) (by rwa [v_sumP, decide_eq_false hz]) ?_
      obtain ⟨o, a1, a2⟩ := fin ws d2
      subst a2
      exact ⟨_, a1, ws, d2, rfl, rfl, hl, hw, by omega, p2.le (by omega)⟩
  obtain ⟨v, s1, e, ws, d', rfl, rfl, a1, a2, a3, a4⟩ := key
  exact ⟨ws, d', e, a1, a2, a3, a4⟩
theorem asked_ok {l : WL} (h : OkW l) {w : Int} : G_law_asked [.tup (l.map fun p => shT p.1), .tup (l.map fun p => .int p.2), .int w] st = some (.ret (.val (shT (mixT l))) st) := by
  have en : isT st (.val (.tup (l.map fun p => .int p.2))) (.val .non) = some (.val (.bl false)) := rfl
  have m := mix_ok (st := st) h
  have b2 : bnd 2 [.non] [.p 0, .p 1] G_mix [.tup (l.map fun p => shT p.1), .tup (l.map fun p => .int p.2)] st = some (.ret (.val (shT (mixT l))) st) := m
  have b3 : bnd 0 [.non] [.k 1, .k 0] G_mix [.tup (l.map fun p => .int p.2), .tup (l.map fun p => shT p.1)] st = some (.ret (.val (shT (mixT l))) st) := m
  unfold G_law_asked
  by_cases hw : w < 3
  · rwa [en, decide_eq_true hw, m]
  · rwa [en, decide_eq_false hw, m]
theorem askedN_ok {ts : List T3} (h : ∀ t, t ∈ ts → Ok3 64 t) (h1 : 1 ≤ ts.length) (h2 : ts.length ≤ 60) {w : Int} : G_law_asked [.tup (ts.map shT), .non, .int w] st = some (.ret (.val (shT (mixT (ones ts)))) st) := by
  have en : isT st (.val .non) (.val .non) = some (.val (.bl true)) := rfl
  have m := mixN_ok (st := st) h h1 h2
  have b0 : bnd 1 [.non] [.p 0, .d 0] G_mix [.tup (ts.map shT)] st = some (.ret (.val (shT (mixT (ones ts)))) st) := m
  have b1 : bnd 0 [.non] [.k 0, .d 0] G_mix [.tup (ts.map shT)] st = some (.ret (.val (shT (mixT (ones ts)))) st) := m
  have b2 : bnd 2 [.non] [.p 0, .p 1] G_mix [.tup (ts.map shT), .non] st = some (.ret (.val (shT (mixT (ones ts)))) st) := m
  have b3 : bnd 0 [.non] [.k 1, .k 0] G_mix [.non, .tup (ts.map shT)] st = some (.ret (.val (shT (mixT (ones ts)))) st) := m
  unfold G_law_asked
  by_cases w0 : w = 0
  · rwa [en, decide_eq_true w0, m]
  · by_cases w1 : w = 1
    · rwa [en, decide_eq_false w0, decide_eq_true w1, m]
    · by_cases hw : w < 3
      · rwa [en, decide_eq_false w0, decide_eq_false w1, decide_eq_true hw, m]
      · rwa [en, decide_eq_false w0, decide_eq_false w1, decide_eq_false hw, m]
end
end Tz

set_option Elab.async false
set_option linter.all false
set_option maxRecDepth 100000
set_option maxHeartbeats 400000
namespace Tz
open PySem L2 PyProof.Rows
/-! steps taken by hand: a call and an assignment -/
theorem y_call {F : FSem} {as : List ESem} {r : Rho} {st st1 st2 : Store} {ds : List D} {v : RV} (h1 : argsS as r st = some (.ok ds st1)) (h2 : F ds st1 = some (.ret v st2)) : eCall F (argsS as) r st = some (.ok v st2) := by
  rw [x_eCall, h1]
  dsimp only
  rw [h2]
theorem y_asgF {a : ESem} {j : Nat} {r : Rho} {st st1 : Store} {d : D} (h : a r st = some (.ok (.fresh d) st1)) : sAsg a (gVar j) r st = some (.nx (r.set j (.own d)) st1) := by
  rw [x_sAsg, h]
  rfl
theorem y_asgV {a : ESem} {j : Nat} {r : Rho} {st st1 : Store} {d : D} (h : a r st = some (.ok (.val d) st1)) : sAsg a (gVar j) r st = some (.nx (r.set j (.val d)) st1) := by
  rw [x_sAsg, h]
  rfl
theorem comp_ix {α : Type} {g : TgSem} {t : TSem} {e : ESem} {r : Rho} (h : α → D) (I : Nat → List D → Store → Prop) : ∀ (xs pre : List α) (acc : List D) (st : Store), I pre.length acc st →
    (∀ m a acc st, (pre ++ xs)[m]? = some a → I m acc st → ∃ r1 v st', g (.val (h a)) r st = some (r1, st) ∧ t r1 st = some (.ok true st) ∧ e r1 st = some (.ok (.val v) st') ∧ I (m + 1) (acc ++ [v]) st') → acc.length + xs.length ≤ lim →
    ∃ ys st', compL g t e r acc (xs.map h) st = some (ys, st') ∧ I (pre.length + xs.length) ys st'
  | [], pre, acc, st, hi, _, _ => ⟨acc, st, rfl, hi⟩
  | x :: xs, pre, acc, st, hi, hs, hl => by
    obtain ⟨r1, v, st1, e1, e2, e3, h1⟩ := hs pre.length x acc st (by rw [List.getElem?_append_right (Nat.le_refl _), Nat.sub_self]; rfl) hi
    rw [List.length_cons] at hl
    have hlt : acc.length < lim := by omega
    have ep : pre ++ [x] ++ xs = pre ++ x :: xs := by rw [List.append_assoc]; rfl
    have el : (pre ++ [x]).length = pre.length + 1 := by rw [List.length_append]; rfl
    obtain ⟨ys, st2, e4, h2⟩ := comp_ix h I xs (pre ++ [x]) (acc ++ [v]) st1 (by rw [el]; exact h1) (by rw [ep]; exact hs) (by rw [List.length_append, List.length_singleton]; omega)
    refine ⟨ys, st2, ?_, ?_⟩
    · rw [List.map_cons, compL]
      simp only [e1, e2, e3, RV.toVal]
      rw [if_pos hlt, e4]
    · rw [el] at h2
      rw [List.length_cons]
      have : pre.length + 1 + xs.length = pre.length + (xs.length + 1) := by omega
      rw [← this]
      exact h2
section
variable {st : Store} {i j : Int} {t : T3} {ts : List T3}
theorem v_eqOI : eqO eqsS st (.val (.int i)) (.val (.int j)) = some (.val (.bl (decide (i = j)))) := v_eqOT v_eqI
theorem v_neRow : neO eqsS st (.val (rowT t)) (.val (rowT t)) = some (.val (.bl false)) := by
  have e : eqT st (.val (rowT t)) (.val (rowT t)) = if dOk 16 (rowT t) = true ∧ dOk 16 (rowT t) = true then some (.val (.bl (dEq (rowT t) (rowT t)))) else none := rfl
  have o : dOk 16 (rowT t) = true := rfl
  rw [v_neOT (z := true)]
  · rfl
  · rw [e, if_pos ⟨o, o⟩, dEq_row.mpr rfl]
theorem v_neRows : neO eqsS st (.fresh (.lst (ts.map rowT))) (.val (.lst (ts.map rowT))) = some (.val (.bl false)) := by
  have e : eqT st (.fresh (.lst (ts.map rowT))) (.val (.lst (ts.map rowT))) = if dOk 16 (.lst (ts.map rowT)) = true ∧ dOk 16 (.lst (ts.map rowT)) = true then some (.val (.bl (dEqs (ts.map rowT) (ts.map rowT)))) else none := rfl
  have o : dOk 16 (.lst (ts.map rowT)) = true := dOks_row (n := 13) ts
  rw [v_neOT (z := true)]
  · rfl
  · rw [e, if_pos ⟨o, o⟩, dEqs_row]
theorem v_eqT3 : eqO eqsS st (.val (shT t)) (.val (shT t)) = some (.val (.bl true)) := by
  unfold shT
  rw [v_eqSh]
  simp
open Classical in
theorem v_niSh : notInO eqsS st (.val (shT t)) (.fresh (.lst [shT t])) = some (.val (.bl false)) := by
  have e1 : inV st (.val (shT t)) (.fresh (.lst [shT t])) = none := rfl
  have e2 : itV st (.fresh (.lst [shT t])) = some [shT t] := rfl
  have e3 : lookE eqsS "Shade" = some G_Shade_eq := by
    unfold lookE
    rw [if_pos rfl]
  have e4 : tgD st (shT t) = some (.inr "Shade") := rfl
  have e5 : G_Shade_eq [shT t, shT t] st = some (.ret (.val (.bl true)) st) := by
    unfold shT
    rw [sheq_ok]
    simp
  have e6 : inEq eqsS st (shT t) [shT t] = some true := by
    show (match lookE eqsS "Shade" with
    | some F => match tgD st (shT t) with
      | some _ => match F [shT t, shT t] st with
        | some (.ret (.val (.bl b)) st2) => if st2 = st then (if b = true then some true else if apartD (shT t) (shT t) then inEq eqsS st (shT t) [] else none) else none
        | _ => none
      | none => none
    | none => none) = _
    rw [e3, e4]
    simp only [e5]
    rw [if_pos trivial, if_pos trivial]
  unfold notInO inO
  rw [e1, e2]
  dsimp only
  rw [e6]
  rfl
end
end Tz

set_option Elab.async false
set_option linter.all false
set_option maxRecDepth 100000
set_option maxHeartbeats 400000
namespace Tz
open PySem L2 PyProof.Rows
theorem main_true (ns : List Int) (hl : ns.length ≤ 63) (hb : ∀ z ∈ ns, PySem.Builtin.Int.intBits z ≤ 1048576) : ∃ st, G_law [scriptD ns] [] = some (.ret (.val (.bl true)) st) := by
  have hlen : ((((ns.map D.int).length : Nat)) : Int) ≤ 63 := by simp; omega
  have key : ∃ v st1, G_law [scriptD ns] [] = some (.ret v st1) ∧ v = .val (.bl true) := by
    unfold G_law
    refine fn_sw (P := fun v _ => v = .val (.bl true)) ?_
    have e0 : slots0 13 [scriptD ns] = [.val (scriptD ns), .no, .no, .no, .no, .no, .no, .no, .no, .no, .no, .no, .no] := rfl
    rw [e0]
    refine sw_seq (sw_for (fun r _ => ∃ s1 s2 s3 s4 s5 s6 s7 s8 s9 s10 s11 s12, r = [.val (scriptD ns), s1, s2, s3, s4, s5, s6, s7, s8, s9, s10, s11, s12])
      (xs := (List.range (max 2 (min (((ns.map D.int).length : Nat) : Int) 4)).toNat).map fun i : Nat => D.int (0 + i)) (st1 := []) ?_ ⟨_, _, _, _, _, _, _, _, _, _, _, _, rfl⟩ ?_ ?_)
    · unfold scriptD
      rwa []
    · rintro x r st hx ⟨s1, s2, s3, s4, s5, s6, s7, s8, s9, s10, s11, s12, rfl⟩
      obtain ⟨i, hi, rfl⟩ := List.mem_map.mp hx
      have hi6 : i < 1000 := by have := List.mem_range.mp hi; omega
      obtain ⟨c0, e1⟩ := cell_ok (ns := ns) (st := st) hi6
      obtain ⟨d0, e2, p0⟩ := purse_ok (i := c0) (st := st)
      have k40 : (2 : Nat) ^ 40 = 1099511627776 := by decide
      have k48 : (2 : Nat) ^ 48 = 281474976710656 := by decide
      have k49 : (2 : Nat) ^ 49 = 562949953421312 := by decide
      have k50 : (2 : Nat) ^ 50 = 1125899906842624 := by decide
      have k60 : (2 : Nat) ^ 60 = 1152921504606846976 := by decide
      obtain ⟨u, d1, e3, u0, u1, p1⟩ := pick_ok (pre := st) (post := []) (m := 4) p0 (by omega) (by decide) (bd_lit (by decide))
      obtain ⟨v, d2, e4, v0, v1, p2⟩ := pick_ok (pre := st) (post := []) (m := 8) p1 (by omega) (by decide) (bd_lit (by decide))
      obtain ⟨M, eM, hM0, hM1⟩ : ∃ M : Int, L2.atI [D.int 6, D.int 60] (if decide (v = 3) = true then 1 else 0) = some (.int M) ∧ 6 ≤ M ∧ M ≤ 60 := by
        by_cases c : v = 3
        · rw [decide_eq_true c]
          exact ⟨_, rfl, by omega, by omega⟩
        · rw [decide_eq_false c]
          exact ⟨_, rfl, by omega, by omega⟩
      obtain ⟨t, d3, e5, t0, t1, p3⟩ := pick_ok (pre := st) (post := []) (m := M) p2 (by omega) (by omega) (by
        refine Bd.mono (a := 64) ?_ (by decide)
        unfold Bd
        have : (2 : Nat) ^ 64 = 18446744073709551616 := by decide
        omega)
      obtain ⟨n, en⟩ : ∃ n : Nat, 1 + t = (n : Int) := ⟨(1 + t).toNat, by omega⟩
      have hn1 : 1 ≤ n := by omega
      have hn : n ≤ 60 := by omega
      obtain ⟨ts, d4, e6, hl6, ht, p4⟩ := rows_ok (pre := st) (post := []) p3 (by omega) hn
      refine ⟨_, _, rfl, ?_⟩
      refine sw_step (r1 := [.val (scriptD ns), .val (.int (0 + (i : Int))), .val (.ref st.length), s3, s4, s5, s6, s7, s8, s9, s10, s11, s12]) (st1 := st ++ [d0]) (by rwa [Int.zero_add, e1, e2]) ?_
      refine sw_step (r1 := [.val (scriptD ns), .val (.int (0 + (i : Int))), .val (.ref st.length), .val (.int u), .val (.int v), s5, s6, s7, s8, s9, s10, s11, s12]) (st1 := st ++ [d2]) (by rwa [e3, e4]) ?_
      refine sw_step (r1 := [.val (scriptD ns), .val (.int (0 + (i : Int))), .val (.ref st.length), .val (.int u), .val (.int v), .val (.int (n : Int)), s6, s7, s8, s9, s10, s11, s12]) (st1 := st ++ [d3]) (by rwa [v_eqOI, eM, e5, en]) ?_
      refine sw_step (r1 := [.val (scriptD ns), .val (.int (0 + (i : Int))), .val (.ref st.length), .val (.int u), .val (.int v), .val (.int (n : Int)), .own (.lst (ts.map rowT)), s7, s8, s9, s10, s11, s12]) (st1 := st ++ [d4]) (y_asgF (j := 6) (d := .lst (ts.map rowT)) (y_call (ds := [.ref st.length, .int (n : Int)]) (st1 := st ++ [d3]) rfl e6)) ?_
      obtain ⟨tints, d5, e7, et, p5⟩ : ∃ (ys : List D) (d5 : D), compL (gVar 11) tTrue (eCall G_law_shade (argsS [(eVar 11), (eCall G_law_pick (argsS [(eVar 2), (eC (.int 2))]))])) (wipeR [.val (scriptD ns), .val (.int (0 + (i : Int))), .val (.ref st.length), .val (.int u), .val (.int v), .val (.int (n : Int)), .own (.lst (ts.map rowT)), s7, s8, s9, s10, s11, s12] [11]) [] (ts.map rowT) (st ++ [d4]) = some (ys, st ++ [d5]) ∧ ys = ts.map shT ∧ Pu (3 + 20 * n + 60) d5 := by
        obtain ⟨ys, st', q1, ⟨d', q2, q3, q4⟩⟩ := comp_ix (g := gVar 11) (t := tTrue) (e := eCall G_law_shade (argsS [(eVar 11), (eCall G_law_pick (argsS [(eVar 2), (eC (.int 2))]))])) (r := wipeR [.val (scriptD ns), .val (.int (0 + (i : Int))), .val (.ref st.length), .val (.int u), .val (.int v), .val (.int (n : Int)), .own (.lst (ts.map rowT)), s7, s8, s9, s10, s11, s12] [11]) rowT
          (fun m acc s => ∃ d', acc = (ts.take m).map shT ∧ s = st ++ [d'] ∧ (m ≤ 60 → Pu (0 + 1 + 1 + 1 + 20 * n + m) d')) ts [] [] (st ++ [d4]) ⟨d4, rfl, rfl, fun _ => p4⟩ (by
            rintro m a acc s ha ⟨d', rfl, rfl, hp⟩
            rw [List.nil_append] at ha
            have hm := (List.getElem?_eq_some_iff.mp ha).1
            have hmem : a ∈ ts := List.mem_of_getElem? ha
            obtain ⟨w, d6, e8, w0, w1, p6⟩ := pick_ok (pre := st) (post := []) (m := 2) (hp (by omega)) (by omega) (by decide) (bd_lit (by decide))
            have e9 := lshade_ok (st := st ++ [d6]) (ht a hmem) (w := w)
            have et : ts.take (m + 1) = ts.take m ++ [a] := by
              rw [List.take_succ, ha]
              rfl
            refine ⟨_, shT a, st ++ [d6], rfl, rfl, ?_, d6, by rw [et, List.map_append]; rfl, rfl, fun _ => p6⟩
            rwa [wipeR, e8, e9]) (by have e5 : lim = 16000000 := lim_eq; rw [e5]; simp; omega)
        refine ⟨ys, d', by rw [q1, q3], ?_, (q4 (by simp; omega)).le (by simp; omega)⟩
        rw [q2]
        simp
      subst et
      refine sw_step (r1 := [.val (scriptD ns), .val (.int (0 + (i : Int))), .val (.ref st.length), .val (.int u), .val (.int v), .val (.int (n : Int)), .own (.lst (ts.map rowT)), .val (.tup (ts.map shT)), s8, s9, s10, s11, s12]) (st1 := st ++ [d5]) (by rwa [e7]) ?_
      obtain ⟨w, d6, e8, w0, w1, p6⟩ := pick_ok (pre := st) (post := []) (m := 4) p5 (by omega) (by decide) (bd_lit (by decide))
      obtain ⟨l, LD, d7, eL, oW, e_ts, eM8, eA⟩ : ∃ (l : WL) (LD d7 : D), (eIf (tBool (eOp2 (eqO [("Shade", G_Shade_eq)]) (eCall G_law_pick (argsS [(eVar 2), (eC (.int 4))])) (eC (.int 1)))) (eC .non) (eCall G_law_weights (argsS [(eVar 2), (eVar 5)])))
            [.val (scriptD ns), .val (.int (0 + (i : Int))), .val (.ref st.length), .val (.int u), .val (.int v), .val (.int (n : Int)), .own (.lst (ts.map rowT)), .val (.tup (ts.map shT)), s8, s9, s10, s11, s12] (st ++ [d5]) = some (.ok (.val LD) (st ++ [d7])) ∧ OkW l ∧ l.map (·.1) = ts ∧
          (∀ s, (eIf (tBool (eOp2 isT (eVar 8) (eC .non))) (eOp2 mulT (eTup (argsS [(eC (.int 1))])) (eVar 5)) (eVar 8))
            [.val (scriptD ns), .val (.int (0 + (i : Int))), .val (.ref st.length), .val (.int u), .val (.int v), .val (.int (n : Int)), .val (.lst (ts.map rowT)), .val (.tup (ts.map shT)), .val LD, s9, s10, s11, s12] s = some (.ok (.val (.tup (l.map fun p : T3 × Int => D.int p.2))) s)) ∧
          ∀ (z : Int) (s : Store), G_law_asked [.tup (ts.map shT), LD, .int z] s = some (.ret (.val (shT (mixT l))) s) := by
        by_cases c : w = 1
        · refine ⟨ones ts, .non, d6, by rwa [e8, v_eqOI, decide_eq_true c], ones_ok ht (by omega) (by omega), ?_, fun s => ?_, fun z s => askedN_ok ht (by omega) (by omega)⟩
          · unfold ones
            rw [List.map_map]
            exact List.map_id ts
          · have en : isT s (.val .non) (.val .non) = some (.val (.bl true)) := rfl
            rw [ones_2, hl6]
            rwa [en, v_repN hn1 (show n ≤ 1000 by omega)]
        · obtain ⟨ws, d7, e9, wl, wb, wp, p7⟩ := lweights_ok (pre := st) (post := []) p6 (by omega) hn1 hn
          have z1 : (ts.zip ws).map (·.1) = ts := List.map_fst_zip (by omega)
          have z2 : (ts.zip ws).map (·.2) = ws := List.map_snd_zip (by omega)
          have z3 : ((ts.zip ws).map fun p : T3 × Int => D.int p.2) = ws.map D.int := by
            have : (fun p : T3 × Int => D.int p.2) = D.int ∘ (·.2) := rfl
            rw [this, ← List.map_map, z2]
          have z4 : ((ts.zip ws).map fun p : T3 × Int => shT p.1) = ts.map shT := by
            have : (fun p : T3 × Int => shT p.1) = shT ∘ (·.1) := rfl
            rw [this, ← List.map_map, z1]
          have ok : OkW (ts.zip ws) := by
            refine ⟨fun p hp => ht _ (List.of_mem_zip hp).1, fun p hp => (wb _ (List.of_mem_zip hp).2).1, fun p hp => (wb _ (List.of_mem_zip hp).2).2, ?_, ?_⟩
            · rw [List.length_zip]
              omega
            · rw [z2]
              exact wp
          have en : ∀ s, isT s (.val (.tup (ws.map D.int))) (.val .non) = some (.val (.bl false)) := fun s => rfl
          refine ⟨ts.zip ws, .tup (ws.map D.int), d7, by rwa [e8, v_eqOI, decide_eq_false c, e9], ok, z1, fun s => ?_, fun z s => ?_⟩
          · rw [z3]
            rwa [en]
          · have := asked_ok (st := s) ok (w := z)
            rw [z3, z4] at this
            exact this
      have zr : (l.map fun p : T3 × Int => rowT p.1) = ts.map rowT := by
        have : (fun p : T3 × Int => rowT p.1) = rowT ∘ (·.1) := rfl
        rw [this, ← List.map_map, e_ts]
      have om : Ok3 3900 (mixT l) := ok3 oW.in1 oW.in1 oW.in1 oW.rbm oW.rbm oW.rbm
      refine sw_step (r1 := [.val (scriptD ns), .val (.int (0 + (i : Int))), .val (.ref st.length), .val (.int u), .val (.int v), .val (.int (n : Int)), .own (.lst (ts.map rowT)), .val (.tup (ts.map shT)), .val LD, s9, s10, s11, s12]) (st1 := st ++ [d7]) (y_asgV eL) ?_
      have eD : G_law_mixed [.lst (ts.map rowT), .tup (l.map fun p : T3 × Int => D.int p.2)] (st ++ [d7]) = some (.ret (.val (rowT (mixT l))) (st ++ [d7])) := by
        rw [← zr]
        exact lmixed_ok oW
      refine sw_step (r1 := [.val (scriptD ns), .val (.int (0 + (i : Int))), .val (.ref st.length), .val (.int u), .val (.int v), .val (.int (n : Int)), .val (.lst (ts.map rowT)), .val (.tup (ts.map shT)), .val LD, .val (rowT (mixT l)), s10, s11, s12]) (st1 := st ++ [d7]) (by
        have eM8 := eM8 (st ++ [d7])
        generalize (eIf (tBool (eOp2 isT (eVar 8) (eC .non))) (eOp2 mulT (eTup (argsS [(eC (.int 1))])) (eVar 5)) (eVar 8)) = f at eM8 ⊢
        rwa [eM8, eD]) ?_
      refine sw_step (r1 := [.val (scriptD ns), .val (.int (0 + (i : Int))), .val (.ref st.length), .val (.int u), .val (.int v), .val (.int (n : Int)), .val (.lst (ts.map rowT)), .val (.tup (ts.map shT)), .val LD, .val (rowT (mixT l)), .val (shT (mixT l)), s11, s12]) (st1 := st ++ [d7]) (by rwa [eA]) ?_
      refine sw_step (r1 := [.val (scriptD ns), .val (.int (0 + (i : Int))), .val (.ref st.length), .val (.int u), .val (.int v), .val (.int (n : Int)), .val (.lst (ts.map rowT)), .val (.tup (ts.map shT)), .val LD, .val (rowT (mixT l)), .val (shT (mixT l)), s11, s12]) (st1 := st ++ [d7]) (by rwa [eA, got_ok om, v_neRow]) ?_
      refine sw_step (r1 := [.val (scriptD ns), .val (.int (0 + (i : Int))), .val (.ref st.length), .val (.int u), .val (.int v), .val (.int (n : Int)), .val (.lst (ts.map rowT)), .val (.tup (ts.map shT)), .val LD, .val (rowT (mixT l)), .val (shT (mixT l)), s11, s12]) (st1 := st ++ [d7]) (by rwa [lshade_ok om, v_eqT3, v_niSh]) ?_
      have ec : (eComp [12] (iExpU (eVar 7)) (gVar 12) tTrue (eCall G_law_got (argsS [(eVar 12)]))) [.val (scriptD ns), .val (.int (0 + (i : Int))), .val (.ref st.length), .val (.int u), .val (.int v), .val (.int (n : Int)), .val (.lst (ts.map rowT)), .val (.tup (ts.map shT)), .val LD, .val (rowT (mixT l)), .val (shT (mixT l)), s11, s12] (st ++ [d7]) = some (.ok (.fresh (.lst (ts.map rowT))) (st ++ [d7])) := by
        have ei : (iExpU (eVar 7)) [.val (scriptD ns), .val (.int (0 + (i : Int))), .val (.ref st.length), .val (.int u), .val (.int v), .val (.int (n : Int)), .val (.lst (ts.map rowT)), .val (.tup (ts.map shT)), .val LD, .val (rowT (mixT l)), .val (shT (mixT l)), s11, s12] (st ++ [d7]) = some (ts.map shT, st ++ [d7]) := rfl
        rw [x_eComp, ei]
        dsimp only
        rw [comp_map shT rowT ts [] ?_ (by have e5 : lim = 16000000 := lim_eq; rw [e5]; simp; omega), List.nil_append]
        intro t ht'
        have g := got_ok (st := st ++ [d7]) (t := t) ⟨fun n => (ht t ht').i n, fun n => ((ht t ht').r n).mono (by decide)⟩
        refine ⟨_, rfl, rfl, ?_⟩
        rwa [wipeR, g]
      refine sw_eq (o := .nx [.val (scriptD ns), .val (.int (0 + (i : Int))), .val (.ref st.length), .val (.int u), .val (.int v), .val (.int (n : Int)), .val (.lst (ts.map rowT)), .val (.tup (ts.map shT)), .val LD, .val (rowT (mixT l)), .val (shT (mixT l)), s11, s12] (st ++ [d7])) (by
        generalize (eComp [12] (iExpU (eVar 7)) (gVar 12) tTrue (eCall G_law_got (argsS [(eVar 12)]))) = f at ec ⊢
        rwa [ec, v_neRows]) ⟨_, _, _, _, _, _, _, _, _, _, _, _, rfl⟩
    · rintro r2 st2 ⟨s1, s2, s3, s4, s5, s6, s7, s8, s9, s10, s11, s12, rfl⟩
      exact sw_eq (o := .rt (.val (.bl true)) st2) (by rwa []) rfl
  obtain ⟨v, st1, e, rfl⟩ := key
  exact ⟨st1, e⟩
end Tz

set_option Elab.async false
set_option linter.all false
set_option maxRecDepth 100000
set_option maxHeartbeats 4000000
namespace Tz
open PySem L2 PyProof.Rows
def s_Shade_eq : Stmt := clsS (topS 19) 1
def N_Shade_eq : List Str := ["self", "other"]
noncomputable def c_Shade_eq : Cfg := { N := N_Shade_eq, sc := defScope s_Shade_eq, calls := [], consts := [], blt := ["isinstance"], own := ["Shade"], fl := [("ember", ["Shade"]), ("leaf", ["Shade"]), ("sky", ["Shade"])] }
def w_Shade_eq : List Str := []
theorem b_Shade_eq : fnS 2 (denSs 60 c_Shade_eq w_Shade_eq (defBody s_Shade_eq)) = G_Shade_eq := by kernel_rfl
theorem sc_Shade_eq : FnScope N_Shade_eq ["self", "other"] (defScope s_Shade_eq) := ⟨rfl, rfl, rfl, by decide +kernel, rfl, by decide +kernel, by decide +kernel⟩
def s_law_purse : Stmt := topS 31
def N_law_purse : List Str := ["_law_cell_here"]
noncomputable def c_law_purse : Cfg := { N := N_law_purse, sc := defScope s_law_purse, calls := [], consts := [], blt := ["int"], box := true }
def w_law_purse : List Str := []
theorem b_law_purse : fnS 1 (denSs 60 c_law_purse w_law_purse (defBody s_law_purse)) = G_law_purse := by kernel_rfl
theorem sc_law_purse : FnScope N_law_purse ["_law_cell_here"] (defScope s_law_purse) := ⟨rfl, rfl, rfl, by decide +kernel, rfl, by decide +kernel, by decide +kernel⟩
def s_law_cell : Stmt := topS 30
def N_law_cell : List Str := ["_law_script", "_law_k", "_law_state", "_law_cell_here"]
noncomputable def c_law_cell : Cfg := { N := N_law_cell, sc := defScope s_law_cell, calls := [], consts := [], blt := ["len"] }
def w_law_cell : List Str := []
theorem b_law_cell : fnS 4 (denSs 60 c_law_cell w_law_cell (defBody s_law_cell)) = G_law_cell := by kernel_rfl
theorem sc_law_cell : FnScope N_law_cell ["_law_script", "_law_k"] (defScope s_law_cell) := ⟨rfl, rfl, rfl, by decide +kernel, rfl, by decide +kernel, by decide +kernel⟩
def s_law_pick : Stmt := topS 32
def N_law_pick : List Str := ["_law_purse_here", "_law_many", "_law_state", "_law_taken"]
noncomputable def c_law_pick : Cfg := { N := N_law_pick, sc := defScope s_law_pick, calls := [], consts := [], blt := [] }
def w_law_pick : List Str := []
theorem b_law_pick : fnS 4 (denSs 60 c_law_pick w_law_pick (defBody s_law_pick)) = G_law_pick := by kernel_rfl
theorem sc_law_pick : FnScope N_law_pick ["_law_purse_here", "_law_many"] (defScope s_law_pick) := ⟨rfl, rfl, rfl, by decide +kernel, rfl, by decide +kernel, by decide +kernel⟩
def s_law_low : Stmt := topS 34
def N_law_low : List Str := ["_law_top", "_law_bottom", "_law_one", "_law_other"]
noncomputable def c_law_low : Cfg := { N := N_law_low, sc := defScope s_law_low, calls := [], consts := [], blt := ["abs"] }
def w_law_low : List Str := []
theorem b_law_low : fnS 4 (denSs 60 c_law_low w_law_low (defBody s_law_low)) = G_law_low := by kernel_rfl
theorem sc_law_low : FnScope N_law_low ["_law_top", "_law_bottom"] (defScope s_law_low) := ⟨rfl, rfl, rfl, by decide +kernel, rfl, by decide +kernel, by decide +kernel⟩
def s_law_share : Stmt := topS 39
def N_law_share : List Str := ["_law_purse_here", "_law_way", "_law_bottom"]
noncomputable def c_law_share : Cfg := { N := N_law_share, sc := defScope s_law_share, calls := [(("_law_pick", 2, []), G_law_pick), (("_law_low", 2, []), G_law_low)], consts := [], blt := [] }
def w_law_share : List Str := []
theorem b_law_share : fnS 3 (denSs 60 c_law_share w_law_share (defBody s_law_share)) = G_law_share := by kernel_rfl
theorem sc_law_share : FnScope N_law_share ["_law_purse_here"] (defScope s_law_share) := ⟨rfl, rfl, rfl, by decide +kernel, rfl, by decide +kernel, by decide +kernel⟩
def s_law_shares : Stmt := topS 41
def N_law_shares : List Str := ["_law_purse_here", "_law_alike", "_law_row", "_law_light"]
noncomputable def c_law_shares : Cfg := { N := N_law_shares, sc := defScope s_law_shares, calls := [(("_law_pick", 2, []), G_law_pick), (("_law_share", 1, []), G_law_share)], consts := [], blt := ["range", "tuple"] }
def w_law_shares : List Str := ["_law_row"]
theorem b_law_shares : fnS 4 (denSs 60 c_law_shares w_law_shares (defBody s_law_shares)) = G_law_shares := by kernel_rfl
theorem sc_law_shares : FnScope N_law_shares ["_law_purse_here"] (defScope s_law_shares) := ⟨rfl, rfl, rfl, by decide +kernel, rfl, by decide +kernel, by decide +kernel⟩
def s_law_plain_share : Stmt := topS 40
def N_law_plain_share : List Str := ["_law_purse_here"]
noncomputable def c_law_plain_share : Cfg := { N := N_law_plain_share, sc := defScope s_law_plain_share, calls := [(("_law_low", 2, []), G_law_low), (("_law_pick", 2, []), G_law_pick)], consts := [], blt := [] }
def w_law_plain_share : List Str := []
theorem b_law_plain_share : fnS 1 (denSs 60 c_law_plain_share w_law_plain_share (defBody s_law_plain_share)) = G_law_plain_share := by kernel_rfl
theorem sc_law_plain_share : FnScope N_law_plain_share ["_law_purse_here"] (defScope s_law_plain_share) := ⟨rfl, rfl, rfl, by decide +kernel, rfl, by decide +kernel, by decide +kernel⟩
def s_law_rows : Stmt := topS 46
def N_law_rows : List Str := ["_law_purse_here", "_law_many", "_law_found", "_law_k", "_law_row", "_law_again", "_law_light"]
noncomputable def c_law_rows : Cfg := { N := N_law_rows, sc := defScope s_law_rows, calls := [(("_law_shares", 1, []), G_law_shares), (("_law_plain_share", 1, []), G_law_plain_share), (("_law_pick", 2, []), G_law_pick)], consts := [], blt := ["range", "tuple", "len"] }
def w_law_rows : List Str := ["_law_found"]
theorem b_law_rows : fnS 7 (denSs 60 c_law_rows w_law_rows (defBody s_law_rows)) = G_law_rows := by kernel_rfl
theorem sc_law_rows : FnScope N_law_rows ["_law_purse_here", "_law_many"] (defScope s_law_rows) := ⟨rfl, rfl, rfl, by decide +kernel, rfl, by decide +kernel, by decide +kernel⟩
def s_is_whole : Stmt := topS 7
def N_is_whole : List Str := ["thing"]
noncomputable def c_is_whole : Cfg := { N := N_is_whole, sc := defScope s_is_whole, calls := [], consts := [], blt := ["isinstance", "int", "bool"] }
def w_is_whole : List Str := []
theorem b_is_whole : fnS 1 (denSs 60 c_is_whole w_is_whole (defBody s_is_whole)) = G_is_whole := by kernel_rfl
theorem sc_is_whole : FnScope N_is_whole ["thing"] (defScope s_is_whole) := ⟨rfl, rfl, rfl, by decide +kernel, rfl, by decide +kernel, by decide +kernel⟩
def s_share_of : Stmt := topS 8
def N_share_of : List Str := ["one", "other"]
noncomputable def c_share_of : Cfg := { N := N_share_of, sc := defScope s_share_of, calls := [], consts := [], blt := [] }
def w_share_of : List Str := []
theorem b_share_of : fnS 2 (denSs 60 c_share_of w_share_of (defBody s_share_of)) = G_share_of := by kernel_rfl
theorem sc_share_of : FnScope N_share_of ["one", "other"] (defScope s_share_of) := ⟨rfl, rfl, rfl, by decide +kernel, rfl, by decide +kernel, by decide +kernel⟩
def s_is_fraction : Stmt := topS 10
def N_is_fraction : List Str := ["thing", "part"]
noncomputable def c_is_fraction : Cfg := { N := N_is_fraction, sc := defScope s_is_fraction, calls := [(("is_whole", 1, []), G_is_whole), (("share_of", 2, []), G_share_of)], consts := [], blt := ["isinstance", "tuple", "len", "all", "abs"] }
def w_is_fraction : List Str := []
theorem b_is_fraction : fnS 2 (denSs 60 c_is_fraction w_is_fraction (defBody s_is_fraction)) = G_is_fraction := by kernel_rfl
theorem sc_is_fraction : FnScope N_is_fraction ["thing"] (defScope s_is_fraction) := ⟨rfl, rfl, rfl, by decide +kernel, rfl, by decide +kernel, by decide +kernel⟩
def s_from_zero : Stmt := topS 11
def N_from_zero : List Str := ["thing"]
noncomputable def c_from_zero : Cfg := { N := N_from_zero, sc := defScope s_from_zero, calls := [(("is_fraction", 1, []), G_is_fraction)], consts := [], blt := [] }
def w_from_zero : List Str := []
theorem b_from_zero : fnS 1 (denSs 60 c_from_zero w_from_zero (defBody s_from_zero)) = G_from_zero := by kernel_rfl
theorem sc_from_zero : FnScope N_from_zero ["thing"] (defScope s_from_zero) := ⟨rfl, rfl, rfl, by decide +kernel, rfl, by decide +kernel, by decide +kernel⟩
def s_in_one : Stmt := topS 12
def N_in_one : List Str := ["thing"]
noncomputable def c_in_one : Cfg := { N := N_in_one, sc := defScope s_in_one, calls := [(("from_zero", 1, []), G_from_zero)], consts := [], blt := [] }
def w_in_one : List Str := []
theorem b_in_one : fnS 1 (denSs 60 c_in_one w_in_one (defBody s_in_one)) = G_in_one := by kernel_rfl
theorem sc_in_one : FnScope N_in_one ["thing"] (defScope s_in_one) := ⟨rfl, rfl, rfl, by decide +kernel, rfl, by decide +kernel, by decide +kernel⟩
def s_Shade_init : Stmt := clsS (topS 19) 0
def N_Shade_init : List Str := ["self", "ember", "leaf", "sky", "light", "share"]
noncomputable def c_Shade_init : Cfg := { N := N_Shade_init, sc := defScope s_Shade_init, calls := [(("in_one", 1, []), G_in_one)], consts := [], blt := ["enumerate"], fl := [("ember", ["Shade"]), ("leaf", ["Shade"]), ("sky", ["Shade"])] }
def w_Shade_init : List Str := []
theorem b_Shade_init : fnS 6 (denSs 60 c_Shade_init w_Shade_init (defBody s_Shade_init)) = G_Shade_init := by kernel_rfl
theorem sc_Shade_init : FnScope N_Shade_init ["self", "ember", "leaf", "sky"] (defScope s_Shade_init) := ⟨rfl, rfl, rfl, by decide +kernel, rfl, by decide +kernel, by decide +kernel⟩
def s_law_shade : Stmt := topS 42
def N_law_shade : List Str := ["_law_row", "_law_way"]
noncomputable def c_law_shade : Cfg := { N := N_law_shade, sc := defScope s_law_shade, calls := [(("Shade", 0, ["sky", "ember", "leaf"]), (mkF "Shade" (bnd 1 [] [.p 0, .k 1, .k 2, .k 0] G_Shade_init))), (("Shade", 3, []), (mkF "Shade" (bnd 4 [] [.p 0, .p 1, .p 2, .p 3] G_Shade_init)))], consts := [], blt := [], own := ["Shade"] }
def w_law_shade : List Str := []
theorem b_law_shade : fnS 2 (denSs 60 c_law_shade w_law_shade (defBody s_law_shade)) = G_law_shade := by kernel_rfl
theorem sc_law_shade : FnScope N_law_shade ["_law_row", "_law_way"] (defScope s_law_shade) := ⟨rfl, rfl, rfl, by decide +kernel, rfl, by decide +kernel, by decide +kernel⟩
def s_law_weights : Stmt := topS 45
def N_law_weights : List Str := ["_law_purse_here", "_law_many", "_law_most", "_law_found", "_law_k"]
noncomputable def c_law_weights : Cfg := { N := N_law_weights, sc := defScope s_law_weights, calls := [(("_law_pick", 2, []), G_law_pick)], consts := [], blt := ["range", "sum", "tuple"] }
def w_law_weights : List Str := ["_law_found"]
theorem b_law_weights : fnS 5 (denSs 60 c_law_weights w_law_weights (defBody s_law_weights)) = G_law_weights := by kernel_rfl
theorem sc_law_weights : FnScope N_law_weights ["_law_purse_here", "_law_many"] (defScope s_law_weights) := ⟨rfl, rfl, rfl, by decide +kernel, rfl, by decide +kernel, by decide +kernel⟩
def s_law_plus : Stmt := topS 35
def N_law_plus : List Str := ["_law_a", "_law_b"]
noncomputable def c_law_plus : Cfg := { N := N_law_plus, sc := defScope s_law_plus, calls := [(("_law_low", 2, []), G_law_low)], consts := [], blt := [] }
def w_law_plus : List Str := []
theorem b_law_plus : fnS 2 (denSs 60 c_law_plus w_law_plus (defBody s_law_plus)) = G_law_plus := by kernel_rfl
theorem sc_law_plus : FnScope N_law_plus ["_law_a", "_law_b"] (defScope s_law_plus) := ⟨rfl, rfl, rfl, by decide +kernel, rfl, by decide +kernel, by decide +kernel⟩
def s_law_times : Stmt := topS 36
def N_law_times : List Str := ["_law_a", "_law_b"]
noncomputable def c_law_times : Cfg := { N := N_law_times, sc := defScope s_law_times, calls := [(("_law_low", 2, []), G_law_low)], consts := [], blt := [] }
def w_law_times : List Str := []
theorem b_law_times : fnS 2 (denSs 60 c_law_times w_law_times (defBody s_law_times)) = G_law_times := by kernel_rfl
theorem sc_law_times : FnScope N_law_times ["_law_a", "_law_b"] (defScope s_law_times) := ⟨rfl, rfl, rfl, by decide +kernel, rfl, by decide +kernel, by decide +kernel⟩
def s_law_over : Stmt := topS 37
def N_law_over : List Str := ["_law_a", "_law_b"]
noncomputable def c_law_over : Cfg := { N := N_law_over, sc := defScope s_law_over, calls := [(("_law_low", 2, []), G_law_low)], consts := [], blt := [] }
def w_law_over : List Str := []
theorem b_law_over : fnS 2 (denSs 60 c_law_over w_law_over (defBody s_law_over)) = G_law_over := by kernel_rfl
theorem sc_law_over : FnScope N_law_over ["_law_a", "_law_b"] (defScope s_law_over) := ⟨rfl, rfl, rfl, by decide +kernel, rfl, by decide +kernel, by decide +kernel⟩
def s_law_mixed : Stmt := topS 44
def N_law_mixed : List Str := ["_law_rows_here", "_law_loads", "_law_found", "_law_light", "_law_heap", "_law_row", "_law_load"]
noncomputable def c_law_mixed : Cfg := { N := N_law_mixed, sc := defScope s_law_mixed, calls := [(("_law_plus", 2, []), G_law_plus), (("_law_times", 2, []), G_law_times), (("_law_over", 2, []), G_law_over)], consts := [], blt := ["range", "zip", "sum", "tuple"] }
def w_law_mixed : List Str := ["_law_found"]
theorem b_law_mixed : fnS 7 (denSs 60 c_law_mixed w_law_mixed (defBody s_law_mixed)) = G_law_mixed := by kernel_rfl
theorem sc_law_mixed : FnScope N_law_mixed ["_law_rows_here", "_law_loads"] (defScope s_law_mixed) := ⟨rfl, rfl, rfl, by decide +kernel, rfl, by decide +kernel, by decide +kernel⟩
def s_are_shades : Stmt := topS 22
def N_are_shades : List Str := ["thing", "least", "most", "one"]
noncomputable def c_are_shades : Cfg := { N := N_are_shades, sc := defScope s_are_shades, calls := [], consts := [], blt := ["isinstance", "tuple", "len", "all"], own := ["Shade"] }
def w_are_shades : List Str := []
theorem b_are_shades : fnS 4 (denSs 60 c_are_shades w_are_shades (defBody s_are_shades)) = G_are_shades := by kernel_rfl
theorem sc_are_shades : FnScope N_are_shades ["thing", "least", "most"] (defScope s_are_shades) := ⟨rfl, rfl, rfl, by decide +kernel, rfl, by decide +kernel, by decide +kernel⟩
def s_are_weights : Stmt := topS 26
def N_are_weights : List Str := ["thing", "many", "weight"]
noncomputable def c_are_weights : Cfg := { N := N_are_weights, sc := defScope s_are_weights, calls := [(("is_whole", 1, []), G_is_whole)], consts := [("MOST_WEIGHT", .int 1000000)], blt := ["isinstance", "tuple", "len", "all", "sum"] }
def w_are_weights : List Str := []
theorem b_are_weights : fnS 3 (denSs 60 c_are_weights w_are_weights (defBody s_are_weights)) = G_are_weights := by kernel_rfl
theorem sc_are_weights : FnScope N_are_weights ["thing", "many"] (defScope s_are_weights) := ⟨rfl, rfl, rfl, by decide +kernel, rfl, by decide +kernel, by decide +kernel⟩
def s_shade_by : Stmt := topS 21
def N_shade_by : List Str := ["shares"]
noncomputable def c_shade_by : Cfg := { N := N_shade_by, sc := defScope s_shade_by, calls := [(("Shade", 3, []), (mkF "Shade" (bnd 4 [] [.p 0, .p 1, .p 2, .p 3] G_Shade_init)))], consts := [], blt := [], own := ["Shade"] }
def w_shade_by : List Str := []
theorem b_shade_by : fnS 1 (denSs 60 c_shade_by w_shade_by (defBody s_shade_by)) = G_shade_by := by kernel_rfl
theorem sc_shade_by : FnScope N_shade_by ["shares"] (defScope s_shade_by) := ⟨rfl, rfl, rfl, by decide +kernel, rfl, by decide +kernel, by decide +kernel⟩
def s_low : Stmt := topS 9
def N_low : List Str := ["top", "bottom", "shared"]
noncomputable def c_low : Cfg := { N := N_low, sc := defScope s_low, calls := [(("share_of", 2, []), G_share_of)], consts := [], blt := ["abs"] }
def w_low : List Str := []
theorem b_low : fnS 3 (denSs 60 c_low w_low (defBody s_low)) = G_low := by kernel_rfl
theorem sc_low : FnScope N_low ["top", "bottom"] (defScope s_low) := ⟨rfl, rfl, rfl, by decide +kernel, rfl, by decide +kernel, by decide +kernel⟩
def s_mul : Stmt := topS 14
def N_mul : List Str := ["a", "b"]
noncomputable def c_mul : Cfg := { N := N_mul, sc := defScope s_mul, calls := [(("low", 2, []), G_low)], consts := [], blt := [] }
def w_mul : List Str := []
theorem b_mul : fnS 2 (denSs 60 c_mul w_mul (defBody s_mul)) = G_mul := by kernel_rfl
theorem sc_mul : FnScope N_mul ["a", "b"] (defScope s_mul) := ⟨rfl, rfl, rfl, by decide +kernel, rfl, by decide +kernel, by decide +kernel⟩
def s_div : Stmt := topS 15
def N_div : List Str := ["a", "b"]
noncomputable def c_div : Cfg := { N := N_div, sc := defScope s_div, calls := [(("low", 2, []), G_low)], consts := [], blt := [] }
def w_div : List Str := []
theorem b_div : fnS 2 (denSs 60 c_div w_div (defBody s_div)) = G_div := by kernel_rfl
theorem sc_div : FnScope N_div ["a", "b"] (defScope s_div) := ⟨rfl, rfl, rfl, by decide +kernel, rfl, by decide +kernel, by decide +kernel⟩
def s_add : Stmt := topS 13
def N_add : List Str := ["a", "b"]
noncomputable def c_add : Cfg := { N := N_add, sc := defScope s_add, calls := [(("low", 2, []), G_low)], consts := [], blt := [] }
def w_add : List Str := []
theorem b_add : fnS 2 (denSs 60 c_add w_add (defBody s_add)) = G_add := by kernel_rfl
theorem sc_add : FnScope N_add ["a", "b"] (defScope s_add) := ⟨rfl, rfl, rfl, by decide +kernel, rfl, by decide +kernel, by decide +kernel⟩
def s_total : Stmt := topS 16
def N_total : List Str := ["row", "found", "one"]
noncomputable def c_total : Cfg := { N := N_total, sc := defScope s_total, calls := [(("add", 2, []), G_add)], consts := [("ZERO", .tup [(.int 0), (.int 1)])], blt := [] }
def w_total : List Str := []
theorem b_total : fnS 3 (denSs 60 c_total w_total (defBody s_total)) = G_total := by kernel_rfl
theorem sc_total : FnScope N_total ["row"] (defScope s_total) := ⟨rfl, rfl, rfl, by decide +kernel, rfl, by decide +kernel, by decide +kernel⟩
def s_mixed : Stmt := topS 27
def N_mixed : List Str := ["rows", "weights", "found", "light", "parts", "row", "weight"]
noncomputable def c_mixed : Cfg := { N := N_mixed, sc := defScope s_mixed, calls := [(("mul", 2, []), G_mul), (("div", 2, []), G_div), (("total", 1, []), G_total)], consts := [], blt := ["range", "zip", "sum", "tuple"] }
def w_mixed : List Str := ["found", "parts"]
theorem b_mixed : fnS 7 (denSs 60 c_mixed w_mixed (defBody s_mixed)) = G_mixed := by kernel_rfl
theorem sc_mixed : FnScope N_mixed ["rows", "weights"] (defScope s_mixed) := ⟨rfl, rfl, rfl, by decide +kernel, rfl, by decide +kernel, by decide +kernel⟩
def s_parts_of : Stmt := topS 20
def N_parts_of : List Str := ["shade"]
noncomputable def c_parts_of : Cfg := { N := N_parts_of, sc := defScope s_parts_of, calls := [], consts := [], blt := [], fl := [("ember", ["Shade"]), ("leaf", ["Shade"]), ("sky", ["Shade"])] }
def w_parts_of : List Str := []
theorem b_parts_of : fnS 1 (denSs 60 c_parts_of w_parts_of (defBody s_parts_of)) = G_parts_of := by kernel_rfl
theorem sc_parts_of : FnScope N_parts_of ["shade"] (defScope s_parts_of) := ⟨rfl, rfl, rfl, by decide +kernel, rfl, by decide +kernel, by decide +kernel⟩
def s_mix : Stmt := topS 28
def N_mix : List Str := ["shades", "weights", "shade"]
noncomputable def c_mix : Cfg := { N := N_mix, sc := defScope s_mix, calls := [(("are_shades", 3, []), G_are_shades), (("are_weights", 2, []), G_are_weights), (("shade_by", 1, []), G_shade_by), (("mixed", 2, []), G_mixed), (("parts_of", 1, []), G_parts_of)], consts := [("MOST_SHADES", .int 60)], blt := ["len"] }
def w_mix : List Str := []
theorem b_mix : fnS 3 (denSs 60 c_mix w_mix (defBody s_mix)) = G_mix := by kernel_rfl
theorem sc_mix : FnScope N_mix ["shades", "weights"] (defScope s_mix) := ⟨rfl, rfl, rfl, by decide +kernel, rfl, by decide +kernel, by decide +kernel⟩
def s_law_asked : Stmt := topS 47
def N_law_asked : List Str := ["_law_tints", "_law_loads", "_law_way"]
noncomputable def c_law_asked : Cfg := { N := N_law_asked, sc := defScope s_law_asked, calls := [(("mix", 1, []), (bnd 1 [.non] [.p 0, .d 0] G_mix)), (("mix", 0, ["shades"]), (bnd 0 [.non] [.k 0, .d 0] G_mix)), (("mix", 2, []), (bnd 2 [.non] [.p 0, .p 1] G_mix)), (("mix", 0, ["weights", "shades"]), (bnd 0 [.non] [.k 1, .k 0] G_mix))], consts := [], blt := [] }
def w_law_asked : List Str := []
theorem b_law_asked : fnS 3 (denSs 60 c_law_asked w_law_asked (defBody s_law_asked)) = G_law_asked := by kernel_rfl
theorem sc_law_asked : FnScope N_law_asked ["_law_tints", "_law_loads", "_law_way"] (defScope s_law_asked) := ⟨rfl, rfl, rfl, by decide +kernel, rfl, by decide +kernel, by decide +kernel⟩
def s_law_whole : Stmt := topS 33
def N_law_whole : List Str := ["_law_thing"]
noncomputable def c_law_whole : Cfg := { N := N_law_whole, sc := defScope s_law_whole, calls := [], consts := [], blt := ["isinstance", "int", "bool"] }
def w_law_whole : List Str := []
theorem b_law_whole : fnS 1 (denSs 60 c_law_whole w_law_whole (defBody s_law_whole)) = G_is_whole := by kernel_rfl
theorem sc_law_whole : FnScope N_law_whole ["_law_thing"] (defScope s_law_whole) := ⟨rfl, rfl, rfl, by decide +kernel, rfl, by decide +kernel, by decide +kernel⟩
def s_law_is_fraction : Stmt := topS 38
def N_law_is_fraction : List Str := ["_law_thing"]
noncomputable def c_law_is_fraction : Cfg := { N := N_law_is_fraction, sc := defScope s_law_is_fraction, calls := [(("_law_whole", 1, []), G_is_whole), (("_law_low", 2, []), G_law_low)], consts := [], blt := ["isinstance", "tuple", "len"] }
def w_law_is_fraction : List Str := []
theorem b_law_is_fraction : fnS 1 (denSs 60 c_law_is_fraction w_law_is_fraction (defBody s_law_is_fraction)) = G_law_is_fraction := by kernel_rfl
theorem sc_law_is_fraction : FnScope N_law_is_fraction ["_law_thing"] (defScope s_law_is_fraction) := ⟨rfl, rfl, rfl, by decide +kernel, rfl, by decide +kernel, by decide +kernel⟩
def s_law_got : Stmt := topS 43
def N_law_got : List Str := ["_law_thing", "_law_found", "_law_share_here"]
noncomputable def c_law_got : Cfg := { N := N_law_got, sc := defScope s_law_got, calls := [(("_law_is_fraction", 1, []), G_law_is_fraction)], consts := [], blt := ["isinstance", "all"], own := ["Shade"], fl := [("ember", ["Shade"]), ("leaf", ["Shade"]), ("sky", ["Shade"])] }
def w_law_got : List Str := []
theorem b_law_got : fnS 3 (denSs 60 c_law_got w_law_got (defBody s_law_got)) = G_law_got := by kernel_rfl
theorem sc_law_got : FnScope N_law_got ["_law_thing"] (defScope s_law_got) := ⟨rfl, rfl, rfl, by decide +kernel, rfl, by decide +kernel, by decide +kernel⟩
def s_law : Stmt := topS 48
def N_law : List Str := ["_law_script", "_law_k", "_law_purse_here", "_law_way", "_law_great", "_law_many", "_law_rows_here", "_law_tints", "_law_loads", "_law_due", "_law_told", "_law_row", "_law_tint"]
noncomputable def c_law : Cfg := { N := N_law, sc := defScope s_law, calls := [(("_law_purse", 1, []), G_law_purse), (("_law_cell", 2, []), G_law_cell), (("_law_pick", 2, []), G_law_pick), (("_law_rows", 2, []), G_law_rows), (("_law_shade", 2, []), G_law_shade), (("_law_weights", 2, []), G_law_weights), (("_law_mixed", 2, []), G_law_mixed), (("_law_asked", 3, []), G_law_asked), (("_law_got", 1, []), G_law_got)], consts := [], blt := ["range", "max", "min", "len", "int", "tuple"], eqs := [("Shade", G_Shade_eq)] }
def w_law : List Str := ["_law_rows_here"]
theorem b_law : fnS 13 (denSs 60 c_law w_law (defBody s_law)) = G_law := by kernel_rfl
theorem sc_law : FnScope N_law ["_law_script"] (defScope s_law) := ⟨rfl, rfl, rfl, by decide +kernel, rfl, by decide +kernel, by decide +kernel⟩
theorem all_mk {l : PySem.W.OpenLaw} {w : World} {K : PySem.W.Frag} {h : Heap} {mg : Str → Option Value} {fa f0 f1 f2 f3 f4 f5 f6 f7 f8 f9 f10 f11 f12 f13 f14 f15 f16 f17 f18 f19 f20 f21 f22 f23 f24 f25 f26 f27 f28 f29 f30 f31 f32 f33 f34 f35 f36 C0 t31 a_k2_0 : Addr} (X : K.In h) (G : h.Ns mainGlobals mg) (hfa : mg "law" = some (.ref fa))
    {od0 an0 od1 an1 od2 an2 od3 an3 od4 an4 od5 an5 od6 an6 od7 an7 od8 an8 od9 an9 od10 an10 od11 an11 od12 an12 od13 an13 od14 an14 od15 an15 od16 an16 od17 an17 od18 an18 od19 an19 od20 an20 od21 an21 od22 an22 od23 an23 od24 an24 od25 an25 od26 an26 od27 an27 od28 an28 od29 an29 od30 an30 od31 an31 od32 an32 od33 an33 od34 an34 od35 an35 od36 an36 td31 d_k2_0 : Option Addr} {sl0 sl1 sl2 sl3 sl4 sl5 sl6 sl7 sl8 sl9 sl10 sl11 sl12 sl13 sl14 sl15 sl16 sl17 sl18 sl19 sl20 sl21 sl22 sl23 sl24 sl25 sl26 sl27 sl28 sl29 sl30 sl31 sl32 sl33 sl34 sl35 sl36 ts31 s_k2_0 : Array (Option Value)} {oc0 kV0 dc0 pm0 cd0 ct0 oc1 kV1 dc1 pm1 cd1 ct1 oc2 kV2 dc2 pm2 cd2 ct2 oc3 kV3 dc3 pm3 cd3 ct3 oc4 kV4 dc4 pm4 cd4 ct4 oc5 kV5 dc5 pm5 cd5 ct5 oc6 kV6 dc6 pm6 cd6 ct6 oc7 kV7 dc7 pm7 cd7 ct7 oc8 kV8 dc8 pm8 cd8 ct8 oc9 kV9 dc9 pm9 cd9 ct9 oc10 kV10 dc10 pm10 cd10 ct10 oc11 kV11 dc11 pm11 cd11 ct11 oc12 kV12 dc12 pm12 cd12 ct12 oc13 kV13 dc13 pm13 cd13 ct13 oc14 kV14 dc14 pm14 cd14 ct14 oc15 kV15 dc15 pm15 cd15 ct15 oc16 kV16 dc16 pm16 cd16 ct16 oc17 kV17 dc17 pm17 cd17 ct17 oc18 kV18 dc18 pm18 cd18 ct18 oc19 kV19 dc19 pm19 cd19 ct19 oc20 kV20 dc20 pm20 cd20 ct20 oc21 kV21 dc21 pm21 cd21 ct21 oc22 kV22 dc22 pm22 cd22 ct22 oc23 kV23 dc23 pm23 cd23 ct23 oc24 kV24 dc24 pm24 cd24 ct24 oc25 kV25 dc25 pm25 cd25 ct25 oc26 kV26 dc26 pm26 cd26 ct26 oc27 kV27 dc27 pm27 cd27 ct27 oc28 kV28 dc28 pm28 cd28 ct28 oc29 kV29 dc29 pm29 cd29 ct29 oc30 kV30 dc30 pm30 cd30 ct30 oc31 kV31 dc31 pm31 cd31 ct31 oc32 kV32 dc32 pm32 cd32 ct32 oc33 kV33 dc33 pm33 cd33 ct33 oc34 kV34 dc34 pm34 cd34 ct34 oc35 kV35 dc35 pm35 cd35 ct35 oc36 kV36 dc36 pm36 cd36 ct36 tc31 : Value} {tn31 : _} {k0_0 : _} {k1_0 : _} {k2_1 : _} {k2_2 : _} {n_k2_0 : _} {cv0 : _}
    (l0 : K.lookup f0 = some ⟨oc0, od0, .func (PySem.W.fnOf "__eq__" "Shade.__eq__" (defArgs s_Shade_eq) (defBody s_Shade_eq) (defScope s_Shade_eq) .none kV0 dc0 pm0 an0 cd0 ct0), sl0⟩)
    (c0 : PySem.W.codeIn K cd0 "Shade.__eq__" = true)
    (a1 : PySem.W.nsIn K mainGlobals "_law_purse" = some (some (.ref f1)))
    (l1 : K.lookup f1 = some ⟨oc1, od1, .func (PySem.W.fnOf "_law_purse" "_law_purse" (defArgs s_law_purse) (defBody s_law_purse) (defScope s_law_purse) .none kV1 dc1 pm1 an1 cd1 ct1), sl1⟩)
    (c1 : PySem.W.codeIn K cd1 "_law_purse" = true)
    (k1 : PySem.W.keepIn K (.ref f1) = true)
    (a2 : PySem.W.nsIn K mainGlobals "_law_cell" = some (some (.ref f2)))
    (l2 : K.lookup f2 = some ⟨oc2, od2, .func (PySem.W.fnOf "_law_cell" "_law_cell" (defArgs s_law_cell) (defBody s_law_cell) (defScope s_law_cell) .none kV2 dc2 pm2 an2 cd2 ct2), sl2⟩)
    (c2 : PySem.W.codeIn K cd2 "_law_cell" = true)
    (k2 : PySem.W.keepIn K (.ref f2) = true)
    (a3 : PySem.W.nsIn K mainGlobals "_law_pick" = some (some (.ref f3)))
    (l3 : K.lookup f3 = some ⟨oc3, od3, .func (PySem.W.fnOf "_law_pick" "_law_pick" (defArgs s_law_pick) (defBody s_law_pick) (defScope s_law_pick) .none kV3 dc3 pm3 an3 cd3 ct3), sl3⟩)
    (c3 : PySem.W.codeIn K cd3 "_law_pick" = true)
    (k3 : PySem.W.keepIn K (.ref f3) = true)
    (a4 : PySem.W.nsIn K mainGlobals "_law_low" = some (some (.ref f4)))
    (l4 : K.lookup f4 = some ⟨oc4, od4, .func (PySem.W.fnOf "_law_low" "_law_low" (defArgs s_law_low) (defBody s_law_low) (defScope s_law_low) .none kV4 dc4 pm4 an4 cd4 ct4), sl4⟩)
    (c4 : PySem.W.codeIn K cd4 "_law_low" = true)
    (k4 : PySem.W.keepIn K (.ref f4) = true)
    (a5 : PySem.W.nsIn K mainGlobals "_law_share" = some (some (.ref f5)))
    (l5 : K.lookup f5 = some ⟨oc5, od5, .func (PySem.W.fnOf "_law_share" "_law_share" (defArgs s_law_share) (defBody s_law_share) (defScope s_law_share) .none kV5 dc5 pm5 an5 cd5 ct5), sl5⟩)
    (c5 : PySem.W.codeIn K cd5 "_law_share" = true)
    (k5 : PySem.W.keepIn K (.ref f5) = true)
    (a6 : PySem.W.nsIn K mainGlobals "_law_shares" = some (some (.ref f6)))
    (l6 : K.lookup f6 = some ⟨oc6, od6, .func (PySem.W.fnOf "_law_shares" "_law_shares" (defArgs s_law_shares) (defBody s_law_shares) (defScope s_law_shares) .none kV6 dc6 pm6 an6 cd6 ct6), sl6⟩)
    (c6 : PySem.W.codeIn K cd6 "_law_shares" = true)
    (k6 : PySem.W.keepIn K (.ref f6) = true)
    (a7 : PySem.W.nsIn K mainGlobals "_law_plain_share" = some (some (.ref f7)))
    (l7 : K.lookup f7 = some ⟨oc7, od7, .func (PySem.W.fnOf "_law_plain_share" "_law_plain_share" (defArgs s_law_plain_share) (defBody s_law_plain_share) (defScope s_law_plain_share) .none kV7 dc7 pm7 an7 cd7 ct7), sl7⟩)
    (c7 : PySem.W.codeIn K cd7 "_law_plain_share" = true)
    (k7 : PySem.W.keepIn K (.ref f7) = true)
    (a8 : PySem.W.nsIn K mainGlobals "_law_rows" = some (some (.ref f8)))
    (l8 : K.lookup f8 = some ⟨oc8, od8, .func (PySem.W.fnOf "_law_rows" "_law_rows" (defArgs s_law_rows) (defBody s_law_rows) (defScope s_law_rows) .none kV8 dc8 pm8 an8 cd8 ct8), sl8⟩)
    (c8 : PySem.W.codeIn K cd8 "_law_rows" = true)
    (k8 : PySem.W.keepIn K (.ref f8) = true)
    (a9 : PySem.W.nsIn K mainGlobals "is_whole" = some (some (.ref f9)))
    (l9 : K.lookup f9 = some ⟨oc9, od9, .func (PySem.W.fnOf "is_whole" "is_whole" (defArgs s_is_whole) (defBody s_is_whole) (defScope s_is_whole) .none kV9 dc9 pm9 an9 cd9 ct9), sl9⟩)
    (c9 : PySem.W.codeIn K cd9 "is_whole" = true)
    (k9 : PySem.W.keepIn K (.ref f9) = true)
    (a10 : PySem.W.nsIn K mainGlobals "share_of" = some (some (.ref f10)))
    (l10 : K.lookup f10 = some ⟨oc10, od10, .func (PySem.W.fnOf "share_of" "share_of" (defArgs s_share_of) (defBody s_share_of) (defScope s_share_of) .none kV10 dc10 pm10 an10 cd10 ct10), sl10⟩)
    (c10 : PySem.W.codeIn K cd10 "share_of" = true)
    (k10 : PySem.W.keepIn K (.ref f10) = true)
    (a11 : PySem.W.nsIn K mainGlobals "is_fraction" = some (some (.ref f11)))
    (l11 : K.lookup f11 = some ⟨oc11, od11, .func (PySem.W.fnOf "is_fraction" "is_fraction" (defArgs s_is_fraction) (defBody s_is_fraction) (defScope s_is_fraction) .none kV11 dc11 pm11 an11 cd11 ct11), sl11⟩)
    (c11 : PySem.W.codeIn K cd11 "is_fraction" = true)
    (k11 : PySem.W.keepIn K (.ref f11) = true)
    (a12 : PySem.W.nsIn K mainGlobals "from_zero" = some (some (.ref f12)))
    (l12 : K.lookup f12 = some ⟨oc12, od12, .func (PySem.W.fnOf "from_zero" "from_zero" (defArgs s_from_zero) (defBody s_from_zero) (defScope s_from_zero) .none kV12 dc12 pm12 an12 cd12 ct12), sl12⟩)
    (c12 : PySem.W.codeIn K cd12 "from_zero" = true)
    (k12 : PySem.W.keepIn K (.ref f12) = true)
    (a13 : PySem.W.nsIn K mainGlobals "in_one" = some (some (.ref f13)))
    (l13 : K.lookup f13 = some ⟨oc13, od13, .func (PySem.W.fnOf "in_one" "in_one" (defArgs s_in_one) (defBody s_in_one) (defScope s_in_one) .none kV13 dc13 pm13 an13 cd13 ct13), sl13⟩)
    (c13 : PySem.W.codeIn K cd13 "in_one" = true)
    (k13 : PySem.W.keepIn K (.ref f13) = true)
    (l14 : K.lookup f14 = some ⟨oc14, od14, .func (PySem.W.fnOf "__init__" "Shade.__init__" (defArgs s_Shade_init) (defBody s_Shade_init) (defScope s_Shade_init) .none kV14 dc14 pm14 an14 cd14 ct14), sl14⟩)
    (c14 : PySem.W.codeIn K cd14 "Shade.__init__" = true)
    (a15 : PySem.W.nsIn K mainGlobals "_law_shade" = some (some (.ref f15)))
    (l15 : K.lookup f15 = some ⟨oc15, od15, .func (PySem.W.fnOf "_law_shade" "_law_shade" (defArgs s_law_shade) (defBody s_law_shade) (defScope s_law_shade) .none kV15 dc15 pm15 an15 cd15 ct15), sl15⟩)
    (c15 : PySem.W.codeIn K cd15 "_law_shade" = true)
    (k15 : PySem.W.keepIn K (.ref f15) = true)
    (a16 : PySem.W.nsIn K mainGlobals "_law_weights" = some (some (.ref f16)))
    (l16 : K.lookup f16 = some ⟨oc16, od16, .func (PySem.W.fnOf "_law_weights" "_law_weights" (defArgs s_law_weights) (defBody s_law_weights) (defScope s_law_weights) .none kV16 dc16 pm16 an16 cd16 ct16), sl16⟩)
    (c16 : PySem.W.codeIn K cd16 "_law_weights" = true)
    (k16 : PySem.W.keepIn K (.ref f16) = true)
    (a17 : PySem.W.nsIn K mainGlobals "_law_plus" = some (some (.ref f17)))
    (l17 : K.lookup f17 = some ⟨oc17, od17, .func (PySem.W.fnOf "_law_plus" "_law_plus" (defArgs s_law_plus) (defBody s_law_plus) (defScope s_law_plus) .none kV17 dc17 pm17 an17 cd17 ct17), sl17⟩)
    (c17 : PySem.W.codeIn K cd17 "_law_plus" = true)
    (k17 : PySem.W.keepIn K (.ref f17) = true)
    (a18 : PySem.W.nsIn K mainGlobals "_law_times" = some (some (.ref f18)))
    (l18 : K.lookup f18 = some ⟨oc18, od18, .func (PySem.W.fnOf "_law_times" "_law_times" (defArgs s_law_times) (defBody s_law_times) (defScope s_law_times) .none kV18 dc18 pm18 an18 cd18 ct18), sl18⟩)
    (c18 : PySem.W.codeIn K cd18 "_law_times" = true)
    (k18 : PySem.W.keepIn K (.ref f18) = true)
    (a19 : PySem.W.nsIn K mainGlobals "_law_over" = some (some (.ref f19)))
    (l19 : K.lookup f19 = some ⟨oc19, od19, .func (PySem.W.fnOf "_law_over" "_law_over" (defArgs s_law_over) (defBody s_law_over) (defScope s_law_over) .none kV19 dc19 pm19 an19 cd19 ct19), sl19⟩)
    (c19 : PySem.W.codeIn K cd19 "_law_over" = true)
    (k19 : PySem.W.keepIn K (.ref f19) = true)
    (a20 : PySem.W.nsIn K mainGlobals "_law_mixed" = some (some (.ref f20)))
    (l20 : K.lookup f20 = some ⟨oc20, od20, .func (PySem.W.fnOf "_law_mixed" "_law_mixed" (defArgs s_law_mixed) (defBody s_law_mixed) (defScope s_law_mixed) .none kV20 dc20 pm20 an20 cd20 ct20), sl20⟩)
    (c20 : PySem.W.codeIn K cd20 "_law_mixed" = true)
    (k20 : PySem.W.keepIn K (.ref f20) = true)
    (a21 : PySem.W.nsIn K mainGlobals "are_shades" = some (some (.ref f21)))
    (l21 : K.lookup f21 = some ⟨oc21, od21, .func (PySem.W.fnOf "are_shades" "are_shades" (defArgs s_are_shades) (defBody s_are_shades) (defScope s_are_shades) .none kV21 dc21 pm21 an21 cd21 ct21), sl21⟩)
    (c21 : PySem.W.codeIn K cd21 "are_shades" = true)
    (k21 : PySem.W.keepIn K (.ref f21) = true)
    (a22 : PySem.W.nsIn K mainGlobals "are_weights" = some (some (.ref f22)))
    (l22 : K.lookup f22 = some ⟨oc22, od22, .func (PySem.W.fnOf "are_weights" "are_weights" (defArgs s_are_weights) (defBody s_are_weights) (defScope s_are_weights) .none kV22 dc22 pm22 an22 cd22 ct22), sl22⟩)
    (c22 : PySem.W.codeIn K cd22 "are_weights" = true)
    (k22 : PySem.W.keepIn K (.ref f22) = true)
    (a23 : PySem.W.nsIn K mainGlobals "shade_by" = some (some (.ref f23)))
    (l23 : K.lookup f23 = some ⟨oc23, od23, .func (PySem.W.fnOf "shade_by" "shade_by" (defArgs s_shade_by) (defBody s_shade_by) (defScope s_shade_by) .none kV23 dc23 pm23 an23 cd23 ct23), sl23⟩)
    (c23 : PySem.W.codeIn K cd23 "shade_by" = true)
    (k23 : PySem.W.keepIn K (.ref f23) = true)
    (a24 : PySem.W.nsIn K mainGlobals "low" = some (some (.ref f24)))
    (l24 : K.lookup f24 = some ⟨oc24, od24, .func (PySem.W.fnOf "low" "low" (defArgs s_low) (defBody s_low) (defScope s_low) .none kV24 dc24 pm24 an24 cd24 ct24), sl24⟩)
    (c24 : PySem.W.codeIn K cd24 "low" = true)
    (k24 : PySem.W.keepIn K (.ref f24) = true)
    (a25 : PySem.W.nsIn K mainGlobals "mul" = some (some (.ref f25)))
    (l25 : K.lookup f25 = some ⟨oc25, od25, .func (PySem.W.fnOf "mul" "mul" (defArgs s_mul) (defBody s_mul) (defScope s_mul) .none kV25 dc25 pm25 an25 cd25 ct25), sl25⟩)
    (c25 : PySem.W.codeIn K cd25 "mul" = true)
    (k25 : PySem.W.keepIn K (.ref f25) = true)
    (a26 : PySem.W.nsIn K mainGlobals "div" = some (some (.ref f26)))
    (l26 : K.lookup f26 = some ⟨oc26, od26, .func (PySem.W.fnOf "div" "div" (defArgs s_div) (defBody s_div) (defScope s_div) .none kV26 dc26 pm26 an26 cd26 ct26), sl26⟩)
    (c26 : PySem.W.codeIn K cd26 "div" = true)
    (k26 : PySem.W.keepIn K (.ref f26) = true)
    (a27 : PySem.W.nsIn K mainGlobals "add" = some (some (.ref f27)))
    (l27 : K.lookup f27 = some ⟨oc27, od27, .func (PySem.W.fnOf "add" "add" (defArgs s_add) (defBody s_add) (defScope s_add) .none kV27 dc27 pm27 an27 cd27 ct27), sl27⟩)
    (c27 : PySem.W.codeIn K cd27 "add" = true)
    (k27 : PySem.W.keepIn K (.ref f27) = true)
    (a28 : PySem.W.nsIn K mainGlobals "total" = some (some (.ref f28)))
    (l28 : K.lookup f28 = some ⟨oc28, od28, .func (PySem.W.fnOf "total" "total" (defArgs s_total) (defBody s_total) (defScope s_total) .none kV28 dc28 pm28 an28 cd28 ct28), sl28⟩)
    (c28 : PySem.W.codeIn K cd28 "total" = true)
    (k28 : PySem.W.keepIn K (.ref f28) = true)
    (a29 : PySem.W.nsIn K mainGlobals "mixed" = some (some (.ref f29)))
    (l29 : K.lookup f29 = some ⟨oc29, od29, .func (PySem.W.fnOf "mixed" "mixed" (defArgs s_mixed) (defBody s_mixed) (defScope s_mixed) .none kV29 dc29 pm29 an29 cd29 ct29), sl29⟩)
    (c29 : PySem.W.codeIn K cd29 "mixed" = true)
    (k29 : PySem.W.keepIn K (.ref f29) = true)
    (a30 : PySem.W.nsIn K mainGlobals "parts_of" = some (some (.ref f30)))
    (l30 : K.lookup f30 = some ⟨oc30, od30, .func (PySem.W.fnOf "parts_of" "parts_of" (defArgs s_parts_of) (defBody s_parts_of) (defScope s_parts_of) .none kV30 dc30 pm30 an30 cd30 ct30), sl30⟩)
    (c30 : PySem.W.codeIn K cd30 "parts_of" = true)
    (k30 : PySem.W.keepIn K (.ref f30) = true)
    (a31 : PySem.W.nsIn K mainGlobals "mix" = some (some (.ref f31)))
    (l31 : K.lookup f31 = some ⟨oc31, od31, .func (PySem.W.fnOf "mix" "mix" (defArgs s_mix) (defBody s_mix) (defScope s_mix) (.ref t31) kV31 dc31 pm31 an31 cd31 ct31), sl31⟩)
    (c31 : PySem.W.codeIn K cd31 "mix" = true)
    (k31 : PySem.W.keepIn K (.ref f31) = true)
    (lt31 : K.lookup t31 = some ⟨tc31, td31, .seq #[.none] tn31, ts31⟩)
    (a32 : PySem.W.nsIn K mainGlobals "_law_asked" = some (some (.ref f32)))
    (l32 : K.lookup f32 = some ⟨oc32, od32, .func (PySem.W.fnOf "_law_asked" "_law_asked" (defArgs s_law_asked) (defBody s_law_asked) (defScope s_law_asked) .none kV32 dc32 pm32 an32 cd32 ct32), sl32⟩)
    (c32 : PySem.W.codeIn K cd32 "_law_asked" = true)
    (k32 : PySem.W.keepIn K (.ref f32) = true)
    (a33 : PySem.W.nsIn K mainGlobals "_law_whole" = some (some (.ref f33)))
    (l33 : K.lookup f33 = some ⟨oc33, od33, .func (PySem.W.fnOf "_law_whole" "_law_whole" (defArgs s_law_whole) (defBody s_law_whole) (defScope s_law_whole) .none kV33 dc33 pm33 an33 cd33 ct33), sl33⟩)
    (c33 : PySem.W.codeIn K cd33 "_law_whole" = true)
    (k33 : PySem.W.keepIn K (.ref f33) = true)
    (a34 : PySem.W.nsIn K mainGlobals "_law_is_fraction" = some (some (.ref f34)))
    (l34 : K.lookup f34 = some ⟨oc34, od34, .func (PySem.W.fnOf "_law_is_fraction" "_law_is_fraction" (defArgs s_law_is_fraction) (defBody s_law_is_fraction) (defScope s_law_is_fraction) .none kV34 dc34 pm34 an34 cd34 ct34), sl34⟩)
    (c34 : PySem.W.codeIn K cd34 "_law_is_fraction" = true)
    (k34 : PySem.W.keepIn K (.ref f34) = true)
    (a35 : PySem.W.nsIn K mainGlobals "_law_got" = some (some (.ref f35)))
    (l35 : K.lookup f35 = some ⟨oc35, od35, .func (PySem.W.fnOf "_law_got" "_law_got" (defArgs s_law_got) (defBody s_law_got) (defScope s_law_got) .none kV35 dc35 pm35 an35 cd35 ct35), sl35⟩)
    (c35 : PySem.W.codeIn K cd35 "_law_got" = true)
    (k35 : PySem.W.keepIn K (.ref f35) = true)
    (a36 : PySem.W.nsIn K mainGlobals "law" = some (some (.ref f36)))
    (l36 : K.lookup f36 = some ⟨oc36, od36, .func (PySem.W.fnOf "law" "law" (defArgs s_law) (defBody s_law) (defScope s_law) .none kV36 dc36 pm36 an36 cd36 ct36), sl36⟩)
    (c36 : PySem.W.codeIn K cd36 "law" = true)
    (k36 : PySem.W.keepIn K (.ref f36) = true)
    (z_abs : PySem.W.nsIn K mainGlobals "abs" = some none)
    (z_all : PySem.W.nsIn K mainGlobals "all" = some none)
    (z_bool : PySem.W.nsIn K mainGlobals "bool" = some none)
    (z_enumerate : PySem.W.nsIn K mainGlobals "enumerate" = some none)
    (z_int : PySem.W.nsIn K mainGlobals "int" = some none)
    (z_isinstance : PySem.W.nsIn K mainGlobals "isinstance" = some none)
    (z_len : PySem.W.nsIn K mainGlobals "len" = some none)
    (z_max : PySem.W.nsIn K mainGlobals "max" = some none)
    (z_min : PySem.W.nsIn K mainGlobals "min" = some none)
    (z_range : PySem.W.nsIn K mainGlobals "range" = some none)
    (z_sum : PySem.W.nsIn K mainGlobals "sum" = some none)
    (z_tuple : PySem.W.nsIn K mainGlobals "tuple" = some none)
    (z_zip : PySem.W.nsIn K mainGlobals "zip" = some none)
    (zc_MOST_SHADES : PySem.W.nsIn K mainGlobals "MOST_SHADES" = some (some (.int 60 k0_0)))
    (zc_MOST_WEIGHT : PySem.W.nsIn K mainGlobals "MOST_WEIGHT" = some (some (.int 1000000 k1_0)))
    (l_k2_0 : K.lookup a_k2_0 = some ⟨.type "tuple", d_k2_0, .seq #[.int 0 k2_1, .int 1 k2_2] n_k2_0, s_k2_0⟩)
    (zc_ZERO : PySem.W.nsIn K mainGlobals "ZERO" = some (some (.ref a_k2_0)))
    (ca0 : PySem.W.nsIn K mainGlobals "Shade" = some (some (.ref C0)))
    (cb0_0 : PySem.W.plainGet K C0 Str.empty = true)
    (cb0_1 : PySem.W.hasDictIn K C0 = true)
    (cb0_2 : PySem.W.plainOver K C0 = true)
    (cb0_3 : PySem.W.findIn K (.ref C0) "__setattr__" = some (some (.builtin "object.__setattr__")))
    (cb0_4 : PySem.W.findIn K (.ref C0) "__class__" = some (some (.builtin "object.__class__")))
    (cb0_5 : PySem.W.specialIn K (.builtin "object.__class__") "__get__" = some (some (.builtin "getset_descriptor.__get__")))
    (cb0_6 : PySem.W.takesIn K (.builtin "object.__class__") = some true)
    (cb0_7 : PySem.W.mroIn K C0 (.type "object") = some true)
    (cb0_8 : PySem.W.clsIn K C0 = some cv0)
    (cb0_9 : PySem.W.typeIn K (.ref C0) = some (.type "type"))
    (cd0_NoneType : PySem.W.subIn K (.type "NoneType") (.ref C0) = some false)
    (cd0_bool : PySem.W.subIn K (.type "bool") (.ref C0) = some false)
    (cd0_int : PySem.W.subIn K (.type "int") (.ref C0) = some false)
    (cd0_str : PySem.W.subIn K (.type "str") (.ref C0) = some false)
    (cd0_tuple : PySem.W.subIn K (.type "tuple") (.ref C0) = some false)
    (cd0_list : PySem.W.subIn K (.type "list") (.ref C0) = some false)
    (cd0_dict : PySem.W.subIn K (.type "dict") (.ref C0) = some false)
    (cu0_bool : PySem.W.subIn K (.ref C0) (.type "bool") = some false)
    (cu0_int : PySem.W.subIn K (.ref C0) (.type "int") = some false)
    (cu0_str : PySem.W.subIn K (.ref C0) (.type "str") = some false)
    (cu0_tuple : PySem.W.subIn K (.ref C0) (.type "tuple") = some false)
    (cu0_list : PySem.W.subIn K (.ref C0) (.type "list") = some false)
    (cu0_dict : PySem.W.subIn K (.ref C0) (.type "dict") = some false)
    (cf0_ember : NoAttr K C0 "ember")
    (cf0_leaf : NoAttr K C0 "leaf")
    (cf0_sky : NoAttr K C0 "sky")
    (ce0_1 : PySem.W.findIn K (.ref C0) "__eq__" = some (some (.ref f0)))
    (ce0_2 : PySem.W.isFn K (.ref f0) = true)
    (ce0_3 : PySem.W.findIn K (.ref C0) "__ne__" = some (some (.builtin "object.__ne__")))
    (cm0_0 : PySem.W.makesIn K C0 = true)
    (cm0_1 : PySem.W.findIn K (.ref C0) "__init__" = some (some (.ref f14)))
    (cm0_2 : PySem.W.isFn K (.ref f14) = true)
    (cm0_3 : PySem.W.keepIn K (.ref C0) = true) :
    ∃ fd : FuncData, (∀ (s : Shared) (v : Value), BindsTo s fd ⟨[v], []⟩ [("_law_script", v)]) ∧ ∀ base : Heap, K.In base → base.Ns mainGlobals mg → FnOk l.prog w K mg base (L2.CX l.prog w) 10 fa fd ["_law_script"] (spLaw K G_law) := by
  have e := hfa.symm.trans (PySem.W.mg_of X G a36)
  cases e
  refine ⟨(PySem.W.fnOf "law" "law" (defArgs s_law) (defBody s_law) (defScope s_law) .none kV36 dc36 pm36 an36 cd36 ct36), fun s v => .of_eq rfl, fun base _ _ => ?_⟩
  have cfac0 : CFac K C0 := ⟨⟨cb0_0, cb0_1, cb0_2, cb0_3⟩, cb0_4, cb0_5, cb0_6, cb0_7, by rw [cb0_8]; rfl, cb0_9, fun t => by cases t <;> assumption, fun t ht => by cases t <;> first | exact absurd rfl ht | assumption⟩
  have hcs : CsOk (pOf K [("Shade", C0)]) := csOk_of (allP_cons cfac0 (allP_nil)) (allP_cons (allP_cons (fun z => absurd rfl z) (allP_nil)) (allP_nil))
  have g0 : FnOk l.prog w K mg base (L2.CX l.prog w) 1 f0 (PySem.W.fnOf "__eq__" "Shade.__eq__" (defArgs s_Shade_eq) (defBody s_Shade_eq) (defScope s_Shade_eq) .none kV0 dc0 pm0 an0 cd0 ct0) ["self", "other"] (spN (pOf K [("Shade", C0)]) 2 G_Shade_eq) := by
    rw [← b_Shade_eq]
    exact def_ok (c := c_Shade_eq) (n := 60) (m := 2) (k := 0) l0 c0 sc_Shade_eq rfl rfl rfl rfl ⟨rfl, by decide +kernel, rfl, allC_nil, allK_nil, (allN_cons (PySem.W.mg_none_of X G z_isinstance) allN_nil), hcs, allE_nil, allS_nil, allM_nil, (allO_cons (PySem.W.mg_of X G ca0) (show ("Shade" : Str) ∈ (["Shade"] : List Str) from by decide) allO_nil), (allF_cons (allA_cons cf0_ember allA_nil) (allF_cons (allA_cons cf0_leaf allA_nil) (allF_cons (allA_cons cf0_sky allA_nil) allF_nil)))⟩ (by decide)
  have g1 : FnOk l.prog w K mg base (L2.CX l.prog w) 1 f1 (PySem.W.fnOf "_law_purse" "_law_purse" (defArgs s_law_purse) (defBody s_law_purse) (defScope s_law_purse) .none kV1 dc1 pm1 an1 cd1 ct1) ["_law_cell_here"] (spN (pOf K [("Shade", C0)]) 1 G_law_purse) := by
    rw [← b_law_purse]
    exact def_ok (c := c_law_purse) (n := 60) (m := 1) (k := 0) l1 c1 sc_law_purse rfl rfl rfl rfl ⟨rfl, by decide +kernel, rfl, allC_nil, allK_nil, (allN_cons (PySem.W.mg_none_of X G z_int) allN_nil), hcs, allE_nil, allS_nil, allM_nil, allO_nil, allF_nil⟩ (by decide)
  have g2 : FnOk l.prog w K mg base (L2.CX l.prog w) 1 f2 (PySem.W.fnOf "_law_cell" "_law_cell" (defArgs s_law_cell) (defBody s_law_cell) (defScope s_law_cell) .none kV2 dc2 pm2 an2 cd2 ct2) ["_law_script", "_law_k"] (spN (pOf K [("Shade", C0)]) 2 G_law_cell) := by
    rw [← b_law_cell]
    exact def_ok (c := c_law_cell) (n := 60) (m := 4) (k := 0) l2 c2 sc_law_cell rfl rfl rfl rfl ⟨rfl, by decide +kernel, rfl, allC_nil, allK_nil, (allN_cons (PySem.W.mg_none_of X G z_len) allN_nil), hcs, allE_nil, allS_nil, allM_nil, allO_nil, allF_nil⟩ (by decide)
  have g3 : FnOk l.prog w K mg base (L2.CX l.prog w) 1 f3 (PySem.W.fnOf "_law_pick" "_law_pick" (defArgs s_law_pick) (defBody s_law_pick) (defScope s_law_pick) .none kV3 dc3 pm3 an3 cd3 ct3) ["_law_purse_here", "_law_many"] (spN (pOf K [("Shade", C0)]) 2 G_law_pick) := by
    rw [← b_law_pick]
    exact def_ok (c := c_law_pick) (n := 60) (m := 4) (k := 0) l3 c3 sc_law_pick rfl rfl rfl rfl ⟨rfl, by decide +kernel, rfl, allC_nil, allK_nil, allN_nil, hcs, allE_nil, allS_nil, allM_nil, allO_nil, allF_nil⟩ (by decide)
  have g4 : FnOk l.prog w K mg base (L2.CX l.prog w) 1 f4 (PySem.W.fnOf "_law_low" "_law_low" (defArgs s_law_low) (defBody s_law_low) (defScope s_law_low) .none kV4 dc4 pm4 an4 cd4 ct4) ["_law_top", "_law_bottom"] (spN (pOf K [("Shade", C0)]) 2 G_law_low) := by
    rw [← b_law_low]
    exact def_ok (c := c_law_low) (n := 60) (m := 4) (k := 0) l4 c4 sc_law_low rfl rfl rfl rfl ⟨rfl, by decide +kernel, rfl, allC_nil, allK_nil, (allN_cons (PySem.W.mg_none_of X G z_abs) allN_nil), hcs, allE_nil, allS_nil, allM_nil, allO_nil, allF_nil⟩ (by decide)
  have q5_0 : CallF l.prog w K mg base 1 (pOf K [("Shade", C0)]) "_law_pick" 2 [] G_law_pick := (callF_of g3 (PySem.W.mg_of X G a3) k3 (bind_all fun us hl => match us, hl with | [_, _], _ => rfl)).mono (by decide)
  have q5_1 : CallF l.prog w K mg base 1 (pOf K [("Shade", C0)]) "_law_low" 2 [] G_law_low := (callF_of g4 (PySem.W.mg_of X G a4) k4 (bind_all fun us hl => match us, hl with | [_, _], _ => rfl)).mono (by decide)
  have g5 : FnOk l.prog w K mg base (L2.CX l.prog w) 2 f5 (PySem.W.fnOf "_law_share" "_law_share" (defArgs s_law_share) (defBody s_law_share) (defScope s_law_share) .none kV5 dc5 pm5 an5 cd5 ct5) ["_law_purse_here"] (spN (pOf K [("Shade", C0)]) 1 G_law_share) := by
    rw [← b_law_share]
    exact def_ok (c := c_law_share) (n := 60) (m := 3) (k := 1) l5 c5 sc_law_share rfl rfl rfl rfl ⟨rfl, by decide +kernel, rfl, (allC_cons q5_0 (allC_cons q5_1 allC_nil)), allK_nil, allN_nil, hcs, allE_nil, allS_nil, allM_nil, allO_nil, allF_nil⟩ (by decide)
  have q6_0 : CallF l.prog w K mg base 2 (pOf K [("Shade", C0)]) "_law_pick" 2 [] G_law_pick := (callF_of g3 (PySem.W.mg_of X G a3) k3 (bind_all fun us hl => match us, hl with | [_, _], _ => rfl)).mono (by decide)
  have q6_1 : CallF l.prog w K mg base 2 (pOf K [("Shade", C0)]) "_law_share" 1 [] G_law_share := (callF_of g5 (PySem.W.mg_of X G a5) k5 (bind_all fun us hl => match us, hl with | [_], _ => rfl)).mono (by decide)
  have g6 : FnOk l.prog w K mg base (L2.CX l.prog w) 3 f6 (PySem.W.fnOf "_law_shares" "_law_shares" (defArgs s_law_shares) (defBody s_law_shares) (defScope s_law_shares) .none kV6 dc6 pm6 an6 cd6 ct6) ["_law_purse_here"] (spN (pOf K [("Shade", C0)]) 1 G_law_shares) := by
    rw [← b_law_shares]
    exact def_ok (c := c_law_shares) (n := 60) (m := 4) (k := 2) l6 c6 sc_law_shares rfl rfl rfl rfl ⟨rfl, by decide +kernel, rfl, (allC_cons q6_0 (allC_cons q6_1 allC_nil)), allK_nil, (allN_cons (PySem.W.mg_none_of X G z_range) (allN_cons (PySem.W.mg_none_of X G z_tuple) allN_nil)), hcs, allE_nil, allS_nil, allM_nil, allO_nil, allF_nil⟩ (by decide)
  have q7_0 : CallF l.prog w K mg base 1 (pOf K [("Shade", C0)]) "_law_low" 2 [] G_law_low := (callF_of g4 (PySem.W.mg_of X G a4) k4 (bind_all fun us hl => match us, hl with | [_, _], _ => rfl)).mono (by decide)
  have q7_1 : CallF l.prog w K mg base 1 (pOf K [("Shade", C0)]) "_law_pick" 2 [] G_law_pick := (callF_of g3 (PySem.W.mg_of X G a3) k3 (bind_all fun us hl => match us, hl with | [_, _], _ => rfl)).mono (by decide)
  have g7 : FnOk l.prog w K mg base (L2.CX l.prog w) 2 f7 (PySem.W.fnOf "_law_plain_share" "_law_plain_share" (defArgs s_law_plain_share) (defBody s_law_plain_share) (defScope s_law_plain_share) .none kV7 dc7 pm7 an7 cd7 ct7) ["_law_purse_here"] (spN (pOf K [("Shade", C0)]) 1 G_law_plain_share) := by
    rw [← b_law_plain_share]
    exact def_ok (c := c_law_plain_share) (n := 60) (m := 1) (k := 1) l7 c7 sc_law_plain_share rfl rfl rfl rfl ⟨rfl, by decide +kernel, rfl, (allC_cons q7_0 (allC_cons q7_1 allC_nil)), allK_nil, allN_nil, hcs, allE_nil, allS_nil, allM_nil, allO_nil, allF_nil⟩ (by decide)
  have q8_0 : CallF l.prog w K mg base 3 (pOf K [("Shade", C0)]) "_law_shares" 1 [] G_law_shares := (callF_of g6 (PySem.W.mg_of X G a6) k6 (bind_all fun us hl => match us, hl with | [_], _ => rfl)).mono (by decide)
  have q8_1 : CallF l.prog w K mg base 3 (pOf K [("Shade", C0)]) "_law_plain_share" 1 [] G_law_plain_share := (callF_of g7 (PySem.W.mg_of X G a7) k7 (bind_all fun us hl => match us, hl with | [_], _ => rfl)).mono (by decide)
  have q8_2 : CallF l.prog w K mg base 3 (pOf K [("Shade", C0)]) "_law_pick" 2 [] G_law_pick := (callF_of g3 (PySem.W.mg_of X G a3) k3 (bind_all fun us hl => match us, hl with | [_, _], _ => rfl)).mono (by decide)
  have g8 : FnOk l.prog w K mg base (L2.CX l.prog w) 4 f8 (PySem.W.fnOf "_law_rows" "_law_rows" (defArgs s_law_rows) (defBody s_law_rows) (defScope s_law_rows) .none kV8 dc8 pm8 an8 cd8 ct8) ["_law_purse_here", "_law_many"] (spN (pOf K [("Shade", C0)]) 2 G_law_rows) := by
    rw [← b_law_rows]
    exact def_ok (c := c_law_rows) (n := 60) (m := 7) (k := 3) l8 c8 sc_law_rows rfl rfl rfl rfl ⟨rfl, by decide +kernel, rfl, (allC_cons q8_0 (allC_cons q8_1 (allC_cons q8_2 allC_nil))), allK_nil, (allN_cons (PySem.W.mg_none_of X G z_range) (allN_cons (PySem.W.mg_none_of X G z_tuple) (allN_cons (PySem.W.mg_none_of X G z_len) allN_nil))), hcs, allE_nil, allS_nil, allM_nil, allO_nil, allF_nil⟩ (by decide)
  have g9 : FnOk l.prog w K mg base (L2.CX l.prog w) 1 f9 (PySem.W.fnOf "is_whole" "is_whole" (defArgs s_is_whole) (defBody s_is_whole) (defScope s_is_whole) .none kV9 dc9 pm9 an9 cd9 ct9) ["thing"] (spN (pOf K [("Shade", C0)]) 1 G_is_whole) := by
    rw [← b_is_whole]
    exact def_ok (c := c_is_whole) (n := 60) (m := 1) (k := 0) l9 c9 sc_is_whole rfl rfl rfl rfl ⟨rfl, by decide +kernel, rfl, allC_nil, allK_nil, (allN_cons (PySem.W.mg_none_of X G z_isinstance) (allN_cons (PySem.W.mg_none_of X G z_int) (allN_cons (PySem.W.mg_none_of X G z_bool) allN_nil))), hcs, allE_nil, allS_nil, allM_nil, allO_nil, allF_nil⟩ (by decide)
  have g10 : FnOk l.prog w K mg base (L2.CX l.prog w) 1 f10 (PySem.W.fnOf "share_of" "share_of" (defArgs s_share_of) (defBody s_share_of) (defScope s_share_of) .none kV10 dc10 pm10 an10 cd10 ct10) ["one", "other"] (spN (pOf K [("Shade", C0)]) 2 G_share_of) := by
    rw [← b_share_of]
    exact def_ok (c := c_share_of) (n := 60) (m := 2) (k := 0) l10 c10 sc_share_of rfl rfl rfl rfl ⟨rfl, by decide +kernel, rfl, allC_nil, allK_nil, allN_nil, hcs, allE_nil, allS_nil, allM_nil, allO_nil, allF_nil⟩ (by decide)
  have q11_0 : CallF l.prog w K mg base 1 (pOf K [("Shade", C0)]) "is_whole" 1 [] G_is_whole := (callF_of g9 (PySem.W.mg_of X G a9) k9 (bind_all fun us hl => match us, hl with | [_], _ => rfl)).mono (by decide)
  have q11_1 : CallF l.prog w K mg base 1 (pOf K [("Shade", C0)]) "share_of" 2 [] G_share_of := (callF_of g10 (PySem.W.mg_of X G a10) k10 (bind_all fun us hl => match us, hl with | [_, _], _ => rfl)).mono (by decide)
  have g11 : FnOk l.prog w K mg base (L2.CX l.prog w) 2 f11 (PySem.W.fnOf "is_fraction" "is_fraction" (defArgs s_is_fraction) (defBody s_is_fraction) (defScope s_is_fraction) .none kV11 dc11 pm11 an11 cd11 ct11) ["thing"] (spN (pOf K [("Shade", C0)]) 1 G_is_fraction) := by
    rw [← b_is_fraction]
    exact def_ok (c := c_is_fraction) (n := 60) (m := 2) (k := 1) l11 c11 sc_is_fraction rfl rfl rfl rfl ⟨rfl, by decide +kernel, rfl, (allC_cons q11_0 (allC_cons q11_1 allC_nil)), allK_nil, (allN_cons (PySem.W.mg_none_of X G z_isinstance) (allN_cons (PySem.W.mg_none_of X G z_tuple) (allN_cons (PySem.W.mg_none_of X G z_len) (allN_cons (PySem.W.mg_none_of X G z_all) (allN_cons (PySem.W.mg_none_of X G z_abs) allN_nil))))), hcs, allE_nil, allS_nil, allM_nil, allO_nil, allF_nil⟩ (by decide)
  have q12_0 : CallF l.prog w K mg base 2 (pOf K [("Shade", C0)]) "is_fraction" 1 [] G_is_fraction := (callF_of g11 (PySem.W.mg_of X G a11) k11 (bind_all fun us hl => match us, hl with | [_], _ => rfl)).mono (by decide)
  have g12 : FnOk l.prog w K mg base (L2.CX l.prog w) 3 f12 (PySem.W.fnOf "from_zero" "from_zero" (defArgs s_from_zero) (defBody s_from_zero) (defScope s_from_zero) .none kV12 dc12 pm12 an12 cd12 ct12) ["thing"] (spN (pOf K [("Shade", C0)]) 1 G_from_zero) := by
    rw [← b_from_zero]
    exact def_ok (c := c_from_zero) (n := 60) (m := 1) (k := 2) l12 c12 sc_from_zero rfl rfl rfl rfl ⟨rfl, by decide +kernel, rfl, (allC_cons q12_0 allC_nil), allK_nil, allN_nil, hcs, allE_nil, allS_nil, allM_nil, allO_nil, allF_nil⟩ (by decide)
  have q13_0 : CallF l.prog w K mg base 3 (pOf K [("Shade", C0)]) "from_zero" 1 [] G_from_zero := (callF_of g12 (PySem.W.mg_of X G a12) k12 (bind_all fun us hl => match us, hl with | [_], _ => rfl)).mono (by decide)
  have g13 : FnOk l.prog w K mg base (L2.CX l.prog w) 4 f13 (PySem.W.fnOf "in_one" "in_one" (defArgs s_in_one) (defBody s_in_one) (defScope s_in_one) .none kV13 dc13 pm13 an13 cd13 ct13) ["thing"] (spN (pOf K [("Shade", C0)]) 1 G_in_one) := by
    rw [← b_in_one]
    exact def_ok (c := c_in_one) (n := 60) (m := 1) (k := 3) l13 c13 sc_in_one rfl rfl rfl rfl ⟨rfl, by decide +kernel, rfl, (allC_cons q13_0 allC_nil), allK_nil, allN_nil, hcs, allE_nil, allS_nil, allM_nil, allO_nil, allF_nil⟩ (by decide)
  have q14_0 : CallF l.prog w K mg base 4 (pOf K [("Shade", C0)]) "in_one" 1 [] G_in_one := (callF_of g13 (PySem.W.mg_of X G a13) k13 (bind_all fun us hl => match us, hl with | [_], _ => rfl)).mono (by decide)
  have g14 : FnOk l.prog w K mg base (L2.CX l.prog w) 5 f14 (PySem.W.fnOf "__init__" "Shade.__init__" (defArgs s_Shade_init) (defBody s_Shade_init) (defScope s_Shade_init) .none kV14 dc14 pm14 an14 cd14 ct14) ["self", "ember", "leaf", "sky"] (spN (pOf K [("Shade", C0)]) 4 G_Shade_init) := by
    rw [← b_Shade_init]
    exact def_ok (c := c_Shade_init) (n := 60) (m := 6) (k := 4) l14 c14 sc_Shade_init rfl rfl rfl rfl ⟨rfl, by decide +kernel, rfl, (allC_cons q14_0 allC_nil), allK_nil, (allN_cons (PySem.W.mg_none_of X G z_enumerate) allN_nil), hcs, allE_nil, allS_nil, allM_nil, allO_nil, (allF_cons (allA_cons cf0_ember allA_nil) (allF_cons (allA_cons cf0_leaf allA_nil) (allF_cons (allA_cons cf0_sky allA_nil) allF_nil)))⟩ (by decide)
  have q15_0 : CallF l.prog w K mg base 6 (pOf K [("Shade", C0)]) "Shade" 0 ["sky", "ember", "leaf"] (mkF "Shade" (bnd 1 [] [.p 0, .k 1, .k 2, .k 0] G_Shade_init)) := (callF_mk (cls := "Shade") g14 (PySem.W.mg_of X G ca0) ⟨cm0_0, cm0_1, cm0_2, cm0_3⟩ rfl (show ("Shade" : Str) ∈ (["Shade"] : List Str) from by decide) (bind_pl [.p 0, .k 1, .k 2, .k 0] (by decide) rfl (fun us ws h1 h2 => match us, ws, h1, h2 with | [_], [_, _, _], _, _ => rfl))).mono (by decide)
  have q15_1 : CallF l.prog w K mg base 6 (pOf K [("Shade", C0)]) "Shade" 3 [] (mkF "Shade" (bnd 4 [] [.p 0, .p 1, .p 2, .p 3] G_Shade_init)) := (callF_mk (cls := "Shade") g14 (PySem.W.mg_of X G ca0) ⟨cm0_0, cm0_1, cm0_2, cm0_3⟩ rfl (show ("Shade" : Str) ∈ (["Shade"] : List Str) from by decide) (bind_pl [.p 0, .p 1, .p 2, .p 3] (by decide) rfl (fun us ws h1 h2 => match us, ws, h1, h2 with | [_, _, _, _], [], _, _ => rfl))).mono (by decide)
  have g15 : FnOk l.prog w K mg base (L2.CX l.prog w) 7 f15 (PySem.W.fnOf "_law_shade" "_law_shade" (defArgs s_law_shade) (defBody s_law_shade) (defScope s_law_shade) .none kV15 dc15 pm15 an15 cd15 ct15) ["_law_row", "_law_way"] (spN (pOf K [("Shade", C0)]) 2 G_law_shade) := by
    rw [← b_law_shade]
    exact def_ok (c := c_law_shade) (n := 60) (m := 2) (k := 6) l15 c15 sc_law_shade rfl rfl rfl rfl ⟨rfl, by decide +kernel, rfl, (allC_cons q15_0 (allC_cons q15_1 allC_nil)), allK_nil, allN_nil, hcs, allE_nil, allS_nil, allM_nil, (allO_cons (PySem.W.mg_of X G ca0) (show ("Shade" : Str) ∈ (["Shade"] : List Str) from by decide) allO_nil), allF_nil⟩ (by decide)
  have q16_0 : CallF l.prog w K mg base 1 (pOf K [("Shade", C0)]) "_law_pick" 2 [] G_law_pick := (callF_of g3 (PySem.W.mg_of X G a3) k3 (bind_all fun us hl => match us, hl with | [_, _], _ => rfl)).mono (by decide)
  have g16 : FnOk l.prog w K mg base (L2.CX l.prog w) 2 f16 (PySem.W.fnOf "_law_weights" "_law_weights" (defArgs s_law_weights) (defBody s_law_weights) (defScope s_law_weights) .none kV16 dc16 pm16 an16 cd16 ct16) ["_law_purse_here", "_law_many"] (spN (pOf K [("Shade", C0)]) 2 G_law_weights) := by
    rw [← b_law_weights]
    exact def_ok (c := c_law_weights) (n := 60) (m := 5) (k := 1) l16 c16 sc_law_weights rfl rfl rfl rfl ⟨rfl, by decide +kernel, rfl, (allC_cons q16_0 allC_nil), allK_nil, (allN_cons (PySem.W.mg_none_of X G z_range) (allN_cons (PySem.W.mg_none_of X G z_sum) (allN_cons (PySem.W.mg_none_of X G z_tuple) allN_nil))), hcs, allE_nil, allS_nil, allM_nil, allO_nil, allF_nil⟩ (by decide)
  have q17_0 : CallF l.prog w K mg base 1 (pOf K [("Shade", C0)]) "_law_low" 2 [] G_law_low := (callF_of g4 (PySem.W.mg_of X G a4) k4 (bind_all fun us hl => match us, hl with | [_, _], _ => rfl)).mono (by decide)
  have g17 : FnOk l.prog w K mg base (L2.CX l.prog w) 2 f17 (PySem.W.fnOf "_law_plus" "_law_plus" (defArgs s_law_plus) (defBody s_law_plus) (defScope s_law_plus) .none kV17 dc17 pm17 an17 cd17 ct17) ["_law_a", "_law_b"] (spN (pOf K [("Shade", C0)]) 2 G_law_plus) := by
    rw [← b_law_plus]
    exact def_ok (c := c_law_plus) (n := 60) (m := 2) (k := 1) l17 c17 sc_law_plus rfl rfl rfl rfl ⟨rfl, by decide +kernel, rfl, (allC_cons q17_0 allC_nil), allK_nil, allN_nil, hcs, allE_nil, allS_nil, allM_nil, allO_nil, allF_nil⟩ (by decide)
  have q18_0 : CallF l.prog w K mg base 1 (pOf K [("Shade", C0)]) "_law_low" 2 [] G_law_low := (callF_of g4 (PySem.W.mg_of X G a4) k4 (bind_all fun us hl => match us, hl with | [_, _], _ => rfl)).mono (by decide)
  have g18 : FnOk l.prog w K mg base (L2.CX l.prog w) 2 f18 (PySem.W.fnOf "_law_times" "_law_times" (defArgs s_law_times) (defBody s_law_times) (defScope s_law_times) .none kV18 dc18 pm18 an18 cd18 ct18) ["_law_a", "_law_b"] (spN (pOf K [("Shade", C0)]) 2 G_law_times) := by
    rw [← b_law_times]
    exact def_ok (c := c_law_times) (n := 60) (m := 2) (k := 1) l18 c18 sc_law_times rfl rfl rfl rfl ⟨rfl, by decide +kernel, rfl, (allC_cons q18_0 allC_nil), allK_nil, allN_nil, hcs, allE_nil, allS_nil, allM_nil, allO_nil, allF_nil⟩ (by decide)
  have q19_0 : CallF l.prog w K mg base 1 (pOf K [("Shade", C0)]) "_law_low" 2 [] G_law_low := (callF_of g4 (PySem.W.mg_of X G a4) k4 (bind_all fun us hl => match us, hl with | [_, _], _ => rfl)).mono (by decide)
  have g19 : FnOk l.prog w K mg base (L2.CX l.prog w) 2 f19 (PySem.W.fnOf "_law_over" "_law_over" (defArgs s_law_over) (defBody s_law_over) (defScope s_law_over) .none kV19 dc19 pm19 an19 cd19 ct19) ["_law_a", "_law_b"] (spN (pOf K [("Shade", C0)]) 2 G_law_over) := by
    rw [← b_law_over]
    exact def_ok (c := c_law_over) (n := 60) (m := 2) (k := 1) l19 c19 sc_law_over rfl rfl rfl rfl ⟨rfl, by decide +kernel, rfl, (allC_cons q19_0 allC_nil), allK_nil, allN_nil, hcs, allE_nil, allS_nil, allM_nil, allO_nil, allF_nil⟩ (by decide)
  have q20_0 : CallF l.prog w K mg base 2 (pOf K [("Shade", C0)]) "_law_plus" 2 [] G_law_plus := (callF_of g17 (PySem.W.mg_of X G a17) k17 (bind_all fun us hl => match us, hl with | [_, _], _ => rfl)).mono (by decide)
  have q20_1 : CallF l.prog w K mg base 2 (pOf K [("Shade", C0)]) "_law_times" 2 [] G_law_times := (callF_of g18 (PySem.W.mg_of X G a18) k18 (bind_all fun us hl => match us, hl with | [_, _], _ => rfl)).mono (by decide)
  have q20_2 : CallF l.prog w K mg base 2 (pOf K [("Shade", C0)]) "_law_over" 2 [] G_law_over := (callF_of g19 (PySem.W.mg_of X G a19) k19 (bind_all fun us hl => match us, hl with | [_, _], _ => rfl)).mono (by decide)
  have g20 : FnOk l.prog w K mg base (L2.CX l.prog w) 3 f20 (PySem.W.fnOf "_law_mixed" "_law_mixed" (defArgs s_law_mixed) (defBody s_law_mixed) (defScope s_law_mixed) .none kV20 dc20 pm20 an20 cd20 ct20) ["_law_rows_here", "_law_loads"] (spN (pOf K [("Shade", C0)]) 2 G_law_mixed) := by
    rw [← b_law_mixed]
    exact def_ok (c := c_law_mixed) (n := 60) (m := 7) (k := 2) l20 c20 sc_law_mixed rfl rfl rfl rfl ⟨rfl, by decide +kernel, rfl, (allC_cons q20_0 (allC_cons q20_1 (allC_cons q20_2 allC_nil))), allK_nil, (allN_cons (PySem.W.mg_none_of X G z_range) (allN_cons (PySem.W.mg_none_of X G z_zip) (allN_cons (PySem.W.mg_none_of X G z_sum) (allN_cons (PySem.W.mg_none_of X G z_tuple) allN_nil)))), hcs, allE_nil, allS_nil, allM_nil, allO_nil, allF_nil⟩ (by decide)
  have g21 : FnOk l.prog w K mg base (L2.CX l.prog w) 1 f21 (PySem.W.fnOf "are_shades" "are_shades" (defArgs s_are_shades) (defBody s_are_shades) (defScope s_are_shades) .none kV21 dc21 pm21 an21 cd21 ct21) ["thing", "least", "most"] (spN (pOf K [("Shade", C0)]) 3 G_are_shades) := by
    rw [← b_are_shades]
    exact def_ok (c := c_are_shades) (n := 60) (m := 4) (k := 0) l21 c21 sc_are_shades rfl rfl rfl rfl ⟨rfl, by decide +kernel, rfl, allC_nil, allK_nil, (allN_cons (PySem.W.mg_none_of X G z_isinstance) (allN_cons (PySem.W.mg_none_of X G z_tuple) (allN_cons (PySem.W.mg_none_of X G z_len) (allN_cons (PySem.W.mg_none_of X G z_all) allN_nil)))), hcs, allE_nil, allS_nil, allM_nil, (allO_cons (PySem.W.mg_of X G ca0) (show ("Shade" : Str) ∈ (["Shade"] : List Str) from by decide) allO_nil), allF_nil⟩ (by decide)
  have q22_0 : CallF l.prog w K mg base 1 (pOf K [("Shade", C0)]) "is_whole" 1 [] G_is_whole := (callF_of g9 (PySem.W.mg_of X G a9) k9 (bind_all fun us hl => match us, hl with | [_], _ => rfl)).mono (by decide)
  have g22 : FnOk l.prog w K mg base (L2.CX l.prog w) 2 f22 (PySem.W.fnOf "are_weights" "are_weights" (defArgs s_are_weights) (defBody s_are_weights) (defScope s_are_weights) .none kV22 dc22 pm22 an22 cd22 ct22) ["thing", "many"] (spN (pOf K [("Shade", C0)]) 2 G_are_weights) := by
    rw [← b_are_weights]
    exact def_ok (c := c_are_weights) (n := 60) (m := 3) (k := 1) l22 c22 sc_are_weights rfl rfl rfl rfl ⟨rfl, by decide +kernel, rfl, (allC_cons q22_0 allC_nil), (allK_cons (PySem.W.mg_of X G zc_MOST_WEIGHT) cst_int allK_nil), (allN_cons (PySem.W.mg_none_of X G z_isinstance) (allN_cons (PySem.W.mg_none_of X G z_tuple) (allN_cons (PySem.W.mg_none_of X G z_len) (allN_cons (PySem.W.mg_none_of X G z_all) (allN_cons (PySem.W.mg_none_of X G z_sum) allN_nil))))), hcs, allE_nil, allS_nil, allM_nil, allO_nil, allF_nil⟩ (by decide)
  have q23_0 : CallF l.prog w K mg base 6 (pOf K [("Shade", C0)]) "Shade" 3 [] (mkF "Shade" (bnd 4 [] [.p 0, .p 1, .p 2, .p 3] G_Shade_init)) := (callF_mk (cls := "Shade") g14 (PySem.W.mg_of X G ca0) ⟨cm0_0, cm0_1, cm0_2, cm0_3⟩ rfl (show ("Shade" : Str) ∈ (["Shade"] : List Str) from by decide) (bind_pl [.p 0, .p 1, .p 2, .p 3] (by decide) rfl (fun us ws h1 h2 => match us, ws, h1, h2 with | [_, _, _, _], [], _, _ => rfl))).mono (by decide)
  have g23 : FnOk l.prog w K mg base (L2.CX l.prog w) 7 f23 (PySem.W.fnOf "shade_by" "shade_by" (defArgs s_shade_by) (defBody s_shade_by) (defScope s_shade_by) .none kV23 dc23 pm23 an23 cd23 ct23) ["shares"] (spN (pOf K [("Shade", C0)]) 1 G_shade_by) := by
    rw [← b_shade_by]
    exact def_ok (c := c_shade_by) (n := 60) (m := 1) (k := 6) l23 c23 sc_shade_by rfl rfl rfl rfl ⟨rfl, by decide +kernel, rfl, (allC_cons q23_0 allC_nil), allK_nil, allN_nil, hcs, allE_nil, allS_nil, allM_nil, (allO_cons (PySem.W.mg_of X G ca0) (show ("Shade" : Str) ∈ (["Shade"] : List Str) from by decide) allO_nil), allF_nil⟩ (by decide)
  have q24_0 : CallF l.prog w K mg base 1 (pOf K [("Shade", C0)]) "share_of" 2 [] G_share_of := (callF_of g10 (PySem.W.mg_of X G a10) k10 (bind_all fun us hl => match us, hl with | [_, _], _ => rfl)).mono (by decide)
  have g24 : FnOk l.prog w K mg base (L2.CX l.prog w) 2 f24 (PySem.W.fnOf "low" "low" (defArgs s_low) (defBody s_low) (defScope s_low) .none kV24 dc24 pm24 an24 cd24 ct24) ["top", "bottom"] (spN (pOf K [("Shade", C0)]) 2 G_low) := by
    rw [← b_low]
    exact def_ok (c := c_low) (n := 60) (m := 3) (k := 1) l24 c24 sc_low rfl rfl rfl rfl ⟨rfl, by decide +kernel, rfl, (allC_cons q24_0 allC_nil), allK_nil, (allN_cons (PySem.W.mg_none_of X G z_abs) allN_nil), hcs, allE_nil, allS_nil, allM_nil, allO_nil, allF_nil⟩ (by decide)
  have q25_0 : CallF l.prog w K mg base 2 (pOf K [("Shade", C0)]) "low" 2 [] G_low := (callF_of g24 (PySem.W.mg_of X G a24) k24 (bind_all fun us hl => match us, hl with | [_, _], _ => rfl)).mono (by decide)
  have g25 : FnOk l.prog w K mg base (L2.CX l.prog w) 3 f25 (PySem.W.fnOf "mul" "mul" (defArgs s_mul) (defBody s_mul) (defScope s_mul) .none kV25 dc25 pm25 an25 cd25 ct25) ["a", "b"] (spN (pOf K [("Shade", C0)]) 2 G_mul) := by
    rw [← b_mul]
    exact def_ok (c := c_mul) (n := 60) (m := 2) (k := 2) l25 c25 sc_mul rfl rfl rfl rfl ⟨rfl, by decide +kernel, rfl, (allC_cons q25_0 allC_nil), allK_nil, allN_nil, hcs, allE_nil, allS_nil, allM_nil, allO_nil, allF_nil⟩ (by decide)
  have q26_0 : CallF l.prog w K mg base 2 (pOf K [("Shade", C0)]) "low" 2 [] G_low := (callF_of g24 (PySem.W.mg_of X G a24) k24 (bind_all fun us hl => match us, hl with | [_, _], _ => rfl)).mono (by decide)
  have g26 : FnOk l.prog w K mg base (L2.CX l.prog w) 3 f26 (PySem.W.fnOf "div" "div" (defArgs s_div) (defBody s_div) (defScope s_div) .none kV26 dc26 pm26 an26 cd26 ct26) ["a", "b"] (spN (pOf K [("Shade", C0)]) 2 G_div) := by
    rw [← b_div]
    exact def_ok (c := c_div) (n := 60) (m := 2) (k := 2) l26 c26 sc_div rfl rfl rfl rfl ⟨rfl, by decide +kernel, rfl, (allC_cons q26_0 allC_nil), allK_nil, allN_nil, hcs, allE_nil, allS_nil, allM_nil, allO_nil, allF_nil⟩ (by decide)
  have q27_0 : CallF l.prog w K mg base 2 (pOf K [("Shade", C0)]) "low" 2 [] G_low := (callF_of g24 (PySem.W.mg_of X G a24) k24 (bind_all fun us hl => match us, hl with | [_, _], _ => rfl)).mono (by decide)
  have g27 : FnOk l.prog w K mg base (L2.CX l.prog w) 3 f27 (PySem.W.fnOf "add" "add" (defArgs s_add) (defBody s_add) (defScope s_add) .none kV27 dc27 pm27 an27 cd27 ct27) ["a", "b"] (spN (pOf K [("Shade", C0)]) 2 G_add) := by
    rw [← b_add]
    exact def_ok (c := c_add) (n := 60) (m := 2) (k := 2) l27 c27 sc_add rfl rfl rfl rfl ⟨rfl, by decide +kernel, rfl, (allC_cons q27_0 allC_nil), allK_nil, allN_nil, hcs, allE_nil, allS_nil, allM_nil, allO_nil, allF_nil⟩ (by decide)
  have q28_0 : CallF l.prog w K mg base 3 (pOf K [("Shade", C0)]) "add" 2 [] G_add := (callF_of g27 (PySem.W.mg_of X G a27) k27 (bind_all fun us hl => match us, hl with | [_, _], _ => rfl)).mono (by decide)
  have g28 : FnOk l.prog w K mg base (L2.CX l.prog w) 4 f28 (PySem.W.fnOf "total" "total" (defArgs s_total) (defBody s_total) (defScope s_total) .none kV28 dc28 pm28 an28 cd28 ct28) ["row"] (spN (pOf K [("Shade", C0)]) 1 G_total) := by
    rw [← b_total]
    exact def_ok (c := c_total) (n := 60) (m := 3) (k := 3) l28 c28 sc_total rfl rfl rfl rfl ⟨rfl, by decide +kernel, rfl, (allC_cons q28_0 allC_nil), (allK_cons (PySem.W.mg_of X G zc_ZERO) (cst_tup l_k2_0 (Nat.le_of_ble_eq_true rfl) (cstA_cons cst_int (cstA_cons cst_int cstA_nil))) allK_nil), allN_nil, hcs, allE_nil, allS_nil, allM_nil, allO_nil, allF_nil⟩ (by decide)
  have q29_0 : CallF l.prog w K mg base 4 (pOf K [("Shade", C0)]) "mul" 2 [] G_mul := (callF_of g25 (PySem.W.mg_of X G a25) k25 (bind_all fun us hl => match us, hl with | [_, _], _ => rfl)).mono (by decide)
  have q29_1 : CallF l.prog w K mg base 4 (pOf K [("Shade", C0)]) "div" 2 [] G_div := (callF_of g26 (PySem.W.mg_of X G a26) k26 (bind_all fun us hl => match us, hl with | [_, _], _ => rfl)).mono (by decide)
  have q29_2 : CallF l.prog w K mg base 4 (pOf K [("Shade", C0)]) "total" 1 [] G_total := (callF_of g28 (PySem.W.mg_of X G a28) k28 (bind_all fun us hl => match us, hl with | [_], _ => rfl)).mono (by decide)
  have g29 : FnOk l.prog w K mg base (L2.CX l.prog w) 5 f29 (PySem.W.fnOf "mixed" "mixed" (defArgs s_mixed) (defBody s_mixed) (defScope s_mixed) .none kV29 dc29 pm29 an29 cd29 ct29) ["rows", "weights"] (spN (pOf K [("Shade", C0)]) 2 G_mixed) := by
    rw [← b_mixed]
    exact def_ok (c := c_mixed) (n := 60) (m := 7) (k := 4) l29 c29 sc_mixed rfl rfl rfl rfl ⟨rfl, by decide +kernel, rfl, (allC_cons q29_0 (allC_cons q29_1 (allC_cons q29_2 allC_nil))), allK_nil, (allN_cons (PySem.W.mg_none_of X G z_range) (allN_cons (PySem.W.mg_none_of X G z_zip) (allN_cons (PySem.W.mg_none_of X G z_sum) (allN_cons (PySem.W.mg_none_of X G z_tuple) allN_nil)))), hcs, allE_nil, allS_nil, allM_nil, allO_nil, allF_nil⟩ (by decide)
  have g30 : FnOk l.prog w K mg base (L2.CX l.prog w) 1 f30 (PySem.W.fnOf "parts_of" "parts_of" (defArgs s_parts_of) (defBody s_parts_of) (defScope s_parts_of) .none kV30 dc30 pm30 an30 cd30 ct30) ["shade"] (spN (pOf K [("Shade", C0)]) 1 G_parts_of) := by
    rw [← b_parts_of]
    exact def_ok (c := c_parts_of) (n := 60) (m := 1) (k := 0) l30 c30 sc_parts_of rfl rfl rfl rfl ⟨rfl, by decide +kernel, rfl, allC_nil, allK_nil, allN_nil, hcs, allE_nil, allS_nil, allM_nil, allO_nil, (allF_cons (allA_cons cf0_ember allA_nil) (allF_cons (allA_cons cf0_leaf allA_nil) (allF_cons (allA_cons cf0_sky allA_nil) allF_nil)))⟩ (by decide)
  have q31_0 : CallF l.prog w K mg base 7 (pOf K [("Shade", C0)]) "are_shades" 3 [] G_are_shades := (callF_of g21 (PySem.W.mg_of X G a21) k21 (bind_all fun us hl => match us, hl with | [_, _, _], _ => rfl)).mono (by decide)
  have q31_1 : CallF l.prog w K mg base 7 (pOf K [("Shade", C0)]) "are_weights" 2 [] G_are_weights := (callF_of g22 (PySem.W.mg_of X G a22) k22 (bind_all fun us hl => match us, hl with | [_, _], _ => rfl)).mono (by decide)
  have q31_2 : CallF l.prog w K mg base 7 (pOf K [("Shade", C0)]) "shade_by" 1 [] G_shade_by := (callF_of g23 (PySem.W.mg_of X G a23) k23 (bind_all fun us hl => match us, hl with | [_], _ => rfl)).mono (by decide)
  have q31_3 : CallF l.prog w K mg base 7 (pOf K [("Shade", C0)]) "mixed" 2 [] G_mixed := (callF_of g29 (PySem.W.mg_of X G a29) k29 (bind_all fun us hl => match us, hl with | [_, _], _ => rfl)).mono (by decide)
  have q31_4 : CallF l.prog w K mg base 7 (pOf K [("Shade", C0)]) "parts_of" 1 [] G_parts_of := (callF_of g30 (PySem.W.mg_of X G a30) k30 (bind_all fun us hl => match us, hl with | [_], _ => rfl)).mono (by decide)
  have g31 : FnOk l.prog w K mg base (L2.CX l.prog w) 8 f31 (PySem.W.fnOf "mix" "mix" (defArgs s_mix) (defBody s_mix) (defScope s_mix) (.ref t31) kV31 dc31 pm31 an31 cd31 ct31) ["shades", "weights"] (spN (pOf K [("Shade", C0)]) 2 G_mix) := by
    rw [← b_mix]
    exact def_ok (c := c_mix) (n := 60) (m := 3) (k := 7) l31 c31 sc_mix rfl rfl rfl rfl ⟨rfl, by decide +kernel, rfl, (allC_cons q31_0 (allC_cons q31_1 (allC_cons q31_2 (allC_cons q31_3 (allC_cons q31_4 allC_nil))))), (allK_cons (PySem.W.mg_of X G zc_MOST_SHADES) cst_int allK_nil), (allN_cons (PySem.W.mg_none_of X G z_len) allN_nil), hcs, allE_nil, allS_nil, allM_nil, allO_nil, allF_nil⟩ (by decide)
  have q32_0 : CallF l.prog w K mg base 8 (pOf K [("Shade", C0)]) "mix" 1 [] (bnd 1 [.non] [.p 0, .d 0] G_mix) := (callF_of g31 (PySem.W.mg_of X G a31) k31 (bind_dfC lt31 rfl (cstA_cons cst_non cstA_nil) [.p 0, .d 0] (by decide) rfl (fun us ws h1 h2 => match us, ws, h1, h2 with | [_], [], _, _ => ⟨_, rfl, rfl⟩))).mono (by decide)
  have q32_1 : CallF l.prog w K mg base 8 (pOf K [("Shade", C0)]) "mix" 0 ["shades"] (bnd 0 [.non] [.k 0, .d 0] G_mix) := (callF_of g31 (PySem.W.mg_of X G a31) k31 (bind_dfC lt31 rfl (cstA_cons cst_non cstA_nil) [.k 0, .d 0] (by decide) rfl (fun us ws h1 h2 => match us, ws, h1, h2 with | [], [_], _, _ => ⟨_, rfl, rfl⟩))).mono (by decide)
  have q32_2 : CallF l.prog w K mg base 8 (pOf K [("Shade", C0)]) "mix" 2 [] (bnd 2 [.non] [.p 0, .p 1] G_mix) := (callF_of g31 (PySem.W.mg_of X G a31) k31 (bind_dfC lt31 rfl (cstA_cons cst_non cstA_nil) [.p 0, .p 1] (by decide) rfl (fun us ws h1 h2 => match us, ws, h1, h2 with | [_, _], [], _, _ => ⟨_, rfl, rfl⟩))).mono (by decide)
  have q32_3 : CallF l.prog w K mg base 8 (pOf K [("Shade", C0)]) "mix" 0 ["weights", "shades"] (bnd 0 [.non] [.k 1, .k 0] G_mix) := (callF_of g31 (PySem.W.mg_of X G a31) k31 (bind_dfC lt31 rfl (cstA_cons cst_non cstA_nil) [.k 1, .k 0] (by decide) rfl (fun us ws h1 h2 => match us, ws, h1, h2 with | [], [_, _], _, _ => ⟨_, rfl, rfl⟩))).mono (by decide)
  have g32 : FnOk l.prog w K mg base (L2.CX l.prog w) 9 f32 (PySem.W.fnOf "_law_asked" "_law_asked" (defArgs s_law_asked) (defBody s_law_asked) (defScope s_law_asked) .none kV32 dc32 pm32 an32 cd32 ct32) ["_law_tints", "_law_loads", "_law_way"] (spN (pOf K [("Shade", C0)]) 3 G_law_asked) := by
    rw [← b_law_asked]
    exact def_ok (c := c_law_asked) (n := 60) (m := 3) (k := 8) l32 c32 sc_law_asked rfl rfl rfl rfl ⟨rfl, by decide +kernel, rfl, (allC_cons q32_0 (allC_cons q32_1 (allC_cons q32_2 (allC_cons q32_3 allC_nil)))), allK_nil, allN_nil, hcs, allE_nil, allS_nil, allM_nil, allO_nil, allF_nil⟩ (by decide)
  have g33 : FnOk l.prog w K mg base (L2.CX l.prog w) 1 f33 (PySem.W.fnOf "_law_whole" "_law_whole" (defArgs s_law_whole) (defBody s_law_whole) (defScope s_law_whole) .none kV33 dc33 pm33 an33 cd33 ct33) ["_law_thing"] (spN (pOf K [("Shade", C0)]) 1 G_is_whole) := by
    rw [← b_law_whole]
    exact def_ok (c := c_law_whole) (n := 60) (m := 1) (k := 0) l33 c33 sc_law_whole rfl rfl rfl rfl ⟨rfl, by decide +kernel, rfl, allC_nil, allK_nil, (allN_cons (PySem.W.mg_none_of X G z_isinstance) (allN_cons (PySem.W.mg_none_of X G z_int) (allN_cons (PySem.W.mg_none_of X G z_bool) allN_nil))), hcs, allE_nil, allS_nil, allM_nil, allO_nil, allF_nil⟩ (by decide)
  have q34_0 : CallF l.prog w K mg base 1 (pOf K [("Shade", C0)]) "_law_whole" 1 [] G_is_whole := (callF_of g33 (PySem.W.mg_of X G a33) k33 (bind_all fun us hl => match us, hl with | [_], _ => rfl)).mono (by decide)
  have q34_1 : CallF l.prog w K mg base 1 (pOf K [("Shade", C0)]) "_law_low" 2 [] G_law_low := (callF_of g4 (PySem.W.mg_of X G a4) k4 (bind_all fun us hl => match us, hl with | [_, _], _ => rfl)).mono (by decide)
  have g34 : FnOk l.prog w K mg base (L2.CX l.prog w) 2 f34 (PySem.W.fnOf "_law_is_fraction" "_law_is_fraction" (defArgs s_law_is_fraction) (defBody s_law_is_fraction) (defScope s_law_is_fraction) .none kV34 dc34 pm34 an34 cd34 ct34) ["_law_thing"] (spN (pOf K [("Shade", C0)]) 1 G_law_is_fraction) := by
    rw [← b_law_is_fraction]
    exact def_ok (c := c_law_is_fraction) (n := 60) (m := 1) (k := 1) l34 c34 sc_law_is_fraction rfl rfl rfl rfl ⟨rfl, by decide +kernel, rfl, (allC_cons q34_0 (allC_cons q34_1 allC_nil)), allK_nil, (allN_cons (PySem.W.mg_none_of X G z_isinstance) (allN_cons (PySem.W.mg_none_of X G z_tuple) (allN_cons (PySem.W.mg_none_of X G z_len) allN_nil))), hcs, allE_nil, allS_nil, allM_nil, allO_nil, allF_nil⟩ (by decide)
  have q35_0 : CallF l.prog w K mg base 2 (pOf K [("Shade", C0)]) "_law_is_fraction" 1 [] G_law_is_fraction := (callF_of g34 (PySem.W.mg_of X G a34) k34 (bind_all fun us hl => match us, hl with | [_], _ => rfl)).mono (by decide)
  have g35 : FnOk l.prog w K mg base (L2.CX l.prog w) 3 f35 (PySem.W.fnOf "_law_got" "_law_got" (defArgs s_law_got) (defBody s_law_got) (defScope s_law_got) .none kV35 dc35 pm35 an35 cd35 ct35) ["_law_thing"] (spN (pOf K [("Shade", C0)]) 1 G_law_got) := by
    rw [← b_law_got]
    exact def_ok (c := c_law_got) (n := 60) (m := 3) (k := 2) l35 c35 sc_law_got rfl rfl rfl rfl ⟨rfl, by decide +kernel, rfl, (allC_cons q35_0 allC_nil), allK_nil, (allN_cons (PySem.W.mg_none_of X G z_isinstance) (allN_cons (PySem.W.mg_none_of X G z_all) allN_nil)), hcs, allE_nil, allS_nil, allM_nil, (allO_cons (PySem.W.mg_of X G ca0) (show ("Shade" : Str) ∈ (["Shade"] : List Str) from by decide) allO_nil), (allF_cons (allA_cons cf0_ember allA_nil) (allF_cons (allA_cons cf0_leaf allA_nil) (allF_cons (allA_cons cf0_sky allA_nil) allF_nil)))⟩ (by decide)
  have q36_0 : CallF l.prog w K mg base 9 (pOf K [("Shade", C0)]) "_law_purse" 1 [] G_law_purse := (callF_of g1 (PySem.W.mg_of X G a1) k1 (bind_all fun us hl => match us, hl with | [_], _ => rfl)).mono (by decide)
  have q36_1 : CallF l.prog w K mg base 9 (pOf K [("Shade", C0)]) "_law_cell" 2 [] G_law_cell := (callF_of g2 (PySem.W.mg_of X G a2) k2 (bind_all fun us hl => match us, hl with | [_, _], _ => rfl)).mono (by decide)
  have q36_2 : CallF l.prog w K mg base 9 (pOf K [("Shade", C0)]) "_law_pick" 2 [] G_law_pick := (callF_of g3 (PySem.W.mg_of X G a3) k3 (bind_all fun us hl => match us, hl with | [_, _], _ => rfl)).mono (by decide)
  have q36_3 : CallF l.prog w K mg base 9 (pOf K [("Shade", C0)]) "_law_rows" 2 [] G_law_rows := (callF_of g8 (PySem.W.mg_of X G a8) k8 (bind_all fun us hl => match us, hl with | [_, _], _ => rfl)).mono (by decide)
  have q36_4 : CallF l.prog w K mg base 9 (pOf K [("Shade", C0)]) "_law_shade" 2 [] G_law_shade := (callF_of g15 (PySem.W.mg_of X G a15) k15 (bind_all fun us hl => match us, hl with | [_, _], _ => rfl)).mono (by decide)
  have q36_5 : CallF l.prog w K mg base 9 (pOf K [("Shade", C0)]) "_law_weights" 2 [] G_law_weights := (callF_of g16 (PySem.W.mg_of X G a16) k16 (bind_all fun us hl => match us, hl with | [_, _], _ => rfl)).mono (by decide)
  have q36_6 : CallF l.prog w K mg base 9 (pOf K [("Shade", C0)]) "_law_mixed" 2 [] G_law_mixed := (callF_of g20 (PySem.W.mg_of X G a20) k20 (bind_all fun us hl => match us, hl with | [_, _], _ => rfl)).mono (by decide)
  have q36_7 : CallF l.prog w K mg base 9 (pOf K [("Shade", C0)]) "_law_asked" 3 [] G_law_asked := (callF_of g32 (PySem.W.mg_of X G a32) k32 (bind_all fun us hl => match us, hl with | [_, _, _], _ => rfl)).mono (by decide)
  have q36_8 : CallF l.prog w K mg base 9 (pOf K [("Shade", C0)]) "_law_got" 1 [] G_law_got := (callF_of g35 (PySem.W.mg_of X G a35) k35 (bind_all fun us hl => match us, hl with | [_], _ => rfl)).mono (by decide)
  have g36 : FnOk l.prog w K mg base (L2.CX l.prog w) 10 fa (PySem.W.fnOf "law" "law" (defArgs s_law) (defBody s_law) (defScope s_law) .none kV36 dc36 pm36 an36 cd36 ct36) ["_law_script"] (spN (pOf K [("Shade", C0)]) 1 G_law) := by
    rw [← b_law]
    exact def_ok (c := c_law) (n := 60) (m := 13) (k := 9) l36 c36 sc_law rfl rfl rfl rfl ⟨rfl, by decide +kernel, rfl, (allC_cons q36_0 (allC_cons q36_1 (allC_cons q36_2 (allC_cons q36_3 (allC_cons q36_4 (allC_cons q36_5 (allC_cons q36_6 (allC_cons q36_7 (allC_cons q36_8 allC_nil))))))))), allK_nil, (allN_cons (PySem.W.mg_none_of X G z_range) (allN_cons (PySem.W.mg_none_of X G z_max) (allN_cons (PySem.W.mg_none_of X G z_min) (allN_cons (PySem.W.mg_none_of X G z_len) (allN_cons (PySem.W.mg_none_of X G z_int) (allN_cons (PySem.W.mg_none_of X G z_tuple) allN_nil)))))), hcs, (allE_cons ((callE_of (c := "Shade") g0 rfl ce0_1 ce0_2 ce0_3 fun us hl => match us, hl with | [_, _], _ => rfl).mono (by decide)) allE_nil), allS_nil, allM_nil, allO_nil, allF_nil⟩ (by decide)
  exact g36.imp fun _ _ _ _ => law_imp (p := (pOf K [("Shade", C0)])) rfl
end Tz
open PySem PySem.W PyProof.Rows
set_option maxRecDepth 100000 in
set_option maxHeartbeats 0 in
theorem PySem.Challenge.cw_lightshares_k12_mixes_by_weights_holds : PySem.Challenge.rw_lightshares_k12_mixes_by_weights.Holds := by
  w_on; o_law; k_head; (case hw => w_witness2)
  k_fill
  refine L2.walk_ofB (l := PySem.Challenge.rw_lightshares_k12_mixes_by_weights) (n := 63) (k := 10) (x := "_law_script") (CX := fun w => L2.CX PySem.Challenge.pw_lightshares_k12_mixes_by_weights w) (sp := fun w => Tz.spLaw _ Tz.G_law) rfl (by decide) rfl ⟨rfl, by decide, by decide⟩ (fun w h Y => PySem.W.kIn_of Y) ?F (fun w H a ns hl hb _ hS => Tz.spLaw_of (Tz.main_true ns hl hb) hS) (fun w H s e s1 z => Tz.noexc z)
  case F =>
    intro w mg fa h KX G hmg
    refine' Tz.all_mk KX G hmg ?l0 ?c0 ?a1 ?l1 ?c1 ?k1 ?a2 ?l2 ?c2 ?k2 ?a3 ?l3 ?c3 ?k3 ?a4 ?l4 ?c4 ?k4 ?a5 ?l5 ?c5 ?k5 ?a6 ?l6 ?c6 ?k6 ?a7 ?l7 ?c7 ?k7 ?a8 ?l8 ?c8 ?k8 ?a9 ?l9 ?c9 ?k9 ?a10 ?l10 ?c10 ?k10 ?a11 ?l11 ?c11 ?k11 ?a12 ?l12 ?c12 ?k12 ?a13 ?l13 ?c13 ?k13 ?l14 ?c14 ?a15 ?l15 ?c15 ?k15 ?a16 ?l16 ?c16 ?k16 ?a17 ?l17 ?c17 ?k17 ?a18 ?l18 ?c18 ?k18 ?a19 ?l19 ?c19 ?k19 ?a20 ?l20 ?c20 ?k20 ?a21 ?l21 ?c21 ?k21 ?a22 ?l22 ?c22 ?k22 ?a23 ?l23 ?c23 ?k23 ?a24 ?l24 ?c24 ?k24 ?a25 ?l25 ?c25 ?k25 ?a26 ?l26 ?c26 ?k26 ?a27 ?l27 ?c27 ?k27 ?a28 ?l28 ?c28 ?k28 ?a29 ?l29 ?c29 ?k29 ?a30 ?l30 ?c30 ?k30 ?a31 ?l31 ?c31 ?k31 ?lt31 ?a32 ?l32 ?c32 ?k32 ?a33 ?l33 ?c33 ?k33 ?a34 ?l34 ?c34 ?k34 ?a35 ?l35 ?c35 ?k35 ?a36 ?l36 ?c36 ?k36 ?z_abs ?z_all ?z_bool ?z_enumerate ?z_int ?z_isinstance ?z_len ?z_max ?z_min ?z_range ?z_sum ?z_tuple ?z_zip ?zc_MOST_SHADES ?zc_MOST_WEIGHT ?l_k2_0 ?zc_ZERO ?ca0 ?cb0_0 ?cb0_1 ?cb0_2 ?cb0_3 ?cb0_4 ?cb0_5 ?cb0_6 ?cb0_7 ?cb0_8 ?cb0_9 ?cd0_NoneType ?cd0_bool ?cd0_int ?cd0_str ?cd0_tuple ?cd0_list ?cd0_dict ?cu0_bool ?cu0_int ?cu0_str ?cu0_tuple ?cu0_list ?cu0_dict ?cf0_ember ?cf0_leaf ?cf0_sky ?ce0_1 ?ce0_2 ?ce0_3 ?cm0_0 ?cm0_1 ?cm0_2 ?cm0_3
    (case zc_MOST_SHADES => k_is); (case zc_MOST_WEIGHT => k_is); (case zc_ZERO => k_is); (case ca0 => k_is); (case ce0_1 => k_is); (case cm0_1 => k_is); (case l_k2_0 => k_is); (case l0 => k_is)
    (case c0 => k_is); (case a1 => k_is); (case l1 => k_is); (case c1 => k_is); (case k1 => k_is); (case a2 => k_is); (case l2 => k_is); (case c2 => k_is)
    (case k2 => k_is); (case a3 => k_is); (case l3 => k_is); (case c3 => k_is); (case k3 => k_is); (case a4 => k_is); (case l4 => k_is); (case c4 => k_is)
    (case k4 => k_is); (case a5 => k_is); (case l5 => k_is); (case c5 => k_is); (case k5 => k_is); (case a6 => k_is); (case l6 => k_is); (case c6 => k_is)
    (case k6 => k_is); (case a7 => k_is); (case l7 => k_is); (case c7 => k_is); (case k7 => k_is); (case a8 => k_is); (case l8 => k_is); (case c8 => k_is)
    (case k8 => k_is); (case a9 => k_is); (case l9 => k_is); (case c9 => k_is); (case k9 => k_is); (case a10 => k_is); (case l10 => k_is); (case c10 => k_is)
    (case k10 => k_is); (case a11 => k_is); (case l11 => k_is); (case c11 => k_is); (case k11 => k_is); (case a12 => k_is); (case l12 => k_is); (case c12 => k_is)
    (case k12 => k_is); (case a13 => k_is); (case l13 => k_is); (case c13 => k_is); (case k13 => k_is); (case l14 => k_is); (case c14 => k_is); (case a15 => k_is)
    (case l15 => k_is); (case c15 => k_is); (case k15 => k_is); (case a16 => k_is); (case l16 => k_is); (case c16 => k_is); (case k16 => k_is); (case a17 => k_is)
    (case l17 => k_is); (case c17 => k_is); (case k17 => k_is); (case a18 => k_is); (case l18 => k_is); (case c18 => k_is); (case k18 => k_is); (case a19 => k_is)
    (case l19 => k_is); (case c19 => k_is); (case k19 => k_is); (case a20 => k_is); (case l20 => k_is); (case c20 => k_is); (case k20 => k_is); (case a21 => k_is)
    (case l21 => k_is); (case c21 => k_is); (case k21 => k_is); (case a22 => k_is); (case l22 => k_is); (case c22 => k_is); (case k22 => k_is); (case a23 => k_is)
    (case l23 => k_is); (case c23 => k_is); (case k23 => k_is); (case a24 => k_is); (case l24 => k_is); (case c24 => k_is); (case k24 => k_is); (case a25 => k_is)
    (case l25 => k_is); (case c25 => k_is); (case k25 => k_is); (case a26 => k_is); (case l26 => k_is); (case c26 => k_is); (case k26 => k_is); (case a27 => k_is)
    (case l27 => k_is); (case c27 => k_is); (case k27 => k_is); (case a28 => k_is); (case l28 => k_is); (case c28 => k_is); (case k28 => k_is); (case a29 => k_is)
    (case l29 => k_is); (case c29 => k_is); (case k29 => k_is); (case a30 => k_is); (case l30 => k_is); (case c30 => k_is); (case k30 => k_is); (case a31 => k_is)
    (case l31 => k_is); (case c31 => k_is); (case k31 => k_is); (case lt31 => k_is); (case a32 => k_is); (case l32 => k_is); (case c32 => k_is); (case k32 => k_is)
    (case a33 => k_is); (case l33 => k_is); (case c33 => k_is); (case k33 => k_is); (case a34 => k_is); (case l34 => k_is); (case c34 => k_is); (case k34 => k_is)
    (case a35 => k_is); (case l35 => k_is); (case c35 => k_is); (case k35 => k_is); (case a36 => k_is); (case l36 => k_is); (case c36 => k_is); (case k36 => k_is)
    (case z_abs => k_is); (case z_all => k_is); (case z_bool => k_is); (case z_enumerate => k_is); (case z_int => k_is); (case z_isinstance => k_is); (case z_len => k_is); (case z_max => k_is)
    (case z_min => k_is); (case z_range => k_is); (case z_sum => k_is); (case z_tuple => k_is); (case z_zip => k_is); (case cb0_0 => k_is); (case cb0_1 => k_is); (case cb0_2 => k_is)
    (case cb0_3 => k_is); (case cb0_4 => k_is); (case cb0_5 => k_is); (case cb0_6 => k_is); (case cb0_7 => k_is); (case cb0_8 => k_is); (case cb0_9 => k_is); (case cd0_NoneType => k_is)
    (case cd0_bool => k_is); (case cd0_int => k_is); (case cd0_str => k_is); (case cd0_tuple => k_is); (case cd0_list => k_is); (case cd0_dict => k_is); (case cu0_bool => k_is); (case cu0_int => k_is)
    (case cu0_str => k_is); (case cu0_tuple => k_is); (case cu0_list => k_is); (case cu0_dict => k_is); (case cf0_ember => first | k_is | (unfold L2.NoAttr; k_is)); (case cf0_leaf => first | k_is | (unfold L2.NoAttr; k_is)); (case cf0_sky => first | k_is | (unfold L2.NoAttr; k_is)); (case ce0_2 => k_is)
    (case ce0_3 => k_is); (case cm0_0 => k_is); (case cm0_2 => k_is); (case cm0_3 => k_is)
