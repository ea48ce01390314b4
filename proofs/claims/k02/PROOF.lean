import PyProof.Rows.All
import Wide.All
import OpenK.AllK
import Wide.FinOn
import Wide.Once
import KE.KStateDown
import Lean
import HandS.Base
import HandS.Call
import HandS.Ends
import HandS.More
import HandS.Words
import HandS.WordsExc
import HandS.Defaults
import HandS.Head0
import HandS.Head1
import HandS.Head2
import HandS.HeadEnd
import HandS.HeadHook1
import HandS.HeadHook2
import HandS.HeadHook3
import HandS.HeadWalk
import HandS.ForMost
import HandS.ForExc
import HandS.IsInst
import HandS.Flow
import HandS.Zip
import HandS.Wide
import HandS.TupAny
import HandS.ExcValue
import HandS.Deep
import HandS.Style
import HandS.TupLe
import HandS.NoneIn
import HandS.Iter
import KE.GoesMore
import KE.GoesEnum
import KE.GoesEnumKw
import HandS.Codes
import HandS.HeadNt
import HandS.Conv
import HandS.TupMul
import KE.KRevSl
import PyProof.ReprBulk
import PyProof.ReprRoads
import PyProof.DictUpdate
import HandS.ExcIs
import PySem.Challenge.RW_heldalone_k02_errors_by_hand
import PySem.Challenge.RW_heldalone_k02_errors_by_hand
set_option Elab.async false
set_option linter.all false
set_option maxRecDepth 100000
set_option maxHeartbeats 0
namespace HQ
open PySem PySem.Spec PyProof.Rows L2

def BB : Nat := 1114112
def decL : Nat → Nat → List Nat
  | 0, _ => []
  | f + 1, n => match n with
    | 0 => []
    | m + 1 => (m % BB) :: decL f (m / BB)
def dec (n : Nat) : Str := ⟨(decL (n.log2 + 1) n).toArray⟩
theorem decL_inj : ∀ (f n m : Nat), n < 2 ^ f → m < 2 ^ f → decL f n = decL f m → n = m
  | 0, n, m, h1, h2, _ => by simp at h1 h2; omega
  | f + 1, n, m, h1, h2, h => by
    cases n with
    | zero => cases m with
      | zero => rfl
      | succ m => simp [decL] at h
    | succ n => cases m with
      | zero => simp [decL] at h
      | succ m =>
        simp only [decL, List.cons.injEq] at h
        have a : n / BB < 2 ^ f := by
          have : n / BB ≤ n / 2 := Nat.div_le_div_left (by decide) (by decide)
          rw [Nat.pow_succ] at h1
          omega
        have b : m / BB < 2 ^ f := by
          have : m / BB ≤ m / 2 := Nat.div_le_div_left (by decide) (by decide)
          rw [Nat.pow_succ] at h2
          omega
        have q := decL_inj f _ _ a b h.2
        have e1 := Nat.div_add_mod n BB
        have e2 := Nat.div_add_mod m BB
        rw [q, h.1] at e1
        omega
theorem decL_mono : ∀ (f g n : Nat), n < 2 ^ f → f ≤ g → decL f n = decL g n
  | 0, g, n, h, _ => by
    have : n = 0 := by simp at h; omega
    subst this
    cases g <;> rfl
  | f + 1, 0, n, h, hg => absurd hg (by omega)
  | f + 1, g + 1, n, h, hg => by
    cases n with
    | zero => rfl
    | succ n =>
      simp only [decL]
      rw [decL_mono f g (n / BB) ?_ (by omega)]
      have : n / BB ≤ n / 2 := Nat.div_le_div_left (by decide) (by decide)
      rw [Nat.pow_succ] at h
      omega
theorem dec_inj {n m : Nat} (h : dec n = dec m) : n = m := by
  have h' : decL (n.log2 + 1) n = decL (m.log2 + 1) m := by
    have := congrArg (fun s : Str => s.cps.toList) h
    simpa [dec] using this
  have a : n < 2 ^ (n.log2 + 1) := Nat.lt_log2_self
  have b : m < 2 ^ (m.log2 + 1) := Nat.lt_log2_self
  have l1 : n.log2 + 1 ≤ max (n.log2 + 1) (m.log2 + 1) := Nat.le_max_left _ _
  have l2 : m.log2 + 1 ≤ max (n.log2 + 1) (m.log2 + 1) := Nat.le_max_right _ _
  rw [decL_mono _ (max (n.log2 + 1) (m.log2 + 1)) n a l1, decL_mono _ (max (n.log2 + 1) (m.log2 + 1)) m b l2] at h'
  exact decL_inj _ _ _ (Nat.lt_of_lt_of_le a (Nat.pow_le_pow_right (by decide) l1)) (Nat.lt_of_lt_of_le b (Nat.pow_le_pow_right (by decide) l2)) h'

inductive W where
  | non
  | bl (b : Bool)
  | int (i : Int)
  | str (n : Nat)
  | tup (ws : List W)
  | lst (ws : List W)
  | dic (t : Nat) (kvs : List (W × W))
  | ins (c : Nat) (fs : List (Nat × W))
  | ref (i : Nat)
  | pen
  | rep (w : W)
  | sym (j n : Nat)
  | exc (c : Nat)
  deriving Inhabited
mutual
def toD : W → PyData
  | .bl b => .bool b
  | .int i => .int i
  | .str n => .str (dec n)
  | .tup ws => .tuple (toDs ws)
  | .lst ws => .list (toDs ws)
  | .dic _ kvs => .dict (toKv kvs)
  | _ => .none
def toDs : List W → List PyData
  | [] => []
  | w :: r => toD w :: toDs r
def toKv : List (W × W) → List (PyData × PyData)
  | [] => []
  | (k, w) :: r => (toD k, toD w) :: toKv r
end
/-- what repr says -/
def shW (w : W) : Str := (toD w).shown
inductive Ob where
  | lst (ws : List W)
  | dic (t : Nat) (kvs : List (W × W))
  | ins (c : Nat) (fs : List (Nat × W))
  deriving Inhabited
structure Hs where
  ob : Nat → Option Ob
  nx : Nat
  tk : Nat
inductive R (α : Type) where
  | ok (a : α)
  | stuck
  | exn (c : Nat) (sl : List (Option W)) (S : Hs)
  | pick (n : Nat) (k : W → R α)
abbrev Sl := List (Option W)
abbrev XP := Nat → Sl → Hs → Prop
abbrev M (α : Type) := Hs → R (α × Hs)
def R.bindP {α β : Type} : R α → (α → R β) → R β
  | .ok a, f => f a
  | .stuck, _ => .stuck
  | .exn c sl S, _ => .exn c sl S
  | .pick n k, f => .pick n fun v => (k v).bindP f
/-- the same, without recursion where nothing is drawn -/
def R.bindC {α β : Type} (m : R α) (f : α → R β) : R β := match m with
  | .ok a => f a
  | .stuck => .stuck
  | .exn c sl S => .exn c sl S
  | .pick n k => .pick n fun v => (k v).bindP f
theorem R.bindC_eq {α β : Type} : ∀ (m : R α) (f : α → R β), m.bindC f = m.bindP f
  | .ok _, _ => rfl
  | .stuck, _ => rfl
  | .exn _ _ _, _ => rfl
  | .pick _ _, _ => rfl
/-- nothing; it makes simp leave what goes on alone -/
structure Ph {α β : Type} (f : α → R β) : Type where
def R.bind {α β : Type} (m : R α) (f : α → R β) (_t : Ph f := ⟨⟩) : R β := R.bindC m f
def wp {α : Type} : R α → (α → Prop) → XP → Prop
  | .ok a, Q, _ => Q a
  | .stuck, _, _ => False
  | .exn c sl S, _, E => E c sl S
  | .pick n k, Q, E => ∀ v : Nat, v < n → wp (k (.int v)) Q E
theorem wp_mono {α : Type} {Q Q' : α → Prop} {E E' : XP} : ∀ {r : R α}, wp r Q E → (∀ a, Q a → Q' a) → (∀ c sl S, E c sl S → E' c sl S) → wp r Q' E'
  | .ok _, h, f, _ => f _ h
  | .stuck, h, _, _ => h
  | .exn _ _ _, h, _, g => g _ _ _ h
  | .pick _ _, h, f, g => fun v hv => wp_mono (h v hv) f g
theorem wp_bind {α β : Type} {f : α → R β} {Q : β → Prop} {E : XP} : ∀ {r : R α}, wp (r.bind f) Q E ↔ wp r (fun a => wp (f a) Q E) E
  | .ok _ => Iff.rfl
  | .stuck => Iff.rfl
  | .exn _ _ _ => Iff.rfl
  | .pick n k => ⟨fun h v hv => wp_bind.mp (by have := h v hv; unfold R.bind; rw [R.bindC_eq]; exact this), fun h v hv => by
    have := wp_bind.mpr (h v hv)
    unfold R.bind at this
    rw [R.bindC_eq] at this
    exact this⟩
@[inline] def M.pure {α : Type} (a : α) : M α := fun S => .ok (a, S)
@[inline] def M.bind {α β : Type} (m : M α) (f : α → M β) : M β := fun S => (m S).bind fun r => f r.1 r.2
@[inline] def M.stuck {α : Type} : M α := fun _ => .stuck
instance : Monad M where
  pure := M.pure
  bind := M.bind
def mOpt {α : Type} : Option α → M α
  | some a => M.pure a
  | none => M.stuck

/-- what does not change through a law -/
structure Am where
  K : PySem.W.Frag
  cl : Nat → Addr
  pi : Addr
  ga : Addr
structure Emb where
  rho : Nat → Addr
  fz : Addr → Prop
  hd : Addr → Prop

/-- a key of a dict -/
def keyW : Key → W
  | .inl i => .int i
  | .inr x => .non
inductive KeyR : W → Key → Prop
  | int (i : Int) : KeyR (.int i) (.inl i)
  | str (n : Nat) : KeyR (.str n) (.inr (dec n))
inductive KeysR : List W → List Key → Prop
  | nil : KeysR [] []
  | cons {w k ws ks} : KeyR w k → KeysR ws ks → KeysR (w :: ws) (k :: ks)

mutual
inductive VR (A : Am) (e : Emb) (nx : Nat) (H : Hp) : W → V → Prop
  | non : VR A e nx H .non .non
  | bl (b : Bool) : VR A e nx H (.bl b) (.bl b)
  | int (i : Int) : VR A e nx H (.int i) (.int i)
  | str (n : Nat) : VR A e nx H (.str n) (.str (dec n))
  | tup {a : Addr} {xs : List V} {ws : List W} : H a = some (.tup xs) → xs.length ≤ sizeLine → VRs A e nx H ws xs → VR A e nx H (.tup ws) (.ref a)
  | lst {a : Addr} {xs : List V} {ws : List W} : e.fz a → H a = some (.lst xs) → xs.length ≤ sizeLine → VRs A e nx H ws xs → VR A e nx H (.lst ws) (.ref a)
  | dK {a : Addr} {kvs : List (W × W)} {ks : List (Key × V)} : e.fz a → H a = some (.dK ks) → VRK A e nx H kvs ks → VR A e nx H (.dic 0 kvs) (.ref a)
  | dT {a : Addr} {kvs : List (W × W)} {ks : List (List Key × V)} : e.fz a → H a = some (.dT ks) → VRT A e nx H kvs ks → VR A e nx H (.dic 1 kvs) (.ref a)
  | ins {a dx : Addr} {c : Nat} {fs : List (Nat × W)} {gs : List (Str × V)} : e.fz a → H a = some (.ins (A.cl c) dx gs) → VRF A e nx H fs gs → VR A e nx H (.ins c fs) (.ref a)
  | ref {i : Nat} : i < nx → VR A e nx H (.ref i) (.ref (e.rho i))
  | pen : VR A e nx H .pen (.ref A.pi)
  | rep (w : W) : VR A e nx H (.rep w) (.str (shW w))
  | exc {c : Nat} {a : Addr} : e.fz a → H a = some (ExO (.ref (A.cl c)) a) → VR A e nx H (.exc c) (.ref a)
inductive VRs (A : Am) (e : Emb) (nx : Nat) (H : Hp) : List W → List V → Prop
  | nil : VRs A e nx H [] []
  | cons {w : W} {v : V} {ws : List W} {vs : List V} : VR A e nx H w v → VRs A e nx H ws vs → VRs A e nx H (w :: ws) (v :: vs)
inductive VRF (A : Am) (e : Emb) (nx : Nat) (H : Hp) : List (Nat × W) → List (Str × V) → Prop
  | nil : VRF A e nx H [] []
  | cons {n : Nat} {w : W} {v : V} {ws : List (Nat × W)} {vs : List (Str × V)} : VR A e nx H w v → VRF A e nx H ws vs → VRF A e nx H ((n, w) :: ws) ((dec n, v) :: vs)
inductive VRK (A : Am) (e : Emb) (nx : Nat) (H : Hp) : List (W × W) → List (Key × V) → Prop
  | nil : VRK A e nx H [] []
  | cons {k : W} {k' : Key} {w : W} {v : V} {ws : List (W × W)} {vs : List (Key × V)} : KeyR k k' → VR A e nx H w v → VRK A e nx H ws vs → VRK A e nx H ((k, w) :: ws) ((k', v) :: vs)
inductive VRT (A : Am) (e : Emb) (nx : Nat) (H : Hp) : List (W × W) → List (List Key × V) → Prop
  | nil : VRT A e nx H [] []
  | cons {k : List W} {k' : List Key} {w : W} {v : V} {ws : List (W × W)} {vs : List (List Key × V)} : KeysR k k' → VR A e nx H w v → VRT A e nx H ws vs → VRT A e nx H ((.tup k, w) :: ws) ((k', v) :: vs)
end

inductive OR (A : Am) (e : Emb) (nx : Nat) (H : Hp) : Ob → HO → Prop
  | lst {ws : List W} {xs : List V} : xs.length ≤ sizeLine → VRs A e nx H ws xs → OR A e nx H (.lst ws) (.lst xs)
  | dK {kvs : List (W × W)} {ks : List (Key × V)} : VRK A e nx H kvs ks → OR A e nx H (.dic 0 kvs) (.dK ks)
  | dT {kvs : List (W × W)} {ks : List (List Key × V)} : VRT A e nx H kvs ks → OR A e nx H (.dic 1 kvs) (.dT ks)
  | ins {c : Nat} {dx : Addr} {fs : List (Nat × W)} {gs : List (Str × V)} : VRF A e nx H fs gs → OR A e nx H (.ins c fs) (.ins (A.cl c) dx gs)

/-- the pen of a law's draws -/
structure PenOk (A : Am) (tk : Nat) (H : Hp) : Prop where
  ne : A.pi ≠ A.ga
  pen : ∃ at_ rest : Int, H A.pi = some (.lst [.ref A.ga, .int at_, .int rest]) ∧ 0 ≤ at_ ∧ at_ + tk ≤ 1000000000
  cells : ∃ (ns : List Int), H A.ga = some (.lst (ns.map V.int)) ∧ ns.length ≤ 12

structure Rep (A : Am) (e : Emb) (S : Hs) (H : Hp) : Prop where
  ob : ∀ i o, S.ob i = some o → i < S.nx ∧ (¬ e.fz (e.rho i) ∧ ¬ e.hd (e.rho i)) ∧ e.rho i ≠ A.pi ∧ e.rho i ≠ A.ga ∧ ∃ ho, H (e.rho i) = some ho ∧ OR A e S.nx H o ho
  inj : ∀ i j o u, S.ob i = some o → S.ob j = some u → e.rho i = e.rho j → i = j
  fzh : ∀ a, e.fz a → ∃ o, H a = some o
  hdh : ∀ a, e.hd a → ∃ o, H a = some o
  hdf : ∀ a, e.hd a → ¬ e.fz a
  fzp : (¬ e.fz A.pi ∧ ¬ e.fz A.ga) ∧ ¬ e.hd A.pi ∧ ¬ e.hd A.ga
  pen : PenOk A S.tk H

/-- the world went on from (e, nx, H) to (e', nx', H') -/
structure ExV (A : Am) (e : Emb) (nx : Nat) (H : Hp) (e' : Emb) (nx' : Nat) (H' : Hp) : Prop where
  nle : nx ≤ nx'
  rho : ∀ i, i < nx → e'.rho i = e.rho i
  fz : ∀ a, e.fz a → e'.fz a
  keep : ∀ a, e.fz a → H' a = H a
  tup : ∀ a xs, H a = some (.tup xs) → H' a = some (.tup xs)
/-- .. and what is hidden stands as it stood -/
structure Ext (A : Am) (e : Emb) (nx : Nat) (H : Hp) (e' : Emb) (nx' : Nat) (H' : Hp) : Prop extends ExV A e nx H e' nx' H' where
  hd : ∀ a, e.hd a → e'.hd a
  kh : ∀ a, e.hd a → H' a = H a
section
variable {A : Am} {e e1 e2 : Emb} {nx n1 n2 : Nat} {H H1 H2 : Hp}
theorem Ext.refl : Ext A e nx H e nx H := ⟨⟨Nat.le_refl _, fun _ _ => rfl, fun _ h => h, fun _ _ => rfl, fun _ _ h => h⟩, fun _ h => h, fun _ _ => rfl⟩
theorem ExV.trans (a : ExV A e nx H e1 n1 H1) (b : ExV A e1 n1 H1 e2 n2 H2) : ExV A e nx H e2 n2 H2 :=
  ⟨Nat.le_trans a.nle b.nle, fun i h => (b.rho i (Nat.lt_of_lt_of_le h a.nle)).trans (a.rho i h), fun c h => b.fz c (a.fz c h), fun c h => (b.keep c (a.fz c h)).trans (a.keep c h), fun c xs h => b.tup c xs (a.tup c xs h)⟩
theorem Ext.trans (a : Ext A e nx H e1 n1 H1) (b : Ext A e1 n1 H1 e2 n2 H2) : Ext A e nx H e2 n2 H2 :=
  ⟨a.toExV.trans b.toExV, fun c h => b.hd c (a.hd c h), fun c h => (b.kh c (a.hd c h)).trans (a.kh c h)⟩
mutual
theorem VR.extV (x : ExV A e nx H e1 n1 H1) : ∀ {w : W} {v : V}, VR A e nx H w v → VR A e1 n1 H1 w v
  | _, _, .non => .non
  | _, _, .bl b => .bl b
  | _, _, .int i => .int i
  | _, _, .str n => .str n
  | _, _, .tup h z r => .tup (x.tup _ _ h) z (VRs.extV x r)
  | _, _, .lst f h z r => .lst (x.fz _ f) (by rw [x.keep _ f]; exact h) z (VRs.extV x r)
  | _, _, .dK f h r => .dK (x.fz _ f) (by rw [x.keep _ f]; exact h) (VRK.extV x r)
  | _, _, .dT f h r => .dT (x.fz _ f) (by rw [x.keep _ f]; exact h) (VRT.extV x r)
  | _, _, .ins f h r => .ins (x.fz _ f) (by rw [x.keep _ f]; exact h) (VRF.extV x r)
  | _, _, .ref h => by
    rw [← x.rho _ h]
    exact .ref (Nat.lt_of_lt_of_le h x.nle)
  | _, _, .pen => .pen
  | _, _, .rep w => .rep w
  | _, _, .exc f h => .exc (x.fz _ f) (by rw [x.keep _ f]; exact h)
theorem VRs.extV (x : ExV A e nx H e1 n1 H1) : ∀ {w : List W} {v : List V}, VRs A e nx H w v → VRs A e1 n1 H1 w v
  | _, _, .nil => .nil
  | _, _, .cons a b => .cons (VR.extV x a) (VRs.extV x b)
theorem VRF.extV (x : ExV A e nx H e1 n1 H1) : ∀ {w : List (Nat × W)} {v : List (Str × V)}, VRF A e nx H w v → VRF A e1 n1 H1 w v
  | _, _, .nil => .nil
  | _, _, .cons a b => .cons (VR.extV x a) (VRF.extV x b)
theorem VRK.extV (x : ExV A e nx H e1 n1 H1) : ∀ {w : List (W × W)} {v : List (Key × V)}, VRK A e nx H w v → VRK A e1 n1 H1 w v
  | _, _, .nil => .nil
  | _, _, .cons k a b => .cons k (VR.extV x a) (VRK.extV x b)
theorem VRT.extV (x : ExV A e nx H e1 n1 H1) : ∀ {w : List (W × W)} {v : List (List Key × V)}, VRT A e nx H w v → VRT A e1 n1 H1 w v
  | _, _, .nil => .nil
  | _, _, .cons k a b => .cons k (VR.extV x a) (VRT.extV x b)
end
theorem VR.ext (x : Ext A e nx H e1 n1 H1) {w : W} {v : V} (h : VR A e nx H w v) : VR A e1 n1 H1 w v := h.extV x.toExV
theorem VRs.ext (x : Ext A e nx H e1 n1 H1) {w : List W} {v : List V} (h : VRs A e nx H w v) : VRs A e1 n1 H1 w v := h.extV x.toExV
theorem VRF.ext (x : Ext A e nx H e1 n1 H1) {w : List (Nat × W)} {v : List (Str × V)} (h : VRF A e nx H w v) : VRF A e1 n1 H1 w v := h.extV x.toExV
theorem VRK.ext (x : Ext A e nx H e1 n1 H1) {w : List (W × W)} {v : List (Key × V)} (h : VRK A e nx H w v) : VRK A e1 n1 H1 w v := h.extV x.toExV
theorem VRT.ext (x : Ext A e nx H e1 n1 H1) {w : List (W × W)} {v : List (List Key × V)} (h : VRT A e nx H w v) : VRT A e1 n1 H1 w v := h.extV x.toExV
theorem OR.extV (x : ExV A e nx H e1 n1 H1) {o : Ob} {h : HO} (r : OR A e nx H o h) : OR A e1 n1 H1 o h := by
  cases r with
  | lst z r => exact .lst z (r.extV x)
  | dK r => exact .dK (r.extV x)
  | dT r => exact .dT (r.extV x)
  | ins r => exact .ins (r.extV x)
theorem OR.ext (x : Ext A e nx H e1 n1 H1) {o : Ob} {h : HO} (r : OR A e nx H o h) : OR A e1 n1 H1 o h := r.extV x.toExV
theorem VRs.length : ∀ {ws : List W} {vs : List V}, VRs A e nx H ws vs → ws.length = vs.length
  | _, _, .nil => rfl
  | _, _, .cons _ b => by simp [VRs.length b]
theorem VRs.get : ∀ {ws : List W} {vs : List V} {i : Nat} {w : W}, VRs A e nx H ws vs → ws[i]? = some w → ∃ v, vs[i]? = some v ∧ VR A e nx H w v
  | _, _, _, _, .nil, h => by simp at h
  | _, _, 0, _, .cons a _, h => by simp at h; subst h; exact ⟨_, rfl, a⟩
  | _, _, i + 1, _, .cons _ b, h => by
    obtain ⟨v, h1, h2⟩ := VRs.get (i := i) b (by simpa using h)
    exact ⟨v, by simpa using h1, h2⟩
theorem VRs.append : ∀ {ws us : List W} {vs xs : List V}, VRs A e nx H ws vs → VRs A e nx H us xs → VRs A e nx H (ws ++ us) (vs ++ xs)
  | _, _, _, _, .nil, s => s
  | _, _, _, _, .cons a b, s => .cons a (VRs.append b s)
theorem VRs.set : ∀ {ws : List W} {vs : List V} (i : Nat) {w : W} {v : V}, VR A e nx H w v → VRs A e nx H ws vs → VRs A e nx H (ws.set i w) (vs.set i v)
  | _, _, _, _, _, _, .nil => .nil
  | _, _, 0, _, _, r, .cons _ b => .cons r b
  | _, _, i + 1, _, _, r, .cons a b => .cons a (VRs.set i r b)
theorem VRs.take : ∀ {ws : List W} {vs : List V} (n : Nat), VRs A e nx H ws vs → VRs A e nx H (ws.take n) (vs.take n)
  | _, _, 0, _ => .nil
  | _, _, _ + 1, .nil => .nil
  | _, _, n + 1, .cons a b => .cons a (VRs.take n b)
theorem VRs.drop : ∀ {ws : List W} {vs : List V} (n : Nat), VRs A e nx H ws vs → VRs A e nx H (ws.drop n) (vs.drop n)
  | _, _, 0, r => r
  | _, _, _ + 1, .nil => .nil
  | _, _, n + 1, .cons _ b => VRs.drop n b
theorem VRs.ints : ∀ {ns : List Int}, VRs A e nx H (ns.map W.int) (ns.map V.int)
  | [] => .nil
  | _ :: r => .cons (.int _) (VRs.ints (ns := r))
/-- the value tells the object: two relations of one W and one V … -/
theorem VRs.inj_len {ws : List W} {vs xs : List V} (a : VRs A e nx H ws vs) (b : VRs A e nx H ws xs) : vs.length = xs.length := by
  rw [← a.length, ← b.length]
end

def SlR (A : Am) (e : Emb) (nx : Nat) (H : Hp) (sl : Sl) (sg : L2.St) : Prop :=
  sl.length = sg.length ∧ ∀ (i : Nat) (w : W), sl[i]? = some (some w) → ∃ v, sg[i]? = some (some v) ∧ VR A e nx H w v
theorem SlR.extV {A : Am} {e e1 : Emb} {nx n1 : Nat} {H H1 : Hp} {sl : Sl} {sg : L2.St} (r : SlR A e nx H sl sg) (x : ExV A e nx H e1 n1 H1) : SlR A e1 n1 H1 sl sg :=
  ⟨r.1, fun i w h => let ⟨v, h1, h2⟩ := r.2 i w h; ⟨v, h1, h2.extV x⟩⟩
theorem SlR.ext {A : Am} {e e1 : Emb} {nx n1 : Nat} {H H1 : Hp} {sl : Sl} {sg : L2.St} (r : SlR A e nx H sl sg) (x : Ext A e nx H e1 n1 H1) : SlR A e1 n1 H1 sl sg := r.extV x.toExV
theorem SlR.set {A : Am} {e : Emb} {nx : Nat} {H : Hp} {sl : Sl} {sg : L2.St} (r : SlR A e nx H sl sg) {w : W} {v : V} (h : VR A e nx H w v) (i : Nat) : SlR A e nx H (sl.set i (some w)) (sg.set i (some v)) := by
  refine ⟨by simp [r.1], fun j u q => ?_⟩
  by_cases hj : i = j
  · subst hj
    rw [List.getElem?_set_self' ] at q
    cases z : sl[i]? with
    | none => rw [z] at q; cases q
    | some o =>
      rw [z] at q
      have hi : i < sg.length := by rw [← r.1]; exact (List.getElem?_eq_some_iff.mp z).1
      cases q
      exact ⟨v, List.getElem?_set_self hi, h⟩
  · rw [List.getElem?_set_ne hj] at q
    rw [List.getElem?_set_ne hj]
    exact r.2 j u q

abbrev Ctx := L2.Cx
structure Bm where
  cl : Nat → Addr
  pi : Addr
  ga : Addr
@[reducible] def am (X : L2.Cx) (B : Bm) : Am := ⟨X.K, B.cl, B.pi, B.ga⟩
/-- from a piece started at (e, nx, H): every real end of value w and state S' is wished for -/
def Post (A : Am) (e : Emb) (nx : Nat) (H : Hp) (w : W) (S' : Hs) (Q : VK) : Prop :=
  ∀ e' H' v, Ext A e nx H e' S'.nx H' → Rep A e' S' H' → VR A e' S'.nx H' w v → Q v H'
def PostX (A : Am) (e : Emb) (nx : Nat) (H : Hp) (c : Nat) (sl : Sl) (S' : Hs) (Wx : WX) : Prop :=
  ∀ e' H' d sg, Ext A e nx H e' S'.nx H' → Rep A e' S' H' → SlR A e' S'.nx H' sl sg → Wx (.ref (A.cl c)) d sg H'
theorem Post.ext {A : Am} {e e1 : Emb} {nx n1 : Nat} {H H1 : Hp} {w : W} {S : Hs} {Q : VK} (p : Post A e nx H w S Q) (x : Ext A e nx H e1 n1 H1) : Post A e1 n1 H1 w S Q :=
  fun e' H' v y => p e' H' v (x.trans y)
theorem PostX.ext {A : Am} {e e1 : Emb} {nx n1 : Nat} {H H1 : Hp} {c : Nat} {sl : Sl} {S : Hs} {Wx : WX} (p : PostX A e nx H c sl S Wx) (x : Ext A e nx H e1 n1 H1) : PostX A e1 n1 H1 c sl S Wx :=
  fun e' H' d sg y => p e' H' d sg (x.trans y)

abbrev Den := Sl → M W
def rdE (A : Am) (Wx : WX) (f : Den) : TE := fun sg H Q => ∃ e S sl, Rep A e S H ∧ SlR A e S.nx H sl sg ∧
  wp (f sl S) (fun r => Post A e S.nx H r.1 r.2 Q) (fun c sl' S' => PostX A e S.nx H c sl' S' Wx)
/-- the expression is done as f says -/
def SE (X : L2.Cx) (B : Bm) (Wx : WX) (ex : Expr) (f : Den) : Prop := PE X ex (rdE (am X B) Wx f)
theorem weakE {X : L2.Cx} {ex : Expr} {t u : TE} (h : PE X ex t) (w : ∀ sg H Q, u sg H Q → t sg H Q) : PE X ex u :=
  ⟨fun pins s sg H Q I q => h.run pins s sg H Q I (w sg H Q q)⟩

/-- a piece that stays where it is -/
theorem rdE_here {A : Am} {Wx : WX} {f : Den} {sg : L2.St} {H : Hp} {Q : VK} (h : rdE A Wx f sg H Q) {t : Prop}
    (k : ∀ e S sl, Rep A e S H → SlR A e S.nx H sl sg → wp (f sl S) (fun r => Post A e S.nx H r.1 r.2 Q) (fun c sl' S' => PostX A e S.nx H c sl' S' Wx) → t) : t :=
  let ⟨e, S, sl, a, b, c⟩ := h; k e S sl a b c

/-- a part ahead: from f >>= k, what the part f must bring -/
theorem rdE_part {A : Am} {Wx : WX} {f : Den} {α : Type} {k : Sl → W → M α} {sg : L2.St} {H : Hp} {e : Emb} {S : Hs} {sl : Sl} {Qr : α × Hs → Prop} {Q : VK}
    (rp : Rep A e S H) (rs : SlR A e S.nx H sl sg) (h : wp ((f sl S).bind fun r => k sl r.1 r.2) Qr (fun c sl' S' => PostX A e S.nx H c sl' S' Wx))
    (next : ∀ e1 S1 H1 w v, Ext A e S.nx H e1 S1.nx H1 → Rep A e1 S1 H1 → SlR A e1 S1.nx H1 sl sg → VR A e1 S1.nx H1 w v → wp (k sl w S1) Qr (fun c sl' S' => PostX A e S.nx H c sl' S' Wx) → Q v H1) : rdE A Wx f sg H Q :=
  ⟨e, S, sl, rp, rs, wp_mono (wp_bind.mp h) (fun r q e1 H1 v x rp1 rv => next e1 r.2 H1 r.1 v x rp1 (rs.ext x) rv q) fun _ _ _ q => q⟩
end HQ
namespace HQ
open PySem
theorem decL_ok : ∀ (f n : Nat), (decL f n).all (· < 0x110000) = true
  | 0, _ => rfl
  | f + 1, 0 => rfl
  | f + 1, m + 1 => by
    simp only [decL, List.all_cons, Bool.and_eq_true, decide_eq_true_eq]
    exact ⟨Nat.mod_lt _ (by decide), decL_ok f _⟩
theorem strOk_dec (n : Nat) : PySem.PyData.strOk (dec n) = true := by
  unfold PyData.strOk dec
  rw [List.all_toArray]
  exact decL_ok _ _
theorem dec_beq (n m : Nat) : (dec n == dec m) = (n == m) := by
  by_cases h : n = m
  · subst h; simp
  · have : dec n ≠ dec m := fun z => h (dec_inj z)
    rw [beq_eq_false_iff_ne.mpr this, beq_eq_false_iff_ne.mpr h]
end HQ
namespace HQ
open PySem PySem.Spec PyProof.Rows L2
variable {X : L2.Cx} {B : Bm} {Wx : WX}

section
variable {A : Am} {e : Emb} {S : Hs} {H : Hp}
theorem upd_keep {p : Addr} {o u : HO} {a : Addr} (n : H p = none) (h : H a = some u) : (upd H p o) a = some u := by
  rw [upd_ne (ne_of_none h n)]; exact h
theorem SqT.updN {K : PySem.W.Frag} {p : Addr} {o : HO} {a : Addr} {xs : List V} (n : H p = none) (h : SqT K H a xs) : SqT K (upd H p o) a xs := by
  rcases h with (h | ⟨f, h⟩) | h
  · exact .inl (.inl (upd_keep n h))
  · exact .inl (.inr ⟨f, upd_keep n h⟩)
  · exact .inr h
/-- something new that nobody tells of -/
theorem Ext.new (rp : Rep A e S H) {p : Addr} {o : HO} (n : H p = none) (fz' : Addr → Prop) (hf : ∀ a, e.fz a → fz' a) : Ext A e S.nx H ⟨e.rho, fz', e.hd⟩ S.nx (upd H p o) :=
  ⟨⟨Nat.le_refl _, fun _ _ => rfl, hf, fun a h => let ⟨u, q⟩ := rp.fzh a h; (upd_keep n q).trans q.symm, fun _ _ h => upd_keep n h⟩, fun _ h => h, fun a h => let ⟨u, q⟩ := rp.hdh a h; (upd_keep n q).trans q.symm⟩
theorem PenOk.new {tk : Nat} {p : Addr} {o : HO} (h : PenOk A tk H) (n : H p = none) : PenOk A tk (upd H p o) :=
  ⟨h.ne, let ⟨a, r, q, z⟩ := h.pen; ⟨a, r, upd_keep n q, z⟩, let ⟨ns, q, z⟩ := h.cells; ⟨ns, upd_keep n q, z⟩⟩
theorem Rep.new (rp : Rep A e S H) {p : Addr} {o : HO} (n : H p = none) (fz' : Addr → Prop) (hf : ∀ a, e.fz a → fz' a) (hn : ∀ a, fz' a → e.fz a ∨ a = p) : Rep A ⟨e.rho, fz', e.hd⟩ S (upd H p o) := by
  have x : Ext A e S.nx H ⟨e.rho, fz', e.hd⟩ S.nx (upd H p o) := Ext.new rp n fz' hf
  have np1 : A.pi ≠ p := by obtain ⟨a, r, q, _⟩ := rp.pen.pen; exact ne_of_none q n
  have np2 : A.ga ≠ p := by obtain ⟨a, q, _⟩ := rp.pen.cells; exact ne_of_none q n
  refine ⟨fun i ob h => ?_, fun i j ob u h1 h2 h3 => rp.inj i j ob u h1 h2 h3, fun a h => ?_, fun a h => let ⟨u, q⟩ := rp.hdh a h; ⟨u, upd_keep n q⟩, fun a h q => ?_, ⟨⟨fun h => ?_, fun h => ?_⟩, rp.fzp.2⟩, rp.pen.new n⟩
  · obtain ⟨h1, ⟨h2, h2'⟩, h3, h4, ho, h5, h6⟩ := rp.ob i ob h
    refine ⟨h1, ⟨fun q => ?_, h2'⟩, h3, h4, ho, upd_keep n h5, h6.ext x⟩
    rcases hn _ q with z | z
    · exact h2 z
    · exact absurd z (ne_of_none h5 n)
  · rcases hn a h with z | z
    · obtain ⟨u, q⟩ := rp.fzh a z
      exact ⟨u, upd_keep n q⟩
    · exact ⟨o, by rw [z]; exact upd_same⟩
  · rcases hn _ q with z | z
    · exact rp.hdf a h z
    · obtain ⟨u, g⟩ := rp.hdh a h
      exact absurd z (ne_of_none g n)
  · rcases hn _ h with z | z
    · exact rp.fzp.1.1 z
    · exact np1 z
  · rcases hn _ h with z | z
    · exact rp.fzp.1.2 z
    · exact np2 z

/-- an object is changed -/
theorem isT_ne {ho : HO} {o : Ob} (r : OR A e S.nx H o ho) : (∀ xs, ho ≠ .tup xs) ∧ (∀ f u, ho ≠ .frz f u) := by
  cases r <;> (constructor <;> (intros; intro z; cases z))
theorem tup_updM {p : Addr} {o u : HO} {a : Addr} {xs : List V} (hp : H p = some u) (n1 : ∀ xs, u ≠ .tup xs) (h : H a = some (.tup xs)) : (upd H p o) a = some (.tup xs) := by
  have : a ≠ p := fun z => by rw [z, hp] at h; exact n1 _ (Option.some.inj h)
  rw [upd_ne this]; exact h
end
def oset (f : Nat → Option Ob) (i : Nat) (o : Option Ob) : Nat → Option Ob := fun j => if j = i then o else f j
@[simp] theorem oset_same {f : Nat → Option Ob} {i : Nat} {o : Option Ob} : oset f i o i = o := by simp [oset]
theorem oset_ne {f : Nat → Option Ob} {i j : Nat} {o : Option Ob} (h : j ≠ i) : oset f i o j = f j := by simp [oset, h]
@[simp] theorem oset_oset {f : Nat → Option Ob} {i : Nat} {o u : Option Ob} : oset (oset f i o) i u = oset f i u := by
  funext j; simp only [oset]; split <;> rfl
theorem oset_self {f : Nat → Option Ob} {i : Nat} {o : Option Ob} (h : f i = o) : oset f i o = f := by
  funext j; simp only [oset]; split
  · next z => rw [z, h]
  · rfl
def Hs.put (S : Hs) (i : Nat) (o : Ob) : Hs := ⟨oset S.ob i (some o), S.nx, S.tk⟩
def Hs.del (S : Hs) (i : Nat) : Hs := ⟨oset S.ob i none, S.nx, S.tk⟩
def Hs.new (S : Hs) (o : Ob) : Hs := ⟨oset S.ob S.nx (some o), S.nx + 1, S.tk⟩
def Hs.top (S : Hs) (n : Nat) : Hs := ⟨S.ob, n, S.tk⟩
def Hs.tok (S : Hs) (n : Nat) : Hs := ⟨S.ob, S.nx, n⟩
section
variable {A : Am} {e : Emb} {S : Hs} {H : Hp}
theorem Ext.put (rp : Rep A e S H) {i : Nat} {o : Ob} {ho : HO} (hi : S.ob i = some o) : Ext A e S.nx H e S.nx (upd H (e.rho i) ho) := by
  obtain ⟨h1, h2, h3, h4, hu, h5, h6⟩ := rp.ob i o hi
  obtain ⟨n1, n2⟩ := isT_ne h6
  exact ⟨⟨Nat.le_refl _, fun _ _ => rfl, fun _ h => h, fun a h => upd_ne fun z => h2.1 (by rw [← z]; exact h), fun a xs h => tup_updM h5 n1 h⟩, fun _ h => h, fun a h => upd_ne fun z => h2.2 (by rw [← z]; exact h)⟩
theorem Rep.put (rp : Rep A e S H) {i : Nat} {o o' : Ob} {ho : HO} (hi : S.ob i = some o) (r : OR A e S.nx (upd H (e.rho i) ho) o' ho) : Rep A e (S.put i o') (upd H (e.rho i) ho) := by
  obtain ⟨h1, h2, h3, h4, hu, h5, h6⟩ := rp.ob i o hi
  have x : Ext A e S.nx H e S.nx (upd H (e.rho i) ho) := Ext.put rp hi
  refine ⟨fun j ob h => ?_, fun j k ob u q1 q2 q3 => ?_, fun a h => ?_, fun a h => ?_, rp.hdf, rp.fzp, ⟨rp.pen.ne, ?_, ?_⟩⟩
  · by_cases hj : j = i
    · subst hj
      have : ob = o' := by
        have : (S.put j o').ob j = some o' := oset_same
        rw [this] at h; exact (Option.some.inj h).symm
      subst this
      exact ⟨h1, h2, h3, h4, ho, upd_same, r⟩
    · have h' : S.ob j = some ob := by
        have : (S.put i o').ob j = S.ob j := oset_ne hj
        rw [this] at h; exact h
      obtain ⟨k1, k2, k3, k4, ku, k5, k6⟩ := rp.ob j ob h'
      exact ⟨k1, k2, k3, k4, ku, by rw [upd_ne fun z => hj (rp.inj _ _ _ _ h' hi z)]; exact k5, k6.ext x⟩
  · have g : ∀ j ob, (S.put i o').ob j = some ob → ∃ u, S.ob j = some u := fun j ob h => by
      by_cases hj : j = i
      · subst hj; exact ⟨o, hi⟩
      · have : (S.put i o').ob j = S.ob j := oset_ne hj
        exact ⟨ob, by rw [← this]; exact h⟩
    obtain ⟨u1, z1⟩ := g j ob q1
    obtain ⟨u2, z2⟩ := g k u q2
    exact rp.inj _ _ _ _ z1 z2 q3
  · obtain ⟨u, q⟩ := rp.fzh a h
    have ne : a ≠ e.rho i := fun z => h2.1 (by rw [← z]; exact h)
    exact ⟨u, by rw [upd_ne ne]; exact q⟩
  · obtain ⟨u, q⟩ := rp.hdh a h
    have ne : a ≠ e.rho i := fun z => h2.2 (by rw [← z]; exact h)
    exact ⟨u, by rw [upd_ne ne]; exact q⟩
  · obtain ⟨a, b, q, z⟩ := rp.pen.pen
    exact ⟨a, b, by rw [upd_ne (Ne.symm h3)]; exact q, z⟩
  · obtain ⟨ns, q, z⟩ := rp.pen.cells
    exact ⟨ns, by rw [upd_ne (Ne.symm h4)]; exact q, z⟩
abbrev Emb.add (e : Emb) (n : Nat) (p : Addr) : Emb := ⟨fun i => if i = n then p else e.rho i, e.fz, e.hd⟩
theorem Ext.fresh (rp : Rep A e S H) {p : Addr} {ho : HO} (n : H p = none) : Ext A e S.nx H (e.add S.nx p) (S.nx + 1) (upd H p ho) :=
  ⟨⟨Nat.le_succ _, fun i h => if_neg (Nat.ne_of_lt h), fun _ h => h, fun a h => let ⟨u, q⟩ := rp.fzh a h; (upd_keep n q).trans q.symm, fun _ _ h => upd_keep n h⟩, fun _ h => h, fun a h => let ⟨u, q⟩ := rp.hdh a h; (upd_keep n q).trans q.symm⟩
theorem Rep.mk' (rp : Rep A e S H) {p : Addr} {o : Ob} {ho : HO} (n : H p = none) (r : OR A (e.add S.nx p) (S.nx + 1) (upd H p ho) o ho) : Rep A (e.add S.nx p) (S.new o) (upd H p ho) := by
  have x : Ext A e S.nx H (e.add S.nx p) (S.nx + 1) (upd H p ho) := Ext.fresh rp n
  have np1 : A.pi ≠ p := by obtain ⟨a, r, q, _⟩ := rp.pen.pen; exact ne_of_none q n
  have np2 : A.ga ≠ p := by obtain ⟨a, q, _⟩ := rp.pen.cells; exact ne_of_none q n
  have old : ∀ j ob, (S.new o).ob j = some ob → (j = S.nx ∧ ob = o) ∨ (j < S.nx ∧ S.ob j = some ob) := fun j ob h => by
    by_cases hj : j = S.nx
    · subst hj
      have : (S.new o).ob S.nx = some o := oset_same
      rw [this] at h; exact .inl ⟨rfl, (Option.some.inj h).symm⟩
    · have : (S.new o).ob j = S.ob j := oset_ne hj
      rw [this] at h
      exact .inr ⟨(rp.ob j ob h).1, h⟩
  refine ⟨fun j ob h => ?_, fun j k ob u q1 q2 q3 => ?_, fun a h => ?_, fun a h => let ⟨u, q⟩ := rp.hdh a h; ⟨u, upd_keep n q⟩, rp.hdf, rp.fzp, rp.pen.new n⟩
  · rcases old j ob h with ⟨rfl, rfl⟩ | ⟨hl, h'⟩
    · have er : (e.add S.nx p).rho S.nx = p := if_pos rfl
      rw [er]
      refine ⟨Nat.lt_succ_self _, ⟨fun z => ?_, fun z => ?_⟩, Ne.symm np1, Ne.symm np2, ho, upd_same, r⟩
      · obtain ⟨u, q⟩ := rp.fzh p z
        rw [n] at q; cases q
      · obtain ⟨u, q⟩ := rp.hdh p z
        rw [n] at q; cases q
    · have er : (e.add S.nx p).rho j = e.rho j := if_neg (Nat.ne_of_lt hl)
      rw [er]
      obtain ⟨k1, k2, k3, k4, ku, k5, k6⟩ := rp.ob j ob h'
      exact ⟨Nat.lt_succ_of_lt hl, k2, k3, k4, ku, upd_keep n k5, k6.ext x⟩
  · rcases old j ob q1 with ⟨rfl, rfl⟩ | ⟨hl, h'⟩
    · rcases old k u q2 with ⟨rfl, rfl⟩ | ⟨hl', h''⟩
      · rfl
      · have e1 : (e.add S.nx p).rho S.nx = p := if_pos rfl
        have e2 : (e.add S.nx p).rho k = e.rho k := if_neg (Nat.ne_of_lt hl')
        rw [e1, e2] at q3
        obtain ⟨_, _, _, _, ku, k5, _⟩ := rp.ob k u h''
        exact absurd q3.symm (ne_of_none k5 n)
    · rcases old k u q2 with ⟨rfl, rfl⟩ | ⟨hl', h''⟩
      · have e1 : (e.add S.nx p).rho S.nx = p := if_pos rfl
        have e2 : (e.add S.nx p).rho j = e.rho j := if_neg (Nat.ne_of_lt hl)
        rw [e1, e2] at q3
        obtain ⟨_, _, _, _, ku, k5, _⟩ := rp.ob j ob h'
        exact absurd q3 (ne_of_none k5 n)
      · have e1 : (e.add S.nx p).rho j = e.rho j := if_neg (Nat.ne_of_lt hl)
        have e2 : (e.add S.nx p).rho k = e.rho k := if_neg (Nat.ne_of_lt hl')
        rw [e1, e2] at q3
        exact rp.inj _ _ _ _ h' h'' q3
  · obtain ⟨u, q⟩ := rp.fzh a h
    exact ⟨u, upd_keep n q⟩
/-- an object is given up: from now on it stands for ever as it is -/
abbrev Emb.ice (e : Emb) (p : Addr) : Emb := ⟨e.rho, fun a => e.fz a ∨ a = p, e.hd⟩
theorem Ext.del (p : Addr) : Ext A e S.nx H (e.ice p) S.nx H := ⟨⟨Nat.le_refl _, fun _ _ => rfl, fun _ h => .inl h, fun _ _ => rfl, fun _ _ h => h⟩, fun _ h => h, fun _ _ => rfl⟩
theorem Rep.del (rp : Rep A e S H) {i : Nat} {o : Ob} (hi : S.ob i = some o) : Rep A (e.ice (e.rho i)) (S.del i) H := by
  obtain ⟨h1, h2, h3, h4, hu, h5, h6⟩ := rp.ob i o hi
  have old : ∀ j ob, (S.del i).ob j = some ob → j ≠ i ∧ S.ob j = some ob := fun j ob h => by
    by_cases hj : j = i
    · subst hj
      have : (S.del j).ob j = none := oset_same
      rw [this] at h; cases h
    · have : (S.del i).ob j = S.ob j := oset_ne hj
      exact ⟨hj, by rw [← this]; exact h⟩
  refine ⟨fun j ob h => ?_, fun j k ob u q1 q2 q3 => rp.inj _ _ _ _ (old _ _ q1).2 (old _ _ q2).2 q3, fun a h => ?_, rp.hdh, fun a h q => ?_, ⟨⟨fun h => ?_, fun h => ?_⟩, rp.fzp.2⟩, rp.pen⟩
  · obtain ⟨hj, h'⟩ := old j ob h
    obtain ⟨k1, k2, k3, k4, ku, k5, k6⟩ := rp.ob j ob h'
    refine ⟨k1, ⟨fun z => ?_, k2.2⟩, k3, k4, ku, k5, k6.ext (Ext.del (S := S) (H := H) (e.rho i))⟩
    rcases z with z | z
    · exact k2.1 z
    · exact hj (rp.inj _ _ _ _ h' hi z)
  · rcases h with h | rfl
    · exact rp.fzh a h
    · exact ⟨hu, h5⟩
  · rcases q with q | q
    · exact rp.hdf a h q
    · exact h2.2 (by rw [← q]; exact h)
  · rcases h with h | h
    · exact rp.fzp.1.1 h
    · exact h3 h.symm
  · rcases h with h | h
    · exact rp.fzp.1.2 h
    · exact h4 h.symm
end
end HQ
namespace HQ
open PySem PySem.Spec PyProof.Rows L2
variable {X : L2.Cx} {B : Bm} {Wx : WX} {A : Am}

theorem Post.now {e : Emb} {S : Hs} {H : Hp} {w : W} {Q : VK} {v : V} (p : Post A e S.nx H w S Q) (rp : Rep A e S H) (rv : VR A e S.nx H w v) : Q v H := p e H v Ext.refl rp rv
/-- the part f of a piece begun at e0, standing at e -/
theorem part {f : Den} {α : Type} {k : W → M α} {sg : L2.St} {H0 H : Hp} {e0 e : Emb} {n0 : Nat} {S : Hs} {sl : Sl} {Qr : α × Hs → Prop} {Q : VK}
    (x0 : Ext A e0 n0 H0 e S.nx H) (rp : Rep A e S H) (rs : SlR A e S.nx H sl sg) (h : wp ((f sl S).bind fun r => k r.1 r.2) Qr (fun c sl' S' => PostX A e0 n0 H0 c sl' S' Wx))
    (next : ∀ e1 S1 H1 w v, Ext A e0 n0 H0 e1 S1.nx H1 → Ext A e S.nx H e1 S1.nx H1 → Rep A e1 S1 H1 → SlR A e1 S1.nx H1 sl sg → VR A e1 S1.nx H1 w v →
      wp (k w S1) Qr (fun c sl' S' => PostX A e0 n0 H0 c sl' S' Wx) → Q v H1) : rdE A Wx f sg H Q :=
  ⟨e, S, sl, rp, rs, wp_mono (wp_bind.mp h) (fun r q e1 H1 v x rp1 rv => next e1 r.2 H1 r.1 v (x0.trans x) x rp1 (rs.ext x) rv q) fun _ _ _ q => q.ext x0⟩

def slGet (sl : Sl) (i : Nat) : Option W :=
  Nat.rec (motive := fun _ => Sl → Option W) (fun sl => match sl with
    | [] => none
    | o :: _ => o) (fun _ ih sl => match sl with
    | [] => none
    | _ :: r => ih r) i sl
theorem slGet_some : ∀ {i : Nat} {sl : Sl} {w : W}, slGet sl i = some w → sl[i]? = some (some w)
  | 0, [], _, h => by cases h
  | 0, o :: _, w, h => by
    have h' : o = some w := h
    rw [h']; rfl
  | i + 1, [], _, h => by cases h
  | i + 1, _ :: r, w, h => by
    have := slGet_some (i := i) (sl := r) h
    simpa using this
def cVar (i : Nat) : Den := fun sl S => match slGet sl i with
  | some w => .ok (w, S)
  | none => .stuck
def cC (w : W) : Den := fun _ S => .ok (w, S)
theorem se_var {i : Nat} {x : Str} {pos : Pos} (hN : X.N[i]? = some x) (hv : Vis X.env.scope x) (hd : (x == ("__debug__" : Str)) = false := by decide) (hcd : (x == ("__classdict__" : Str)) = false := by decide) : SE X B Wx (.Name x pos) (cVar i) :=
  weakE (pe_var hN hv hd hcd) fun sg H Q ⟨e, S, sl, rp, rs, h⟩ => by
    unfold cVar at h
    split at h
    · next w q =>
      have : sl[i]? = some (some w) := slGet_some q
      obtain ⟨v, h1, h2⟩ := rs.2 i w this
      exact ⟨v, h1, Post.now h rp h2⟩
    · exact h.elim
theorem rd_const {w : W} {v : V} (r : ∀ e nx H, VR A e nx H w v) : ∀ sg H Q, rdE A Wx (cC w) sg H Q → tC v sg H Q := fun sg H Q ⟨e, S, sl, rp, rs, h⟩ => Post.now h rp (r _ _ _)
theorem se_int {i : Int} {j : Nat} {pos : Pos} : SE X B Wx (.Constant (.int i) j pos) (cC (.int i)) := weakE pe_int (rd_const fun _ _ _ => .int i)
theorem se_bl {b : Bool} {j : Nat} {pos : Pos} : SE X B Wx (.Constant (.bool b) j pos) (cC (.bl b)) := weakE pe_bl (rd_const fun _ _ _ => .bl b)
theorem se_non {j : Nat} {pos : Pos} : SE X B Wx (.Constant .none j pos) (cC .non) := weakE pe_non (rd_const fun _ _ _ => .non)
theorem se_str {x : Str} {j : Nat} {pos : Pos} (n : Nat) (h : dec n = x := by decide +kernel) : SE X B Wx (.Constant (.str x) j pos) (cC (.str n)) := by
  subst h
  exact weakE pe_str (rd_const fun _ _ _ => .str n)

def vw (S : Hs) (w : W) : W := match w with
  | .ref i => (match S.ob i with
    | some (.lst ws) => .lst ws
    | some (.dic t kvs) => .dic t kvs
    | some (.ins c fs) => .ins c fs
    | none => .ref i)
  | w => w
def LsR (A : Am) (e : Emb) (nx : Nat) (H : Hp) (ws : List W) (v : V) : Prop := ∃ a xs, v = .ref a ∧ H a = some (.lst xs) ∧ xs.length ≤ sizeLine ∧ VRs A e nx H ws xs
def InR (A : Am) (e : Emb) (nx : Nat) (H : Hp) (c : Nat) (fs : List (Nat × W)) (v : V) : Prop := ∃ a dx gs, v = .ref a ∧ H a = some (.ins (A.cl c) dx gs) ∧ VRF A e nx H fs gs
def DcR (A : Am) (e : Emb) (nx : Nat) (H : Hp) (t : Nat) (kvs : List (W × W)) (v : V) : Prop := ∃ a, v = .ref a ∧ ((t = 0 ∧ ∃ ks, H a = some (.dK ks) ∧ VRK A e nx H kvs ks) ∨ t = 1 ∧ ∃ ks, H a = some (.dT ks) ∧ VRT A e nx H kvs ks)
def TpR (A : Am) (e : Emb) (nx : Nat) (H : Hp) (ws : List W) (v : V) : Prop := ∃ a xs, v = .ref a ∧ H a = some (.tup xs) ∧ xs.length ≤ sizeLine ∧ VRs A e nx H ws xs
/-- the viewed value and the value -/
def VV (A : Am) (e : Emb) (nx : Nat) (H : Hp) : W → V → Prop
  | .lst ws, v => LsR A e nx H ws v
  | .dic t kvs, v => DcR A e nx H t kvs v
  | .ins c fs, v => InR A e nx H c fs v
  | .tup ws, v => TpR A e nx H ws v
  | .non, v => v = .non
  | .bl b, v => v = .bl b
  | .int i, v => v = .int i
  | .str n, v => v = .str (dec n)
  | .ref _, _ => True
  | .pen, v => v = .ref A.pi
  | .rep w, v => v = .str (shW w)
  | .sym _ _, _ => False
  | .exc c, v => ∃ a, v = .ref a ∧ H a = some (ExO (.ref (A.cl c)) a)
theorem VR.vv {e : Emb} {nx : Nat} {H : Hp} {w : W} {v : V} (h : VR A e nx H w v) : VV A e nx H w v := by
  cases h with
  | non => rfl
  | bl => rfl
  | int => rfl
  | str => rfl
  | tup a z r => exact ⟨_, _, rfl, a, z, r⟩
  | lst f a z r => exact ⟨_, _, rfl, a, z, r⟩
  | dK f a r => exact ⟨_, rfl, .inl ⟨rfl, _, a, r⟩⟩
  | dT f a r => exact ⟨_, rfl, .inr ⟨rfl, _, a, r⟩⟩
  | ins f a r => exact ⟨_, _, _, rfl, a, r⟩
  | ref => exact True.intro
  | pen => rfl
  | rep => rfl
  | exc f h => exact ⟨_, rfl, h⟩
theorem Rep.vw {e : Emb} {S : Hs} {H : Hp} (rp : Rep A e S H) {w : W} {v : V} (h : VR A e S.nx H w v) : VV A e S.nx H (vw S w) v := by
  cases w with
  | ref i =>
    cases h with
    | ref hi =>
      show VV A e S.nx H (match S.ob i with
        | some (.lst ws) => .lst ws
        | some (.dic t kvs) => .dic t kvs
        | some (.ins c fs) => .ins c fs
        | none => .ref i) _
      cases q : S.ob i with
      | none => exact True.intro
      | some o =>
        obtain ⟨_, _, _, _, ho, h5, h6⟩ := rp.ob i o q
        cases h6 with
        | lst z r => exact ⟨_, _, rfl, h5, z, r⟩
        | dK r => exact ⟨_, rfl, .inl ⟨rfl, _, h5, r⟩⟩
        | dT r => exact ⟨_, rfl, .inr ⟨rfl, _, h5, r⟩⟩
        | ins r => exact ⟨_, _, _, rfl, h5, r⟩
  | _ => exact h.vv

def cBin (op : W → W → M W) (f g : Den) : Den := fun sl S => (f sl S).bind fun r1 => (g sl r1.2).bind fun r2 => op r1.1 r2.1 r2.2
def OpS (A : Am) (op : W → W → M W) (r : R2) : Prop := ∀ (e : Emb) (S : Hs) (H : Hp) (w u : W) (x y : V) (Q : VK) (E : XP), Rep A e S H → VR A e S.nx H w x → VR A e S.nx H u y → wp (op w u S) (fun r => Post A e S.nx H r.1 r.2 Q) E → r x y H Q
theorem rd_bin {op : W → W → M W} {r : R2} {f g : Den} (ho : OpS A op r) : ∀ sg H Q, rdE A Wx (cBin op f g) sg H Q → tOp r (rdE A Wx f) (rdE A Wx g) sg H Q := fun sg H Q ⟨e, S, sl, rp, rs, h⟩ =>
  part (k := fun w S1 => (g sl S1).bind fun r2 => op w r2.1 r2.2) Ext.refl rp rs h fun e1 S1 H1 w v x1 _ rp1 rs1 rv1 h1 =>
    part (k := fun u S2 => op w u S2) x1 rp1 rs1 h1 fun e2 S2 H2 u y x2 y2 rp2 rs2 rv2 h2 =>
      ho e2 S2 H2 w u v y Q _ rp2 (rv1.ext y2) rv2 (wp_mono h2 (fun _ p => p.ext x2) fun _ _ _ q => q)
/-- an operation that only tells a value -/
def opV (p : W → W → Option W) : W → W → M W := fun w u S => match p (vw S w) (vw S u) with
  | some z => .ok (z, S)
  | none => .stuck
/-- .. and makes a new thing of the frozen kind -/
theorem opr_wk {f : Value → Value → Sem Value} {r r' : R2} (h : OpR X f r) (k : ∀ x y H Q, r' x y H Q → r x y H Q) : OpR X f r' := fun pins s σ H x y v u Q I rx ry q => h pins s σ H x y v u Q I rx ry (k x y H Q q)
theorem se_op {op : Operator} {a b : Expr} {pos : Pos} {f g : Den} {o : W → W → M W} {r : R2} (hr : OpR X (binaryOp op) r) (ho : OpS (am X B) o r) (ha : SE X B Wx a f) (hb : SE X B Wx b g) : SE X B Wx (.BinOp a op b pos) (cBin o f g) :=
  weakE (pe_op hr ha hb) (rd_bin ho)
theorem se_cmp {op : CmpOp} {a b : Expr} {pos : Pos} {f g : Den} {o : W → W → M W} {r : R2} (hr : OpR X (compareOp op) r) (ho : OpS (am X B) o r) (ha : SE X B Wx a f) (hb : SE X B Wx b g) (hm : behindInMarks op b = false) : SE X B Wx (.Compare a [op] [b] pos) (cBin o f g) :=
  weakE (pe_cmpR hr ha hb hm) (rd_bin ho)

/-- a new tuple, a new frozen list -/
theorem newT {e : Emb} {S : Hs} {H : Hp} {ws : List W} {xs : List V} {Q : VK} (rp : Rep A e S H) (z : xs.length ≤ sizeLine) (r : VRs A e S.nx H ws xs) (p : Post A e S.nx H (.tup ws) S Q) : ∀ a, H a = none → Q (.ref a) (upd H a (.tup xs)) := fun a n =>
  have x := Ext.new (o := .tup xs) rp n e.fz fun _ h => h
  p _ _ _ x (Rep.new rp n e.fz (fun _ h => h) fun _ h => .inl h) (.tup upd_same z (r.ext x))
theorem newL {e : Emb} {S : Hs} {H : Hp} {ws : List W} {xs : List V} {Q : VK} (rp : Rep A e S H) (z : xs.length ≤ sizeLine) (r : VRs A e S.nx H ws xs) (p : Post A e S.nx H (.lst ws) S Q) : ∀ a, H a = none → Q (.ref a) (upd H a (.lst xs)) := fun a n =>
  have x := Ext.new (o := .lst xs) rp n (fun b => e.fz b ∨ b = a) fun _ h => .inl h
  p _ _ _ x (Rep.new rp n _ (fun _ h => .inl h) fun _ h => h) (.lst (.inr rfl) upd_same z (r.ext x))
/-- a new list of the small heap -/
theorem newM {e : Emb} {S : Hs} {H : Hp} {ws : List W} {xs : List V} {Q : VK} (rp : Rep A e S H) (z : xs.length ≤ sizeLine) (r : VRs A e S.nx H ws xs) (p : Post A e S.nx H (.ref S.nx) (S.new (.lst ws)) Q) : ∀ a, H a = none → Q (.ref a) (upd H a (.lst xs)) := fun a n =>
  have x : Ext A e S.nx H (e.add S.nx a) (S.nx + 1) (upd H a (.lst xs)) := Ext.fresh rp n
  have er : (e.add S.nx a).rho S.nx = a := if_pos rfl
  p _ _ _ x (Rep.mk' rp n (.lst z (r.ext x))) (by
    have := VR.ref (A := A) (e := e.add S.nx a) (H := upd H a (.lst xs)) (Nat.lt_succ_self S.nx)
    rw [er] at this; exact this)

def pAdd : W → W → Option W
  | .int i, .int j => some (.int (i + j))
  | .tup a, .tup b => if a.length + b.length ≤ 16777216 then some (.tup (a ++ b)) else none
  | .lst a, .lst b => if a.length + b.length ≤ 16777216 then some (.lst (a ++ b)) else none
  | _, _ => none
def rAddS (K : PySem.W.Frag) : R2 := fun x y H Q => rI0 (fun i j => .int (i + j)) x y H Q ∨ (rCatA K x y H Q ∨ rCat x y H Q)
theorem sizeL : sizeLine = 16777216 := sizeLine_eq
theorem opV_wp {p : W → W → Option W} {w u : W} {S : Hs} {Q : W × Hs → Prop} {E : XP} (h : wp (opV p w u S) Q E) : ∃ z, p (vw S w) (vw S u) = some z ∧ Q (z, S) := by
  unfold opV at h
  split at h
  · next z q => exact ⟨z, q, h⟩
  · exact h.elim
theorem ops_add : OpS A (opV pAdd) (rAddS A.K) := by
  intro e S H w u x y Q E rp rx ry h
  obtain ⟨z, q, p⟩ := opV_wp h
  have vx := rp.vw rx
  have vy := rp.vw ry
  unfold pAdd at q
  split at q
  · next i j e1 e2 =>
    rw [e1] at vx; rw [e2] at vy; cases q
    exact .inl ⟨i, j, vx, vy, Post.now p rp (.int _)⟩
  · next a b e1 e2 =>
    rw [e1] at vx; rw [e2] at vy
    split at q
    · next hz =>
      cases q
      obtain ⟨c, xs, rfl, hx, zx, r1⟩ := vx
      obtain ⟨d, ys, rfl, hy, zy, r2⟩ := vy
      have hl : xs.length + ys.length ≤ sizeLine := by rw [sizeL, ← r1.length, ← r2.length]; exact hz
      refine .inr (.inl ⟨c, d, xs, ys, rfl, rfl, .of hx, .of hy, hl, fun n => ?_, fun n m => ?_, fun n m => ?_⟩)
      · subst n
        cases r1
        exact Post.now p rp (.tup hy zy r2)
      · subst m
        cases r2
        refine Post.now p rp (.tup hx zx ?_)
        rw [List.append_nil]; exact r1
      · exact newT rp (by rw [List.length_append]; exact hl) (r1.append r2) p
    · cases q
  · next a b e1 e2 =>
    rw [e1] at vx; rw [e2] at vy
    split at q
    · next hz =>
      cases q
      obtain ⟨c, xs, rfl, hx, zx, r1⟩ := vx
      obtain ⟨d, ys, rfl, hy, zy, r2⟩ := vy
      have hl : xs.length + ys.length ≤ sizeLine := by rw [sizeL, ← r1.length, ← r2.length]; exact hz
      exact .inr (.inr ⟨c, d, xs, ys, rfl, rfl, hx, hy, hl, newL rp (by rw [List.length_append]; exact hl) (r1.append r2) p⟩)
    · cases q
  · cases q
theorem opr_add : OpR X (binaryOp .Add) (rAddS X.K) := op_add.or (op_catA.or op_cat)
theorem se_add {a b : Expr} {pos : Pos} {f g : Den} (ha : SE X B Wx a f) (hb : SE X B Wx b g) : SE X B Wx (.BinOp a .Add b pos) (cBin (opV pAdd) f g) := se_op opr_add ops_add ha hb
/-- ints in, a value out -/
def pInt (C : Int → Int → Bool) (g : Int → Int → W) : W → W → Option W
  | .int i, .int j => if C i j then some (g i j) else none
  | _, _ => none
theorem ops_int {Cp : Int → Int → Prop} {C : Int → Int → Bool} {g : Int → Int → W} {gv : Int → Int → V} (hc : ∀ i j, C i j = true → Cp i j) (hg : ∀ e nx H i j, VR A e nx H (g i j) (gv i j)) : OpS A (opV (pInt C g)) (rI Cp gv) := by
  intro e S H w u x y Q E rp rx ry h
  obtain ⟨z, q, p⟩ := opV_wp h
  have vx := rp.vw rx
  have vy := rp.vw ry
  unfold pInt at q
  split at q
  · next i j e1 e2 =>
    rw [e1] at vx; rw [e2] at vy
    split at q
    · next hz => cases q; exact ⟨i, j, vx, vy, hc _ _ hz, Post.now p rp (hg _ _ _ _ _)⟩
    · cases q
  · cases q
theorem opr_ofI0 {f : Value → Value → Sem Value} {g : Int → Int → V} (h : OpR X f (rI0 g)) : OpR X f (rI (fun _ _ => True) g) := opr_wk h fun x y H Q ⟨i, j, a, b, _, q⟩ => ⟨i, j, a, b, q⟩
def pSub := pInt (fun _ _ => true) fun i j => .int (i - j)
def pMulI := pInt (fun i j => decide ((-(2 ^ 64) < i ∧ i < 2 ^ 64) ∨ (-(2 ^ 64) < j ∧ j < 2 ^ 64))) fun i j => .int (i * j)
def pMod := pInt (fun _ j => decide (j ≠ 0)) fun i j => .int (i.fmod j)
def pFdiv := pInt (fun _ j => decide (j ≠ 0 ∧ j.natAbs < 1073741824)) fun i j => .int (i.fdiv j)
section
variable {a b : Expr} {pos : Pos} {f g : Den}
theorem se_sub (ha : SE X B Wx a f) (hb : SE X B Wx b g) : SE X B Wx (.BinOp a .Sub b pos) (cBin (opV pSub) f g) := se_op (opr_ofI0 op_sub) (ops_int (Cp := fun _ _ => True) (fun _ _ _ => True.intro) fun _ _ _ _ _ => .int _) ha hb
theorem se_mulI (ha : SE X B Wx a f) (hb : SE X B Wx b g) : SE X B Wx (.BinOp a .Mult b pos) (cBin (opV pMulI) f g) := se_op op_mul (ops_int (Cp := CMul) (fun i j h => of_decide_eq_true (p := (-(2 ^ 64) < i ∧ i < 2 ^ 64) ∨ (-(2 ^ 64) < j ∧ j < 2 ^ 64)) h) fun _ _ _ _ _ => .int _) ha hb
theorem se_mod (ha : SE X B Wx a f) (hb : SE X B Wx b g) : SE X B Wx (.BinOp a .Mod b pos) (cBin (opV pMod) f g) := se_op op_modN (ops_int (Cp := fun _ j => j ≠ 0) (fun _ j h => of_decide_eq_true (p := j ≠ 0) h) fun _ _ _ _ _ => .int _) ha hb
theorem se_fdiv (ha : SE X B Wx a f) (hb : SE X B Wx b g) : SE X B Wx (.BinOp a .FloorDiv b pos) (cBin (opV pFdiv) f g) := se_op op_fdivN (ops_int (Cp := CDivN) (fun _ j h => of_decide_eq_true (p := j ≠ 0 ∧ j.natAbs < 1073741824) h) fun _ _ _ _ _ => .int _) ha hb
end
end HQ
namespace HQ
open PySem PySem.Spec PyProof.Rows L2
variable {X : L2.Cx} {B : Bm} {Wx : WX} {A : Am}

mutual
def weq : W → W → Bool
  | .non, .non => true
  | .bl a, .bl b => a == b
  | .bl a, .int j => (if a then 1 else 0) == j
  | .int i, .bl b => i == (if b then 1 else 0)
  | .int i, .int j => i == j
  | .str n, .str m => n == m
  | .tup a, .tup b => weqs a b
  | .lst a, .lst b => weqs a b
  | _, _ => false
def weqs : List W → List W → Bool
  | [], [] => true
  | a :: r, b :: s => weq a b && weqs r s
  | _, _ => false
end
mutual
/-- data of a depth below -/
def okD : Nat → W → Bool
  | _, .non => true
  | _, .bl _ => true
  | _, .int _ => true
  | _, .str _ => true
  | n + 1, .tup ws => okDs n ws
  | n + 1, .lst ws => okDs n ws
  | _, _ => false
def okDs : Nat → List W → Bool
  | _, [] => true
  | n, w :: r => okD n w && okDs n r
end
mutual
theorem toD_dp {e : Emb} {nx : Nat} {H : Hp} : ∀ {n : Nat} {w : W} {v : V}, VR A e nx H w v → okD n w = true → Dp A.K H v (toD w)
  | _, _, _, .non, _ => by simp only [toD]; exact .non
  | _, _, _, .bl b, _ => by simp only [toD]; exact .bl b
  | _, _, _, .int i, _ => by simp only [toD]; exact .int i
  | _, _, _, .str m, _ => by simp only [toD]; exact .str _
  | 0, _, _, .tup _ _ _, h => by simp [okD] at h
  | n + 1, _, _, .tup a _ r, h => by simp only [toD]; exact .tup (SqT.of a) (toDs_dp r (by simpa only [okD] using h))
  | 0, _, _, .lst _ _ _ _, h => by simp [okD] at h
  | n + 1, _, _, .lst _ a _ r, h => by simp only [toD]; exact .lst (SqL.of a) (toDs_dp r (by simpa only [okD] using h))
  | _, _, _, .dK _ _ _, h => by simp [okD] at h
  | _, _, _, .dT _ _ _, h => by simp [okD] at h
  | _, _, _, .ins _ _ _, h => by simp [okD] at h
  | _, _, _, .ref _, h => by simp [okD] at h
  | _, _, _, .pen, h => by simp [okD] at h
  | _, _, _, .rep _, h => by simp [okD] at h
  | _, _, _, .exc _ _, h => by simp [okD] at h
theorem toDs_dp {e : Emb} {nx : Nat} {H : Hp} : ∀ {n : Nat} {ws : List W} {vs : List V}, VRs A e nx H ws vs → okDs n ws = true → DpAll A.K H vs (toDs ws)
  | _, _, _, .nil, _ => by simp only [toDs]; exact .nil
  | n, _, _, .cons a r, h => by
    have h' := Bool.and_eq_true_iff.mp (show (okD n _ && okDs n _) = true by simpa only [okDs] using h)
    simp only [toDs]
    exact .cons (toD_dp a h'.1) (toDs_dp r h'.2)
end
theorem vv_dp {e : Emb} {nx : Nat} {H : Hp} {n : Nat} {w : W} {v : V} (h : VV A e nx H w v) (k : okD n w = true) : Dp A.K H v (toD w) := by
  cases w with
  | non => cases h; exact toD_dp (n := n) (A := A) (e := e) (nx := nx) .non k
  | bl b => cases h; exact toD_dp (n := n) (A := A) (e := e) (nx := nx) (.bl b) k
  | int i => cases h; exact toD_dp (n := n) (A := A) (e := e) (nx := nx) (.int i) k
  | str m => cases h; exact toD_dp (n := n) (A := A) (e := e) (nx := nx) (.str m) k
  | tup ws =>
    obtain ⟨a, xs, rfl, a1, z, r⟩ := h
    exact toD_dp (.tup a1 z r) k
  | lst ws =>
    obtain ⟨a, xs, rfl, a1, z, r⟩ := h
    cases n with
    | zero => simp [okD] at k
    | succ n => simp only [toD]; exact .lst (SqL.of a1) (toDs_dp r (by simpa only [okD] using k))
  | _ => cases n <;> simp [okD] at k
mutual
theorem toD_lay : ∀ {n : Nat} {w : W}, okD n w = true → (toD w).canLay0 = true
  | _, .non, _ => by simp [toD, PyData.canLay0]
  | _, .bl _, _ => by simp [toD, PyData.canLay0]
  | _, .int _, _ => by simp [toD, PyData.canLay0]
  | _, .str m, _ => by simp only [toD, PyData.canLay0]; exact strOk_dec m
  | 0, .tup _, h => by simp [okD] at h
  | n + 1, .tup ws, h => by simp only [toD, PyData.canLay0]; exact toDs_lay (n := n) (by simpa only [okD] using h)
  | 0, .lst _, h => by simp [okD] at h
  | n + 1, .lst ws, h => by simp only [toD, PyData.canLay0]; exact toDs_lay (n := n) (by simpa only [okD] using h)
  | _, .dic _ _, h => by simp [okD] at h
  | _, .ins _ _, h => by simp [okD] at h
  | _, .ref _, h => by simp [okD] at h
  | _, .pen, h => by simp [okD] at h
  | _, .rep _, h => by simp [okD] at h
  | _, .sym _ _, h => by simp [okD] at h
  | _, .exc _, h => by simp [okD] at h
theorem toDs_lay : ∀ {n : Nat} {ws : List W}, okDs n ws = true → PyData.canLayAll0 (toDs ws) = true
  | _, [], _ => by simp [toDs, PyData.canLayAll0]
  | n, w :: r, h => by
    have h' := Bool.and_eq_true_iff.mp (show (okD n w && okDs n r) = true by simpa only [okDs] using h)
    simp only [toDs, PyData.canLayAll0, toD_lay h'.1, toDs_lay h'.2, Bool.and_self]
end
mutual
theorem toD_depth : ∀ {n : Nat} {w : W}, okD n w = true → (toD w).depth ≤ n
  | _, .non, _ => by simp [toD, PyData.depth]
  | _, .bl _, _ => by simp [toD, PyData.depth]
  | _, .int _, _ => by simp [toD, PyData.depth]
  | _, .str m, _ => by simp [toD, PyData.depth]
  | 0, .tup _, h => by simp [okD] at h
  | n + 1, .tup ws, h => by
    have := toDs_depth (n := n) (ws := ws) (by simpa only [okD] using h)
    simp only [toD, PyData.depth]; omega
  | 0, .lst _, h => by simp [okD] at h
  | n + 1, .lst ws, h => by
    have := toDs_depth (n := n) (ws := ws) (by simpa only [okD] using h)
    simp only [toD, PyData.depth]; omega
  | _, .dic _ _, h => by simp [okD] at h
  | _, .ins _ _, h => by simp [okD] at h
  | _, .ref _, h => by simp [okD] at h
  | _, .pen, h => by simp [okD] at h
  | _, .rep _, h => by simp [okD] at h
  | _, .sym _ _, h => by simp [okD] at h
  | _, .exc _, h => by simp [okD] at h
theorem toDs_depth : ∀ {n : Nat} {ws : List W}, okDs n ws = true → PyData.depthAll (toDs ws) ≤ n
  | _, [], _ => by simp [toDs, PyData.depthAll]
  | n, w :: r, h => by
    have h' := Bool.and_eq_true_iff.mp (show (okD n w && okDs n r) = true by simpa only [okDs] using h)
    have h1 := toD_depth h'.1
    have h2 := toDs_depth h'.2
    simp only [toDs, PyData.depthAll]; omega
end
mutual
theorem toD_eqv : ∀ {n m : Nat} {w u : W}, okD n w = true → okD m u = true → PyData.eqv (toD w) (toD u) = weq w u
  | n, m, w, u, h, k => by
    cases w with
    | dic _ _ => simp [okD] at h
    | ins _ _ => simp [okD] at h
    | ref _ => simp [okD] at h
    | pen => simp [okD] at h
    | rep _ => simp [okD] at h
    | sym _ _ => simp [okD] at h
    | exc _ => simp [okD] at h
    | tup a =>
      cases u with
      | dic _ _ => simp [okD] at k
      | ins _ _ => simp [okD] at k
      | ref _ => simp [okD] at k
      | pen => simp [okD] at k
      | rep _ => simp [okD] at k
      | sym _ _ => simp [okD] at k
      | exc _ => simp [okD] at k
      | tup b =>
        cases n with
        | zero => simp [okD] at h
        | succ n => cases m with
          | zero => simp [okD] at k
          | succ m =>
            simp only [toD, PyData.eqv, weq]
            exact toDs_eqv (n := n) (m := m) (by simpa only [okD] using h) (by simpa only [okD] using k)
      | _ => simp [toD, PyData.eqv, weq]
    | lst a =>
      cases u with
      | dic _ _ => simp [okD] at k
      | ins _ _ => simp [okD] at k
      | ref _ => simp [okD] at k
      | pen => simp [okD] at k
      | rep _ => simp [okD] at k
      | sym _ _ => simp [okD] at k
      | exc _ => simp [okD] at k
      | lst b =>
        cases n with
        | zero => simp [okD] at h
        | succ n => cases m with
          | zero => simp [okD] at k
          | succ m =>
            simp only [toD, PyData.eqv, weq]
            exact toDs_eqv (n := n) (m := m) (by simpa only [okD] using h) (by simpa only [okD] using k)
      | _ => simp [toD, PyData.eqv, weq]
    | str a =>
      cases u with
      | dic _ _ => simp [okD] at k
      | ins _ _ => simp [okD] at k
      | ref _ => simp [okD] at k
      | pen => simp [okD] at k
      | rep _ => simp [okD] at k
      | sym _ _ => simp [okD] at k
      | exc _ => simp [okD] at k
      | str b => simp only [toD, PyData.eqv, weq]; exact dec_beq a b
      | _ => simp [toD, PyData.eqv, weq]
    | _ =>
      cases u with
      | dic _ _ => simp [okD] at k
      | ins _ _ => simp [okD] at k
      | ref _ => simp [okD] at k
      | pen => simp [okD] at k
      | rep _ => simp [okD] at k
      | sym _ _ => simp [okD] at k
      | exc _ => simp [okD] at k
      | _ => simp [toD, PyData.eqv, weq]
theorem toDs_eqv : ∀ {n m : Nat} {ws us : List W}, okDs n ws = true → okDs m us = true → PyData.eqvAll (toDs ws) (toDs us) = weqs ws us
  | _, _, [], [], _, _ => by simp [toDs, PyData.eqvAll, weqs]
  | _, _, [], _ :: _, _, _ => by simp [toDs, PyData.eqvAll, weqs]
  | _, _, _ :: _, [], _, _ => by simp [toDs, PyData.eqvAll, weqs]
  | n, m, w :: r, u :: s, h, k => by
    have h' := Bool.and_eq_true_iff.mp (show (okD n w && okDs n r) = true by simpa only [okDs] using h)
    have k' := Bool.and_eq_true_iff.mp (show (okD m u && okDs m s) = true by simpa only [okDs] using k)
    simp only [toDs, PyData.eqvAll, weqs, toD_eqv h'.1 k'.1, toDs_eqv h'.2 k'.2]
end
theorem toD_shaped {w : W} (h : okD 60 w = true) : SeqAt.shaped (toD w) = true := by
  unfold SeqAt.shaped
  rw [toD_lay h]
  have := toD_depth h
  exact decide_eq_true (by omega)
mutual
def wsame : W → W → Bool
  | .non, .non => true
  | .bl a, .bl b => a == b
  | .int i, .int j => i == j
  | .str n, .str m => n == m
  | .tup a, .tup b => wsames a b
  | .lst a, .lst b => wsames a b
  | .dic t a, .dic u b => t == u && wsamek a b
  | .rep a, .rep b => wsame a b
  | .sym i n, .sym j m => i == j && n == m
  | _, _ => false
def wsames : List W → List W → Bool
  | [], [] => true
  | a :: r, b :: s => wsame a b && wsames r s
  | _, _ => false
def wsamek : List (W × W) → List (W × W) → Bool
  | [], [] => true
  | (k, a) :: r, (l, b) :: s => wsame k l && (wsame a b && wsamek r s)
  | _, _ => false
end
mutual
theorem wsame_eq : ∀ {a b : W}, wsame a b = true → a = b
  | .non, b, h => by cases b <;> simp [wsame] at h <;> rfl
  | .bl x, b, h => by cases b <;> simp [wsame] at h; rw [h]
  | .int x, b, h => by cases b <;> simp [wsame] at h; rw [h]
  | .str x, b, h => by cases b <;> simp [wsame] at h; rw [h]
  | .tup x, b, h => by cases b <;> simp [wsame] at h; rw [wsames_eq h]
  | .lst x, b, h => by cases b <;> simp [wsame] at h; rw [wsames_eq h]
  | .dic t x, b, h => by cases b <;> simp [wsame] at h; rw [h.1, wsamek_eq h.2]
  | .rep x, b, h => by cases b <;> simp [wsame] at h; rw [wsame_eq h]
  | .sym i n, b, h => by cases b <;> simp [wsame] at h; rw [h.1, h.2]
  | .exc c, b, h => by cases b <;> simp [wsame] at h
  | .ins _ _, b, h => by cases b <;> simp [wsame] at h
  | .ref _, b, h => by cases b <;> simp [wsame] at h
  | .pen, b, h => by cases b <;> simp [wsame] at h
theorem wsames_eq : ∀ {a b : List W}, wsames a b = true → a = b
  | [], b, h => by cases b <;> simp [wsames] at h; rfl
  | x :: r, b, h => by
    cases b with
    | nil => simp [wsames] at h
    | cons y s =>
      simp [wsames] at h
      rw [wsame_eq h.1, wsames_eq h.2]
theorem wsamek_eq : ∀ {a b : List (W × W)}, wsamek a b = true → a = b
  | [], b, h => by cases b <;> simp [wsamek] at h; rfl
  | (k, x) :: r, b, h => by
    cases b with
    | nil => simp [wsamek] at h
    | cons y s =>
      obtain ⟨l, y⟩ := y
      simp [wsamek] at h
      rw [wsame_eq h.1, wsame_eq h.2.1, wsamek_eq h.2.2]
end
mutual
/-- is there a number not known? -/
def hasSym : W → Bool
  | .sym _ _ => true
  | .tup ws => hasSyms ws
  | .lst ws => hasSyms ws
  | _ => false
def hasSyms : List W → Bool
  | [] => false
  | w :: r => hasSym w || hasSyms r
end
mutual
theorem VR.noSym {e : Emb} {nx : Nat} {H : Hp} : ∀ {w : W} {v : V}, VR A e nx H w v → hasSym w = false
  | _, _, .tup _ _ r => by simp only [hasSym]; exact VRs.noSym r
  | _, _, .lst _ _ _ r => by simp only [hasSym]; exact VRs.noSym r
  | _, _, .non => by simp only [hasSym]
  | _, _, .bl _ => by simp only [hasSym]
  | _, _, .int _ => by simp only [hasSym]
  | _, _, .str _ => by simp only [hasSym]
  | _, _, .dK _ _ _ => by simp only [hasSym]
  | _, _, .dT _ _ _ => by simp only [hasSym]
  | _, _, .ins _ _ _ => by simp only [hasSym]
  | _, _, .ref _ => by simp only [hasSym]
  | _, _, .pen => by simp only [hasSym]
  | _, _, .rep _ => by simp only [hasSym]
  | _, _, .exc _ _ => by simp only [hasSym]
theorem VRs.noSym {e : Emb} {nx : Nat} {H : Hp} : ∀ {ws : List W} {vs : List V}, VRs A e nx H ws vs → hasSyms ws = false
  | _, _, .nil => by simp only [hasSyms]
  | _, _, .cons a r => by simp only [hasSyms, VR.noSym a, VRs.noSym r, Bool.or_self]
end
theorem VV.noSym {e : Emb} {nx : Nat} {H : Hp} {w : W} {v : V} (h : VV A e nx H w v) : hasSym w = false := by
  cases w with
  | tup ws => obtain ⟨a, xs, rfl, _, _, r⟩ := h; simp only [hasSym]; exact r.noSym
  | lst ws => obtain ⟨a, xs, rfl, _, _, r⟩ := h; simp only [hasSym]; exact r.noSym
  | sym _ _ => exact h.elim
  | _ => simp only [hasSym]
def symEq : W → W → Option Bool
  | .sym _ n, .int y => if y < 0 ∨ (n : Int) ≤ y then some false else none
  | .int y, .sym _ n => if y < 0 ∨ (n : Int) ≤ y then some false else none
  | .sym i n, .sym j m => if i = j ∧ n = m then some true else none
  | .sym _ _, .str _ => some false
  | .str _, .sym _ _ => some false
  | .sym _ _, .non => some false
  | .non, .sym _ _ => some false
  | .tup a, .tup b => if hasSyms a && wsames a b then some true else none
  | .lst a, .lst b => if hasSyms a && wsames a b then some true else none
  | _, _ => none
theorem symEq_no {e : Emb} {nx : Nat} {H : Hp} {w u : W} {x y : V} {b : Bool} (rx : VV A e nx H w x) (ry : VV A e nx H u y) (h : symEq w u = some b) : False := by
  have n1 := rx.noSym
  have n2 := ry.noSym
  unfold symEq at h
  split at h <;> first | (simp [hasSym] at n1; done) | (simp [hasSym] at n2; done) | skip
  · split at h
    · next k => have := (Bool.and_eq_true_iff.mp k).1; simp only [hasSym] at n1; rw [n1] at this; cases this
    · cases h
  · split at h
    · next k => have := (Bool.and_eq_true_iff.mp k).1; simp only [hasSym] at n1; rw [n1] at this; cases this
    · cases h
  · cases h
def pEqO : W → W → Option W
  | .int i, .int j => some (.bl (i == j))
  | .str i, .str j => some (.bl (i == j))
  | .rep a, .rep b => if wsame a b then some (.bl true) else none
  | .tup a, .tup [] => some (.bl (a.isEmpty))
  | .lst a, .lst [] => some (.bl (a.isEmpty))
  | w, u => if okD 60 w && okD 60 u then some (.bl (weq w u)) else none
def pNeO : W → W → Option W
  | .int i, .int j => some (.bl (!(i == j)))
  | .str i, .str j => some (.bl (!(i == j)))
  | .rep a, .rep b => if wsame a b then some (.bl false) else none
  | .tup a, .tup [] => some (.bl (!a.isEmpty))
  | .lst a, .lst [] => some (.bl (!a.isEmpty))
  | w, u => if okD 60 w && okD 60 u then some (.bl (!weq w u)) else none
theorem pEqO_is {w u z : W} (h : pEqO w u = some z) : (∃ a, w = .rep a ∧ u = .rep a ∧ z = .bl true) ∨ (okD 60 w = true ∧ okD 60 u = true ∧ z = .bl (weq w u)) ∨ (∃ a, ((w = .tup a ∧ u = .tup []) ∨ (w = .lst a ∧ u = .lst [])) ∧ z = .bl (a.isEmpty)) := by
  unfold pEqO at h
  split at h
  · cases h; exact .inr (.inl ⟨rfl, rfl, by simp [weq]⟩)
  · cases h; exact .inr (.inl ⟨rfl, rfl, by simp [weq]⟩)
  · split at h
    · next k => cases h; exact .inl ⟨_, rfl, by rw [wsame_eq k], rfl⟩
    · cases h
  · cases h; exact .inr (.inr ⟨_, .inl ⟨rfl, rfl⟩, rfl⟩)
  · cases h; exact .inr (.inr ⟨_, .inr ⟨rfl, rfl⟩, rfl⟩)
  · split at h
    · next k =>
      cases h
      have k' := Bool.and_eq_true_iff.mp k
      exact .inr (.inl ⟨k'.1, k'.2, rfl⟩)
    · cases h
theorem pNeO_is {w u z : W} (h : pNeO w u = some z) : (∃ a, w = .rep a ∧ u = .rep a ∧ z = .bl false) ∨ (okD 60 w = true ∧ okD 60 u = true ∧ z = .bl (!weq w u)) ∨ (∃ a, ((w = .tup a ∧ u = .tup []) ∨ (w = .lst a ∧ u = .lst [])) ∧ z = .bl (!a.isEmpty)) := by
  unfold pNeO at h
  split at h
  · cases h; exact .inr (.inl ⟨rfl, rfl, by simp [weq]⟩)
  · cases h; exact .inr (.inl ⟨rfl, rfl, by simp [weq]⟩)
  · split at h
    · next k => cases h; exact .inl ⟨_, rfl, by rw [wsame_eq k], rfl⟩
    · cases h
  · cases h; exact .inr (.inr ⟨_, .inl ⟨rfl, rfl⟩, rfl⟩)
  · cases h; exact .inr (.inr ⟨_, .inr ⟨rfl, rfl⟩, rfl⟩)
  · split at h
    · next k =>
      cases h
      have k' := Bool.and_eq_true_iff.mp k
      exact .inr (.inl ⟨k'.1, k'.2, rfl⟩)
    · cases h
def pEq (w u : W) : Option W := match pEqO w u with
  | some z => some z
  | none => (symEq w u).map fun b => .bl b
def pNe (w u : W) : Option W := match pNeO w u with
  | some z => some z
  | none => (symEq w u).map fun b => .bl (!b)
theorem pEq_is {e : Emb} {nx : Nat} {H : Hp} {w u z : W} {x y : V} (rx : VV A e nx H w x) (ry : VV A e nx H u y) (h : pEq w u = some z) : (∃ a, w = .rep a ∧ u = .rep a ∧ z = .bl true) ∨ (okD 60 w = true ∧ okD 60 u = true ∧ z = .bl (weq w u)) ∨ (∃ a, ((w = .tup a ∧ u = .tup []) ∨ (w = .lst a ∧ u = .lst [])) ∧ z = .bl (a.isEmpty)) := by
  unfold pEq at h
  split at h
  · next k => cases h; exact pEqO_is k
  · cases q : symEq w u with
    | none => rw [q] at h; cases h
    | some b => exact (symEq_no rx ry q).elim
theorem pNe_is {e : Emb} {nx : Nat} {H : Hp} {w u z : W} {x y : V} (rx : VV A e nx H w x) (ry : VV A e nx H u y) (h : pNe w u = some z) : (∃ a, w = .rep a ∧ u = .rep a ∧ z = .bl false) ∨ (okD 60 w = true ∧ okD 60 u = true ∧ z = .bl (!weq w u)) ∨ (∃ a, ((w = .tup a ∧ u = .tup []) ∨ (w = .lst a ∧ u = .lst [])) ∧ z = .bl (!a.isEmpty)) := by
  unfold pNe at h
  split at h
  · next k => cases h; exact pNeO_is k
  · cases q : symEq w u with
    | none => rw [q] at h; cases h
    | some b => exact (symEq_no rx ry q).elim
/-- a list or tuple against an empty one -/
def rEmp (K : PySem.W.Frag) (neg : Bool) : R2 := fun x y H Q => ∃ a b xs, x = .ref a ∧ y = .ref b ∧ ((SqT K H a xs ∧ SqT K H b []) ∨ (SqL K H a xs ∧ SqL K H b [])) ∧ Q (.bl (xor neg xs.isEmpty)) H
theorem emp_size {xs : List V} {us : List Value} (r : Vals xs us) : (us.toArray.size == (#[] : Array Value).size) = xs.isEmpty := by
  cases r <;> rfl
theorem opr_emp (hu : X.A.units < cLine) : OpR X (compareOp .Eq) (rEmp X.K false) := by
  intro pins s σ H x y v u Q I rx ry h
  obtain ⟨a, b, xs, rfl, rfl, h, q⟩ := h
  cases (show v = Value.ref a from rx)
  cases (show u = Value.ref b from ry)
  rcases h with ⟨h1, h2⟩ | ⟨h1, h2⟩
  · obtain ⟨us, r1, p1, _⟩ := I.tuple h1
    obtain ⟨ws, r2, p2, _⟩ := I.tuple h2
    cases r2
    refine SeqAt.eq_tupleAt (e := fun _ => true) p1 p2 hu (fun j _ z => absurd z (Nat.not_lt_zero j)) ?_
    refine ⟨.bl (xor false xs.isEmpty), H, I, ?_, q⟩
    show Value.bool _ = Value.bool _
    have := emp_size r1
    cases r1 <;> rfl
  · obtain ⟨us, r1, p1, _⟩ := I.list h1
    obtain ⟨ws, r2, p2, _⟩ := I.list h2
    cases r2
    cases r1 with
    | nil => exact SeqAt.eq_listAt (e := fun _ => true) p1.isList p2.isList rfl hu (fun j z _ => absurd z (Nat.not_lt_zero j)) ⟨.bl true, H, I, rfl, q⟩
    | cons r rs => exact SeqAt.eq_list_lengthsAt p1.isList p2.isList (by simp) hu ⟨.bl false, H, I, rfl, q⟩
theorem opr_empN (hu : X.A.units < cLine) : OpR X (compareOp .NotEq) (rEmp X.K true) := by
  intro pins s σ H x y v u Q I rx ry h
  obtain ⟨a, b, xs, rfl, rfl, h, q⟩ := h
  cases (show v = Value.ref a from rx)
  cases (show u = Value.ref b from ry)
  rcases h with ⟨h1, h2⟩ | ⟨h1, h2⟩
  · obtain ⟨us, r1, p1, _⟩ := I.tuple h1
    obtain ⟨ws, r2, p2, _⟩ := I.tuple h2
    cases r2
    refine SeqAt.RcNeAt.tuples (e := fun _ => true) p1 p2 hu (fun j _ z => absurd z (Nat.not_lt_zero j)) X.prog X.w _ _ ?_
    refine ⟨.bl (xor true xs.isEmpty), H, I, ?_, q⟩
    show Value.bool _ = Value.bool _
    cases r1 <;> rfl
  · obtain ⟨us, r1, p1, _⟩ := I.list h1
    obtain ⟨ws, r2, p2, _⟩ := I.list h2
    cases r2
    cases r1 with
    | nil => exact SeqAt.RcNeAt.lists (e := fun _ => true) p1.isList p2.isList rfl hu (fun j z _ => absurd z (Nat.not_lt_zero j)) X.prog X.w _ _ ⟨.bl false, H, I, rfl, q⟩
    | cons r rs => exact SeqAt.RcNeAt.lists_lengths p1.isList p2.isList (by simp) hu X.prog X.w _ _ ⟨.bl true, H, I, rfl, q⟩
theorem rd_emp {e : Emb} {S : Hs} {H : Hp} {w u : W} {x y : V} {a : List W} {neg : Bool} {Q : VK} (rp : Rep A e S H) (rx : VR A e S.nx H w x) (ry : VR A e S.nx H u y) (h : (vw S w = .tup a ∧ vw S u = .tup []) ∨ (vw S w = .lst a ∧ vw S u = .lst [])) (q : Q (.bl (xor neg a.isEmpty)) H) : rEmp A.K neg x y H Q := by
  have vx := rp.vw rx
  have vy := rp.vw ry
  rcases h with ⟨e1, e2⟩ | ⟨e1, e2⟩
  · rw [e1] at vx; rw [e2] at vy
    obtain ⟨p, xs, rfl, g1, _, r1⟩ := vx
    obtain ⟨p2, ys, rfl, g2, _, r2⟩ := vy
    cases r2
    exact ⟨p, p2, xs, rfl, rfl, .inl ⟨SqT.of g1, SqT.of g2⟩, by cases r1 <;> exact q⟩
  · rw [e1] at vx; rw [e2] at vy
    obtain ⟨p, xs, rfl, g1, _, r1⟩ := vx
    obtain ⟨p2, ys, rfl, g2, _, r2⟩ := vy
    cases r2
    exact ⟨p, p2, xs, rfl, rfl, .inr ⟨SqL.of g1, SqL.of g2⟩, by cases r1 <;> exact q⟩
def rEqA (K : PySem.W.Frag) : R2 := fun x y H Q => rEq x y H Q ∨ (rEqD K x y H Q ∨ rEmp K false x y H Q)
def rNeA (K : PySem.W.Frag) : R2 := fun x y H Q => rNe x y H Q ∨ (rNeD K x y H Q ∨ rEmp K true x y H Q)
theorem opr_eq {k : Nat} (hr : Room k X.A) : OpR X (compareOp .Eq) (rEqA X.K) := op_eq.or ((op_eqD hr.units).or (opr_emp (by have := hr.units; omega)))
theorem opr_ne {k : Nat} (hr : Room k X.A) : OpR X (compareOp .NotEq) (rNeA X.K) := op_ne.or ((op_neD hr.units).or (opr_empN (by have := hr.units; omega)))
theorem ops_eq : OpS A (opV pEq) (rEqA A.K) := by
  intro e S H w u x y Q E rp rx ry h
  obtain ⟨z, q, p⟩ := opV_wp h
  rcases pEq_is (rp.vw rx) (rp.vw ry) q with ⟨a, e1, e2, rfl⟩ | ⟨k1, k2, rfl⟩ | ⟨a, k, rfl⟩
  · have vx := rp.vw rx
    have vy := rp.vw ry
    rw [e1] at vx; rw [e2] at vy
    obtain rfl : x = .str (shW a) := vx
    obtain rfl : y = .str (shW a) := vy
    exact .inl ⟨rfl, by rw [decide_eq_true rfl]; exact Post.now p rp (.bl _)⟩
  · refine .inr (.inl ⟨_, _, vv_dp (rp.vw rx) k1, vv_dp (rp.vw ry) k2, toD_shaped k1, toD_shaped k2, ?_⟩)
    rw [toD_eqv k1 k2]
    exact Post.now p rp (.bl _)
  · exact .inr (.inr (rd_emp rp rx ry k (by simpa using Post.now p rp (.bl _))))
theorem ops_ne : OpS A (opV pNe) (rNeA A.K) := by
  intro e S H w u x y Q E rp rx ry h
  obtain ⟨z, q, p⟩ := opV_wp h
  rcases pNe_is (rp.vw rx) (rp.vw ry) q with ⟨a, e1, e2, rfl⟩ | ⟨k1, k2, rfl⟩ | ⟨a, k, rfl⟩
  · have vx := rp.vw rx
    have vy := rp.vw ry
    rw [e1] at vx; rw [e2] at vy
    obtain rfl : x = .str (shW a) := vx
    obtain rfl : y = .str (shW a) := vy
    exact .inl ⟨rfl, by rw [decide_eq_true rfl]; exact Post.now p rp (.bl _)⟩
  · refine .inr (.inl ⟨_, _, vv_dp (rp.vw rx) k1, vv_dp (rp.vw ry) k2, toD_shaped k1, toD_shaped k2, ?_⟩)
    rw [toD_eqv k1 k2]
    exact Post.now p rp (.bl _)
  · exact .inr (.inr (rd_emp rp rx ry k (by simpa using Post.now p rp (.bl _))))
section
variable {a b : Expr} {pos : Pos} {f g : Den} {k : Nat}
theorem se_eq (hr : Room k X.A) (ha : SE X B Wx a f) (hb : SE X B Wx b g) : SE X B Wx (.Compare a [.Eq] [b] pos) (cBin (opV pEq) f g) := se_cmp (opr_eq hr) ops_eq ha hb (nomark _)
theorem se_ne (hr : Room k X.A) (ha : SE X B Wx a f) (hb : SE X B Wx b g) : SE X B Wx (.Compare a [.NotEq] [b] pos) (cBin (opV pNe) f g) := se_cmp (opr_ne hr) ops_ne ha hb (nomark _)
end
def pCmp (c : Int → Int → Bool) : W → W → Option W
  | .int i, .int j => some (.bl (c i j))
  | .sym _ n, .int y => if c 0 y == c (n - 1) y then some (.bl (c 0 y)) else none
  | .int y, .sym _ n => if c y 0 == c y (n - 1) then some (.bl (c y 0)) else none
  | _, _ => none
theorem ops_cmp {c : Int → Int → Bool} : OpS A (opV (pCmp c)) (rI0 fun i j => .bl (c i j)) := by
  intro e S H w u x y Q E rp rx ry h
  obtain ⟨z, q, p⟩ := opV_wp h
  have vx := rp.vw rx
  have vy := rp.vw ry
  unfold pCmp at q
  split at q
  · next i j e1 e2 =>
    rw [e1] at vx; rw [e2] at vy; cases q
    exact ⟨i, j, vx, vy, Post.now p rp (.bl _)⟩
  · next e1 e2 => rw [e1] at vx; exact vx.elim
  · next e1 e2 => rw [e2] at vy; exact vy.elim
  · cases q
abbrev pLt := pCmp fun i j => decide (i < j)
abbrev pLe := pCmp fun i j => decide (i ≤ j)
abbrev pGt := pCmp fun i j => decide (j < i)
abbrev pGe := pCmp fun i j => decide (j ≤ i)
section
variable {a b c : Expr} {pos : Pos} {f g d : Den}
theorem se_lt (ha : SE X B Wx a f) (hb : SE X B Wx b g) : SE X B Wx (.Compare a [.Lt] [b] pos) (cBin (opV pLt) f g) := se_cmp op_lt ops_cmp ha hb (nomark _)
theorem se_le (ha : SE X B Wx a f) (hb : SE X B Wx b g) : SE X B Wx (.Compare a [.LtE] [b] pos) (cBin (opV pLe) f g) := se_cmp op_le ops_cmp ha hb (nomark _)
theorem se_gt (ha : SE X B Wx a f) (hb : SE X B Wx b g) : SE X B Wx (.Compare a [.Gt] [b] pos) (cBin (opV pGt) f g) := se_cmp op_gt ops_cmp ha hb (nomark _)
theorem se_ge (ha : SE X B Wx a f) (hb : SE X B Wx b g) : SE X B Wx (.Compare a [.GtE] [b] pos) (cBin (opV pGe) f g) := se_cmp op_ge ops_cmp ha hb (nomark _)
end
def wIsN : W → Bool
  | .non => true
  | _ => false
def wIsT (b : Bool) : W → Option Bool
  | .bl c => some (c == b)
  | .ref _ => none
  | _ => some false
theorem wIsN_dec {e : Emb} {nx : Nat} {H : Hp} {w : W} {v : V} (h : VR A e nx H w v) : decide (v = .non) = wIsN w := by
  cases h <;> simp [wIsN]
def cIsN (f : Den) : Den := fun sl S => (f sl S).bind fun r => .ok (.bl (wIsN r.1), r.2)
def cNotN (f : Den) : Den := fun sl S => (f sl S).bind fun r => .ok (.bl (!wIsN r.1), r.2)
section
variable {a b c : Expr} {pos p2 : Pos} {f g d : Den} {j : Nat}
theorem se_isN (ha : SE X B Wx a f) : SE X B Wx (.Compare a [.Is] [.Constant .none j p2] pos) (cIsN f) :=
  weakE (pe_cmp (pc_isN ha) rfl) fun sg H Q ⟨e, S, sl, rp, rs, h⟩ =>
    part (k := fun w S1 => .ok (W.bl (wIsN w), S1)) Ext.refl rp rs h fun e1 S1 H1 w v x1 _ rp1 rs1 rv1 h1 => by
      rw [wIsN_dec rv1]
      exact Post.now (Post.ext h1 x1) rp1 (.bl _)
theorem se_notN (ha : SE X B Wx a f) : SE X B Wx (.Compare a [.IsNot] [.Constant .none j p2] pos) (cNotN f) :=
  weakE (pe_cmp (pc_notN ha) rfl) fun sg H Q ⟨e, S, sl, rp, rs, h⟩ =>
    part (k := fun w S1 => .ok (W.bl (!wIsN w), S1)) Ext.refl rp rs h fun e1 S1 H1 w v x1 _ rp1 rs1 rv1 h1 => by
      rw [wIsN_dec rv1]
      exact Post.now (Post.ext h1 x1) rp1 (.bl _)
end
end HQ
namespace HQ
open PySem PySem.Spec PyProof.Rows L2
variable {X : L2.Cx} {B : Bm} {Wx : WX} {A : Am}

abbrev DenB := Sl → M Bool
def rdT (A : Am) (Wx : WX) (f : DenB) : TT := fun sg H Q => ∃ e S sl, Rep A e S H ∧ SlR A e S.nx H sl sg ∧
  wp (f sl S) (fun r => ∀ e' H', Ext A e S.nx H e' r.2.nx H' → Rep A e' r.2 H' → Q r.1 H') (fun c sl' S' => PostX A e S.nx H c sl' S' Wx)
def ST (X : L2.Cx) (B : Bm) (Wx : WX) (ex : Expr) (f : DenB) : Prop := PT X ex (rdT (am X B) Wx f)
def SW (X : L2.Cx) (B : Bm) (Wx : WX) (ex : Expr) (f : DenB) : Prop := PW X ex (rdT (am X B) Wx f)
theorem weakT {ex : Expr} {t u : TT} (h : PT X ex t) (w : ∀ sg H Q, u sg H Q → t sg H Q) : PT X ex u := ⟨fun pins s sg H Q I q => h.run pins s sg H Q I (w sg H Q q)⟩
theorem weakW {ex : Expr} {t u : TT} (h : PW X ex t) (w : ∀ sg H Q, u sg H Q → t sg H Q) : PW X ex u := ⟨fun whole pins s sg H Q I q => h.run whole pins s sg H Q I (w sg H Q q)⟩
/-- a test's part of a piece begun at e0 -/
theorem partB {f : DenB} {α : Type} {k : Bool → M α} {sg : L2.St} {H0 H : Hp} {e0 e : Emb} {n0 : Nat} {S : Hs} {sl : Sl} {Qr : α × Hs → Prop} {Q : Bool → Hp → Prop}
    (x0 : Ext A e0 n0 H0 e S.nx H) (rp : Rep A e S H) (rs : SlR A e S.nx H sl sg) (h : wp ((f sl S).bind fun r => k r.1 r.2) Qr (fun c sl' S' => PostX A e0 n0 H0 c sl' S' Wx))
    (next : ∀ e1 S1 H1 b, Ext A e0 n0 H0 e1 S1.nx H1 → Ext A e S.nx H e1 S1.nx H1 → Rep A e1 S1 H1 → SlR A e1 S1.nx H1 sl sg →
      wp (k b S1) Qr (fun c sl' S' => PostX A e0 n0 H0 c sl' S' Wx) → Q b H1) : rdT A Wx f sg H Q :=
  ⟨e, S, sl, rp, rs, wp_mono (wp_bind.mp h) (fun r q e1 H1 x rp1 => next e1 r.2 H1 r.1 (x0.trans x) x rp1 (rs.ext x) q) fun _ _ _ q => q.ext x0⟩
def cBool (f : Den) : DenB := fun sl S => (f sl S).bind fun r => match r.1 with
  | .bl b => .ok (b, r.2)
  | _ => .stuck
theorem rd_bool {f : Den} : ∀ sg H Q, rdT A Wx (cBool f) sg H Q → rdE A Wx f sg H (fun x H' => ∃ k, x = .bl k ∧ Q k H') := fun sg H Q ⟨e, S, sl, rp, rs, h⟩ =>
  part (k := fun w S1 => match w with
    | .bl b => .ok (b, S1)
    | _ => .stuck) Ext.refl rp rs h fun e1 S1 H1 w v x1 _ rp1 rs1 rv1 h1 => by
      cases rv1 with
      | bl b => exact ⟨b, rfl, h1 e1 H1 x1 rp1⟩
      | _ => exact (show False from h1).elim
/-- truth -/
def wTru : W → Option Bool
  | .non => some false
  | .bl b => some b
  | .int i => some (i != 0)
  | .tup ws => some !ws.isEmpty
  | .lst ws => some !ws.isEmpty
  | .dic 0 kvs => some !kvs.isEmpty
  | _ => none
theorem VRs.isEmpty {e : Emb} {nx : Nat} {H : Hp} {ws : List W} {vs : List V} (r : VRs A e nx H ws vs) : ws.isEmpty = vs.isEmpty := by cases r <;> rfl
theorem VRK.isEmpty {e : Emb} {nx : Nat} {H : Hp} {ws : List (W × W)} {vs : List (Key × V)} (r : VRK A e nx H ws vs) : ws.isEmpty = vs.isEmpty := by cases r <;> rfl
theorem wTru_ok {e : Emb} {nx : Nat} {H : Hp} {w : W} {v : V} {b : Bool} (h : VV A e nx H w v) (k : wTru w = some b) : TruV A.K v H b := by
  unfold wTru at k
  split at k
  · cases h; cases k; rfl
  · cases h; cases k; rfl
  · cases h; cases k; rfl
  · obtain ⟨a, xs, rfl, h1, _, r⟩ := h
    cases k; exact .inr (.inl ⟨xs, .of h1, by rw [r.isEmpty]⟩)
  · obtain ⟨a, xs, rfl, h1, _, r⟩ := h
    cases k; exact .inl ⟨xs, .of h1, by rw [r.isEmpty]⟩
  · obtain ⟨a, rfl, ⟨_, ks, h1, r⟩ | ⟨z, _⟩⟩ := h
    · cases k; exact .inr (.inr ⟨ks, h1, by rw [r.isEmpty]⟩)
    · cases z
  · cases k
def cTru (f : Den) : DenB := fun sl S => (f sl S).bind fun r => match wTru (vw r.2 r.1) with
  | some b => .ok (b, r.2)
  | none => .stuck
theorem rd_tru {f : Den} : ∀ sg H Q, rdT A Wx (cTru f) sg H Q → rdE A Wx f sg H (fun x H' => ∃ k, TruV A.K x H' k ∧ Q k H') := fun sg H Q ⟨e, S, sl, rp, rs, h⟩ =>
  part (k := fun w S1 => match wTru (vw S1 w) with
    | some b => .ok (b, S1)
    | none => .stuck) Ext.refl rp rs h fun e1 S1 H1 w v x1 _ rp1 rs1 rv1 h1 => by
      cases q : wTru (vw S1 w) with
      | none => simp only [q] at h1; exact (show False from h1).elim
      | some b =>
        simp only [q] at h1
        exact ⟨b, wTru_ok (rp1.vw rv1) q, h1 e1 H1 x1 rp1⟩
theorem st_tru {a : Expr} {f : Den} (ha : SE X B Wx a f) (he : ∀ whole, isTrue a X.env whole = (do let v ← whole; standAt a.pos; holding [v] (truthy v)) := by intro _; rfl) : ST X B Wx a (cTru f) := weakT (pt_truth ha he) rd_tru
section
variable {a b : Expr} {pos p2 : Pos} {f g : Den} {op : CmpOp} {o : W → W → M W} {r : R2} {k j : Nat}
theorem st_cmp (hr : OpR X (compareOp op) r) (ho : OpS (am X B) o r) (ha : SE X B Wx a f) (hb : SE X B Wx b g) (hm : behindInMarks op b = false) : ST X B Wx (.Compare a [op] [b] pos) (cBool (cBin o f g)) :=
  weakT (pt_cmpR hr ha hb hm) fun sg H Q h => rd_bin ho sg H _ (rd_bool sg H Q h)
theorem st_eq (hr : Room k X.A) (ha : SE X B Wx a f) (hb : SE X B Wx b g) : ST X B Wx (.Compare a [.Eq] [b] pos) (cBool (cBin (opV pEq) f g)) := st_cmp (opr_eq hr) ops_eq ha hb (nomark _)
theorem st_ne (hr : Room k X.A) (ha : SE X B Wx a f) (hb : SE X B Wx b g) : ST X B Wx (.Compare a [.NotEq] [b] pos) (cBool (cBin (opV pNe) f g)) := st_cmp (opr_ne hr) ops_ne ha hb (nomark _)
theorem st_lt (ha : SE X B Wx a f) (hb : SE X B Wx b g) : ST X B Wx (.Compare a [.Lt] [b] pos) (cBool (cBin (opV pLt) f g)) := st_cmp op_lt ops_cmp ha hb (nomark _)
theorem st_le (ha : SE X B Wx a f) (hb : SE X B Wx b g) : ST X B Wx (.Compare a [.LtE] [b] pos) (cBool (cBin (opV pLe) f g)) := st_cmp op_le ops_cmp ha hb (nomark _)
theorem st_gt (ha : SE X B Wx a f) (hb : SE X B Wx b g) : ST X B Wx (.Compare a [.Gt] [b] pos) (cBool (cBin (opV pGt) f g)) := st_cmp op_gt ops_cmp ha hb (nomark _)
theorem st_ge (ha : SE X B Wx a f) (hb : SE X B Wx b g) : ST X B Wx (.Compare a [.GtE] [b] pos) (cBool (cBin (opV pGe) f g)) := st_cmp op_ge ops_cmp ha hb (nomark _)
theorem st_pc {c : CmpOp} {t : TE} {d : Den} (h : PC X c a b t) (w : ∀ sg H Q, rdE (am X B) Wx d sg H Q → t sg H Q) (h1 : behindInMarks c b = false) : ST X B Wx (.Compare a [c] [b] pos) (cBool d) :=
  weakT (pt_cmp h h1) fun sg H Q q => w sg H _ (rd_bool sg H Q q)
theorem rd_isN : ∀ sg H Q, rdE A Wx (cIsN f) sg H Q → tIsN (rdE A Wx f) sg H Q := fun sg H Q ⟨e, S, sl, rp, rs, h⟩ =>
    part (k := fun w S1 => .ok (W.bl (wIsN w), S1)) Ext.refl rp rs h fun e1 S1 H1 w v x1 _ rp1 rs1 rv1 h1 => by
      rw [wIsN_dec rv1]
      exact Post.now (Post.ext h1 x1) rp1 (.bl _)
theorem rd_notN : ∀ sg H Q, rdE A Wx (cNotN f) sg H Q → tNotN (rdE A Wx f) sg H Q := fun sg H Q ⟨e, S, sl, rp, rs, h⟩ =>
    part (k := fun w S1 => .ok (W.bl (!wIsN w), S1)) Ext.refl rp rs h fun e1 S1 H1 w v x1 _ rp1 rs1 rv1 h1 => by
      rw [wIsN_dec rv1]
      exact Post.now (Post.ext h1 x1) rp1 (.bl _)
theorem st_isN (ha : SE X B Wx a f) : ST X B Wx (.Compare a [.Is] [.Constant .none j p2] pos) (cBool (cIsN f)) := st_pc (pc_isN ha) rd_isN rfl
theorem st_notN (ha : SE X B Wx a f) : ST X B Wx (.Compare a [.IsNot] [.Constant .none j p2] pos) (cBool (cNotN f)) := st_pc (pc_notN ha) rd_notN rfl
/-- is True, is False: of a truth -/
def pIsB : W → W → Option W
  | .bl a, .bl b => some (.bl (a == b))
  | _, _ => none
def pNotB : W → W → Option W
  | .bl a, .bl b => some (.bl (!(a == b)))
  | _, _ => none
theorem beq_dec (a b : Bool) : decide (a = b) = (a == b) := by cases a <;> cases b <;> rfl
theorem ops_isB : OpS A (opV pIsB) rIsB := by
  intro e S H w u x y Q E rp rx ry h
  obtain ⟨z, q, p⟩ := opV_wp h
  have vx := rp.vw rx
  have vy := rp.vw ry
  unfold pIsB at q
  split at q
  · next a b e1 e2 =>
    rw [e1] at vx; rw [e2] at vy; cases q
    refine ⟨a, b, vx, vy, ?_⟩
    rw [beq_dec]; exact Post.now p rp (.bl _)
  · cases q
theorem ops_notB : OpS A (opV pNotB) rNotB := by
  intro e S H w u x y Q E rp rx ry h
  obtain ⟨z, q, p⟩ := opV_wp h
  have vx := rp.vw rx
  have vy := rp.vw ry
  unfold pNotB at q
  split at q
  · next a b e1 e2 =>
    rw [e1] at vx; rw [e2] at vy; cases q
    refine ⟨a, b, vx, vy, ?_⟩
    rw [beq_dec]; exact Post.now p rp (.bl _)
  · cases q
theorem se_isB (ha : SE X B Wx a f) (hb : SE X B Wx b g) : SE X B Wx (.Compare a [.Is] [b] pos) (cBin (opV pIsB) f g) := se_cmp op_isBl ops_isB ha hb (nomark _)
theorem se_notB (ha : SE X B Wx a f) (hb : SE X B Wx b g) : SE X B Wx (.Compare a [.IsNot] [b] pos) (cBin (opV pNotB) f g) := se_cmp op_notBl ops_notB ha hb (nomark _)
theorem st_isB (ha : SE X B Wx a f) (hb : SE X B Wx b g) : ST X B Wx (.Compare a [.Is] [b] pos) (cBool (cBin (opV pIsB) f g)) := st_cmp op_isBl ops_isB ha hb (nomark _)
theorem st_notB (ha : SE X B Wx a f) (hb : SE X B Wx b g) : ST X B Wx (.Compare a [.IsNot] [b] pos) (cBool (cBin (opV pNotB) f g)) := st_cmp op_notBl ops_notB ha hb (nomark _)
end

def bAnd (f g : DenB) : DenB := fun sl S => (f sl S).bind fun r => if r.1 then g sl r.2 else .ok (false, r.2)
def bOr (f g : DenB) : DenB := fun sl S => (f sl S).bind fun r => if r.1 then .ok (true, r.2) else g sl r.2
def bNot (f : DenB) : DenB := fun sl S => (f sl S).bind fun r => .ok (!r.1, r.2)
theorem rd_and {f g : DenB} : ∀ sg H Q, rdT A Wx (bAnd f g) sg H Q → tAnd (rdT A Wx f) (rdT A Wx g) sg H Q := fun sg H Q ⟨e, S, sl, rp, rs, h⟩ =>
  partB (k := fun b S1 => if b then g sl S1 else .ok (false, S1)) Ext.refl rp rs h fun e1 S1 H1 b x1 _ rp1 rs1 h1 => by
    cases b with
    | true =>
      rw [if_pos rfl] at h1 ⊢
      exact ⟨e1, S1, sl, rp1, rs1, wp_mono h1 (fun _ q e' H' x => q e' H' (x1.trans x)) fun _ _ _ q => q.ext x1⟩
    | false =>
      rw [if_neg Bool.false_ne_true] at h1 ⊢
      exact h1 e1 H1 x1 rp1
theorem rd_or {f g : DenB} : ∀ sg H Q, rdT A Wx (bOr f g) sg H Q → tOr (rdT A Wx f) (rdT A Wx g) sg H Q := fun sg H Q ⟨e, S, sl, rp, rs, h⟩ =>
  partB (k := fun b S1 => if b then .ok (true, S1) else g sl S1) Ext.refl rp rs h fun e1 S1 H1 b x1 _ rp1 rs1 h1 => by
    cases b with
    | false =>
      rw [if_neg Bool.false_ne_true] at h1 ⊢
      exact ⟨e1, S1, sl, rp1, rs1, wp_mono h1 (fun _ q e' H' x => q e' H' (x1.trans x)) fun _ _ _ q => q.ext x1⟩
    | true =>
      rw [if_pos rfl] at h1 ⊢
      exact h1 e1 H1 x1 rp1
theorem rd_not {f : DenB} : ∀ sg H Q, rdT A Wx (bNot f) sg H Q → tNot (rdT A Wx f) sg H Q := fun sg H Q ⟨e, S, sl, rp, rs, h⟩ =>
  partB (k := fun b S1 => .ok (!b, S1)) Ext.refl rp rs h fun e1 S1 H1 b x1 _ rp1 rs1 h1 => h1 e1 H1 x1 rp1
section
variable {a b : Expr} {rest : List Expr} {pos p2 : Pos} {f g : DenB}
theorem sw_and1 (ha : ST X B Wx a f) : SW X B Wx (.BoolOp .And [a] pos) f := pw_and1 ha
theorem sw_or1 (ha : ST X B Wx a f) : SW X B Wx (.BoolOp .Or [a] pos) f := pw_or1 ha
theorem sw_and (ha : ST X B Wx a f) (hb : SW X B Wx (.BoolOp .And (b :: rest) pos) g) : SW X B Wx (.BoolOp .And (a :: b :: rest) pos) (bAnd f g) := weakW (pw_and ha hb) rd_and
theorem sw_or (ha : ST X B Wx a f) (hb : SW X B Wx (.BoolOp .Or (b :: rest) pos) g) : SW X B Wx (.BoolOp .Or (a :: b :: rest) pos) (bOr f g) := weakW (pw_or ha hb) rd_or
theorem SW.st {e : Expr} (h : SW X B Wx e f) : ST X B Wx e f := PW.pt h
theorem st_not (ha : ST X B Wx a f) : ST X B Wx (.UnaryOp .Not a pos) (bNot f) := weakT (pt_not ha) rd_not
end
/-- by values -/
def cAnd (f g : Den) : Den := fun sl S => (f sl S).bind fun r => match wTru (vw r.2 r.1) with
  | some true => g sl r.2
  | some false => .ok r
  | none => .stuck
def cOr (f g : Den) : Den := fun sl S => (f sl S).bind fun r => match wTru (vw r.2 r.1) with
  | some true => .ok r
  | some false => g sl r.2
  | none => .stuck
def cNot (f : Den) : Den := fun sl S => (f sl S).bind fun r => match wTru (vw r.2 r.1) with
  | some b => .ok (.bl (!b), r.2)
  | none => .stuck
def cIf (t : DenB) (f g : Den) : Den := fun sl S => (t sl S).bind fun r => if r.1 then f sl r.2 else g sl r.2
/-- a whole part at (e1, S1) of a piece begun at e0 -/
theorem whole {f : Den} {sg : L2.St} {H0 H1 : Hp} {e0 e1 : Emb} {n0 : Nat} {S1 : Hs} {sl : Sl} {Q : VK} (x1 : Ext A e0 n0 H0 e1 S1.nx H1) (rp1 : Rep A e1 S1 H1) (rs1 : SlR A e1 S1.nx H1 sl sg)
    (h : wp (f sl S1) (fun r => Post A e0 n0 H0 r.1 r.2 Q) (fun c sl' S' => PostX A e0 n0 H0 c sl' S' Wx)) : rdE A Wx f sg H1 Q :=
  ⟨e1, S1, sl, rp1, rs1, wp_mono h (fun _ q => q.ext x1) fun _ _ _ q => q.ext x1⟩
theorem rd_andV {f g : Den} : ∀ sg H Q, rdE A Wx (cAnd f g) sg H Q → tAndT A.K (rdE A Wx f) (rdE A Wx g) sg H Q := fun sg H Q ⟨e, S, sl, rp, rs, h⟩ =>
  part (k := fun w S1 => match wTru (vw S1 w) with
    | some true => g sl S1
    | some false => .ok (w, S1)
    | none => .stuck) Ext.refl rp rs h fun e1 S1 H1 w v x1 _ rp1 rs1 rv1 h1 => by
      cases q : wTru (vw S1 w) with
      | none => simp only [q] at h1; exact (show False from h1).elim
      | some b =>
        refine ⟨b, wTru_ok (rp1.vw rv1) q, ?_⟩
        cases b with
        | true => simp only [q] at h1; rw [if_pos rfl]; exact whole x1 rp1 rs1 h1
        | false => simp only [q] at h1; rw [if_neg Bool.false_ne_true]; exact Post.now (Post.ext h1 x1) rp1 rv1
theorem rd_orV {f g : Den} : ∀ sg H Q, rdE A Wx (cOr f g) sg H Q → tOrT A.K (rdE A Wx f) (rdE A Wx g) sg H Q := fun sg H Q ⟨e, S, sl, rp, rs, h⟩ =>
  part (k := fun w S1 => match wTru (vw S1 w) with
    | some true => .ok (w, S1)
    | some false => g sl S1
    | none => .stuck) Ext.refl rp rs h fun e1 S1 H1 w v x1 _ rp1 rs1 rv1 h1 => by
      cases q : wTru (vw S1 w) with
      | none => simp only [q] at h1; exact (show False from h1).elim
      | some b =>
        refine ⟨b, wTru_ok (rp1.vw rv1) q, ?_⟩
        cases b with
        | false => simp only [q] at h1; rw [if_neg Bool.false_ne_true]; exact whole x1 rp1 rs1 h1
        | true => simp only [q] at h1; rw [if_pos rfl]; exact Post.now (Post.ext h1 x1) rp1 rv1
theorem rd_notV {f : Den} : ∀ sg H Q, rdE A Wx (cNot f) sg H Q → tNotT A.K (rdE A Wx f) sg H Q := fun sg H Q ⟨e, S, sl, rp, rs, h⟩ =>
  part (k := fun w S1 => match wTru (vw S1 w) with
    | some b => .ok (W.bl (!b), S1)
    | none => .stuck) Ext.refl rp rs h fun e1 S1 H1 w v x1 _ rp1 rs1 rv1 h1 => by
      cases q : wTru (vw S1 w) with
      | none => simp only [q] at h1; exact (show False from h1).elim
      | some b =>
        simp only [q] at h1
        exact ⟨b, wTru_ok (rp1.vw rv1) q, Post.now (Post.ext h1 x1) rp1 (.bl _)⟩
theorem rd_if {t : DenB} {f g : Den} : ∀ sg H Q, rdE A Wx (cIf t f g) sg H Q → tIf (rdT A Wx t) (rdE A Wx f) (rdE A Wx g) sg H Q := fun sg H Q ⟨e, S, sl, rp, rs, h⟩ =>
  partB (k := fun b S1 => if b then f sl S1 else g sl S1) Ext.refl rp rs h fun e1 S1 H1 b x1 _ rp1 rs1 h1 => by
    cases b with
    | true => rw [if_pos rfl] at h1 ⊢; exact whole x1 rp1 rs1 h1
    | false => rw [if_neg Bool.false_ne_true] at h1 ⊢; exact whole x1 rp1 rs1 h1
section
variable {a b c : Expr} {rest : List Expr} {pos p2 : Pos} {f g : Den} {t : DenB}
theorem se_one {op : PySem.BoolOp} (ha : SE X B Wx a f) : SE X B Wx (.BoolOp op [a] pos) f := pe_one ha
theorem se_and (ha : SE X B Wx a f) (hb : SE X B Wx (.BoolOp .And (b :: rest) pos) g) : SE X B Wx (.BoolOp .And (a :: b :: rest) pos) (cAnd f g) := weakE (pe_andT ha hb) rd_andV
theorem se_or (ha : SE X B Wx a f) (hb : SE X B Wx (.BoolOp .Or (b :: rest) pos) g) : SE X B Wx (.BoolOp .Or (a :: b :: rest) pos) (cOr f g) := weakE (pe_orT ha hb) rd_orV
theorem se_not (ha : SE X B Wx a f) : SE X B Wx (.UnaryOp .Not a pos) (cNot f) := weakE (pe_notT ha) rd_notV
theorem se_ifE (hc : ST X B Wx c t) (ha : SE X B Wx a f) (hb : SE X B Wx b g) : SE X B Wx (.IfExp c a b pos) (cIf t f g) := weakE (pe_ifExp hc ha hb) rd_if
end
end HQ
namespace HQ
open PySem PySem.Spec PyProof.Rows L2
variable {X : L2.Cx} {B : Bm} {Wx : WX} {A : Am}

def cChain (o o' : W → W → M W) (f g d : Den) : Den := fun sl S => (f sl S).bind fun r1 => (g sl r1.2).bind fun r2 => (o r1.1 r2.1 r2.2).bind fun r3 => match r3.1 with
  | .bl true => (d sl r3.2).bind fun r4 => o' r2.1 r4.1 r4.2
  | .bl false => .ok (.bl false, r3.2)
  | _ => .stuck
/-- an operation of a piece begun at e0: what it must bring -/
theorem opPart {o : W → W → M W} {r : R2} (ho : OpS A o r) {α : Type} {k : W → M α} {H0 H : Hp} {e0 e : Emb} {n0 : Nat} {S : Hs} {w u : W} {x y : V} {Qr : α × Hs → Prop} {Q : VK} {E : XP}
    (x0 : Ext A e0 n0 H0 e S.nx H) (rp : Rep A e S H) (rx : VR A e S.nx H w x) (ry : VR A e S.nx H u y) (h : wp ((o w u S).bind fun r => k r.1 r.2) Qr E)
    (next : ∀ e1 S1 H1 w v, Ext A e0 n0 H0 e1 S1.nx H1 → Ext A e S.nx H e1 S1.nx H1 → Rep A e1 S1 H1 → VR A e1 S1.nx H1 w v → wp (k w S1) Qr E → Q v H1) : r x y H Q :=
  ho e S H w u x y Q E rp rx ry (wp_mono (wp_bind.mp h) (fun r q e1 H1 v x1 rp1 rv => next e1 r.2 H1 r.1 v (x0.trans x1) x1 rp1 rv q) fun _ _ _ q => q)
theorem rd_chain {o o' : W → W → M W} {r r' : R2} {f g d : Den} (ho : OpS A o r) (ho' : OpS A o' r') : ∀ sg H Q, rdE A Wx (cChain o o' f g d) sg H Q → tChain r r' (rdE A Wx f) (rdE A Wx g) (rdE A Wx d) sg H Q := fun sg H Q ⟨e, S, sl, rp, rs, h⟩ =>
  part (k := fun w S1 => (g sl S1).bind fun r2 => (o w r2.1 r2.2).bind fun r3 => match r3.1 with
      | .bl true => (d sl r3.2).bind fun r4 => o' r2.1 r4.1 r4.2
      | .bl false => .ok (.bl false, r3.2)
      | _ => .stuck) Ext.refl rp rs h fun e1 S1 H1 w v x1 _ rp1 rs1 rv1 h1 =>
    part (k := fun u S2 => (o w u S2).bind fun r3 => match r3.1 with
      | .bl true => (d sl r3.2).bind fun r4 => o' u r4.1 r4.2
      | .bl false => .ok (.bl false, r3.2)
      | _ => .stuck) x1 rp1 rs1 h1 fun e2 S2 H2 u y x2 y2 rp2 rs2 rv2 h2 =>
      opPart (k := fun z S3 => match z with
      | .bl true => (d sl S3).bind fun r4 => o' u r4.1 r4.2
      | .bl false => .ok (W.bl false, S3)
      | _ => .stuck) ho x2 rp2 (rv1.ext y2) rv2 h2 fun e3 S3 H3 z zv x3 y3 rp3 rv3 h3 => by
        cases rv3 with
        | bl b =>
          refine ⟨b, rfl, ?_⟩
          cases b with
          | false => rw [if_neg Bool.false_ne_true]; exact Post.now (Post.ext h3 x3) rp3 (.bl _)
          | true =>
            rw [if_pos rfl]
            exact part (k := fun t S4 => o' u t S4) x3 rp3 (rs2.ext y3) h3 fun e4 S4 H4 t tv x4 y4 rp4 rs4 rv4 h4 =>
              ho' e4 S4 H4 u t y tv Q _ rp4 ((rv2.ext y3).ext y4) rv4 (wp_mono h4 (fun _ p => p.ext x4) fun _ _ _ q => q)
        | _ => exact (show False from h3).elim
theorem se_chain {a b c : Expr} {pos : Pos} {f g d : Den} {op op' : CmpOp} {o o' : W → W → M W} {r r' : R2} (hr : OpR X (compareOp op) r) (hr' : OpR X (compareOp op') r') (ho : OpS (am X B) o r) (ho' : OpS (am X B) o' r')
    (ha : SE X B Wx a f) (hb : SE X B Wx b g) (hc : SE X B Wx c d) (hm : lastMarks [op, op'] [b, c] = false := by with_unfolding_all rfl) : SE X B Wx (.Compare a [op, op'] [b, c] pos) (cChain o o' f g d) :=
  weakE (pe_chain hr hr' ha hb hc hm) (rd_chain ho ho')
theorem st_chain {a b c : Expr} {pos : Pos} {f g d : Den} {op op' : CmpOp} {o o' : W → W → M W} {r r' : R2} (hr : OpR X (compareOp op) r) (hr' : OpR X (compareOp op') r') (ho : OpS (am X B) o r) (ho' : OpS (am X B) o' r')
    (ha : SE X B Wx a f) (hb : SE X B Wx b g) (hc : SE X B Wx c d) (hm : lastMarks [op, op'] [b, c] = false := by with_unfolding_all rfl) : ST X B Wx (.Compare a [op, op'] [b, c] pos) (cBool (cChain o o' f g d)) :=
  weakT (pt_chain hr hr' ha hb hc hm) fun sg H Q h => rd_chain ho ho' sg H _ (rd_bool sg H Q h)
section
variable {a b c : Expr} {pos : Pos} {f g d : Den}
theorem se_leLe (ha : SE X B Wx a f) (hb : SE X B Wx b g) (hc : SE X B Wx c d) (hm : lastMarks [.LtE, .LtE] [b, c] = false := by with_unfolding_all rfl) : SE X B Wx (.Compare a [.LtE, .LtE] [b, c] pos) (cChain (opV pLe) (opV pLe) f g d) := se_chain op_le op_le ops_cmp ops_cmp ha hb hc hm
theorem st_leLe (ha : SE X B Wx a f) (hb : SE X B Wx b g) (hc : SE X B Wx c d) (hm : lastMarks [.LtE, .LtE] [b, c] = false := by with_unfolding_all rfl) : ST X B Wx (.Compare a [.LtE, .LtE] [b, c] pos) (cBool (cChain (opV pLe) (opV pLe) f g d)) := st_chain op_le op_le ops_cmp ops_cmp ha hb hc hm
end

def evs : List Den → Sl → M (List W)
  | [], _ => fun S => .ok ([], S)
  | f :: fs, sl => fun S => (f sl S).bind fun r => (evs fs sl r.2).bind fun q => .ok (r.1 :: q.1, q.2)
theorem evs_len : ∀ {ds : List Den} {sl : Sl} {S : Hs} {Q : List W × Hs → Prop} {E : XP}, wp (evs ds sl S) Q E → wp (evs ds sl S) (fun r => r.1.length = ds.length ∧ Q r) E
  | [], _, _, _, _, h => ⟨rfl, h⟩
  | f :: fs, sl, S, Q, E, h => by
    have h1 := wp_bind.mp h
    refine wp_bind.mpr (wp_mono h1 (fun r q => ?_) fun _ _ _ q => q)
    refine wp_bind.mpr (wp_mono (evs_len (wp_bind.mp q)) (fun r' q' => ?_) fun _ _ _ q => q)
    exact ⟨by simp [q'.1], q'.2⟩
def rdA (A : Am) (Wx : WX) (ds : List Den) : TA := fun sg H Q => ∃ e S sl, Rep A e S H ∧ SlR A e S.nx H sl sg ∧
  wp (evs ds sl S) (fun r => ∀ e' H' vs, Ext A e S.nx H e' r.2.nx H' → Rep A e' r.2 H' → VRs A e' r.2.nx H' r.1 vs → Q vs H') (fun c sl' S' => PostX A e S.nx H c sl' S' Wx)
def SA (X : L2.Cx) (B : Bm) (Wx : WX) (es : List Expr) (ds : List Den) : Prop := PA X es (rdA (am X B) Wx ds)
theorem weakA {es : List Expr} {t u : TA} (h : PA X es t) (w : ∀ sg H Q, u sg H Q → t sg H Q) : PA X es u := ⟨fun pos pins s sg H Q I q => h.run pos pins s sg H Q I (w sg H Q q)⟩
theorem sa_nil : SA X B Wx [] [] := weakA pa_nil fun sg H Q ⟨e, S, sl, rp, rs, h⟩ => h e H [] Ext.refl rp .nil
theorem sa_cons {e : Expr} {es : List Expr} {f : Den} {fs : List Den} (ha : SE X B Wx e f) (hr : SA X B Wx es fs) (hs : starEach (e :: es) X.env = (false, eval e X.env) :: starEach es X.env := by rfl) : SA X B Wx (e :: es) (f :: fs) :=
  weakA (pa_cons ha hr hs) fun sg H Q ⟨e, S, sl, rp, rs, h⟩ =>
    part (k := fun w S1 => (evs fs sl S1).bind fun q => .ok (w :: q.1, q.2)) Ext.refl rp rs h fun e1 S1 H1 w v x1 _ rp1 rs1 rv1 h1 =>
      ⟨e1, S1, sl, rp1, rs1, wp_mono (wp_bind.mp h1) (fun r q e2 H2 vs x2 rp2 rvs => q e2 H2 (v :: vs) (x1.trans x2) rp2 (.cons (rv1.ext x2) rvs)) fun _ _ _ q => q.ext x1⟩
/-- arguments as a part -/
theorem partA {ds : List Den} {α : Type} {k : List W → M α} {sg : L2.St} {H0 H : Hp} {e0 e : Emb} {n0 : Nat} {S : Hs} {sl : Sl} {Qr : α × Hs → Prop} {Q : List V → Hp → Prop}
    (x0 : Ext A e0 n0 H0 e S.nx H) (rp : Rep A e S H) (rs : SlR A e S.nx H sl sg) (h : wp ((evs ds sl S).bind fun r => k r.1 r.2) Qr (fun c sl' S' => PostX A e0 n0 H0 c sl' S' Wx))
    (next : ∀ e1 S1 H1 ws vs, ws.length = ds.length → Ext A e0 n0 H0 e1 S1.nx H1 → Ext A e S.nx H e1 S1.nx H1 → Rep A e1 S1 H1 → SlR A e1 S1.nx H1 sl sg → VRs A e1 S1.nx H1 ws vs →
      wp (k ws S1) Qr (fun c sl' S' => PostX A e0 n0 H0 c sl' S' Wx) → Q vs H1) : rdA A Wx ds sg H Q :=
  ⟨e, S, sl, rp, rs, wp_mono (evs_len (wp_bind.mp h)) (fun r q e1 H1 vs x rp1 rv => next e1 r.2 H1 r.1 vs q.1 (x0.trans x) x rp1 (rs.ext x) rv q.2) fun _ _ _ q => q.ext x0⟩

def cTup (ds : List Den) : Den := fun sl S => (evs ds sl S).bind fun r => .ok (.tup r.1, r.2)
def cLst (ds : List Den) : Den := fun sl S => (evs ds sl S).bind fun r => .ok (.lst r.1, r.2)
def cLstM (ds : List Den) : Den := fun sl S => (evs ds sl S).bind fun r => .ok (.ref r.2.nx, r.2.new (.lst r.1))
section
variable {es : List Expr} {ds : List Den} {pos : Pos}
theorem se_tup {x1} (h : SA X B Wx es ds) (hl : ds.length ≤ 16777216 := by exact Nat.le_of_ble_eq_true rfl) : SE X B Wx (.Tuple es x1 pos) (cTup ds) :=
  weakE (pe_tup h) fun sg H Q ⟨e, S, sl, rp, rs, h⟩ =>
    partA (k := fun ws S1 => .ok (W.tup ws, S1)) Ext.refl rp rs h fun e1 S1 H1 ws vs l x1 _ rp1 rs1 rv1 h1 =>
      have z : vs.length ≤ sizeLine := by rw [sizeL, ← rv1.length, l]; exact hl
      ⟨z, newT rp1 z rv1 (Post.ext h1 x1)⟩
theorem se_lst (h : SA X B Wx es ds) (hl : ds.length ≤ 16777216 := by exact Nat.le_of_ble_eq_true rfl) : SE X B Wx (.List es pos) (cLst ds) :=
  weakE (pe_lst h) fun sg H Q ⟨e, S, sl, rp, rs, h⟩ =>
    partA (k := fun ws S1 => .ok (W.lst ws, S1)) Ext.refl rp rs h fun e1 S1 H1 ws vs l x1 _ rp1 rs1 rv1 h1 =>
      have z : vs.length ≤ sizeLine := by rw [sizeL, ← rv1.length, l]; exact hl
      ⟨z, newL rp1 z rv1 (Post.ext h1 x1)⟩
theorem se_lstM (h : SA X B Wx es ds) (hl : ds.length ≤ 16777216 := by exact Nat.le_of_ble_eq_true rfl) : SE X B Wx (.List es pos) (cLstM ds) :=
  weakE (pe_lst h) fun sg H Q ⟨e, S, sl, rp, rs, h⟩ =>
    partA (k := fun ws S1 => .ok (W.ref S1.nx, S1.new (.lst ws))) Ext.refl rp rs h fun e1 S1 H1 ws vs l x1 _ rp1 rs1 rv1 h1 =>
      have z : vs.length ≤ sizeLine := by rw [sizeL, ← rv1.length, l]; exact hl
      ⟨z, newM rp1 z rv1 (Post.ext h1 x1)⟩
end
def frz (w : W) : M W := fun S => match w with
  | .ref i => (match S.ob i with
    | some (.lst ws) => .ok (.lst ws, S.del i)
    | some (.dic t kvs) => .ok (.dic t kvs, S.del i)
    | some (.ins c fs) => .ok (.ins c fs, S.del i)
    | none => .stuck)
  | w => .ok (w, S)
def cFrz (f : Den) : Den := fun sl S => (f sl S).bind fun r => frz r.1 r.2
theorem frz_post {e : Emb} {S : Hs} {H : Hp} {w : W} {v : V} {Q : VK} {E : XP} (rp : Rep A e S H) (rv : VR A e S.nx H w v) (h : wp (frz w S) (fun r => Post A e S.nx H r.1 r.2 Q) E) : Q v H := by
  cases w with
  | ref i =>
    cases rv with
    | ref hi =>
      unfold frz at h
      cases q : S.ob i with
      | none => simp only [q] at h; exact (show False from h).elim
      | some o =>
        obtain ⟨_, _, _, _, ho, h5, h6⟩ := rp.ob i o q
        have rp' := rp.del q
        have x' : Ext A e S.nx H (e.ice (e.rho i)) S.nx H := Ext.del (S := S) (e.rho i)
        cases h6 with
        | lst z r => simp only [q] at h; exact h _ _ _ x' rp' (.lst (.inr rfl) h5 z (r.ext x'))
        | dK r => simp only [q] at h; exact h _ _ _ x' rp' (.dK (.inr rfl) h5 (r.ext x'))
        | dT r => simp only [q] at h; exact h _ _ _ x' rp' (.dT (.inr rfl) h5 (r.ext x'))
        | ins r => simp only [q] at h; exact h _ _ _ x' rp' (.ins (.inr rfl) h5 (r.ext x'))
  | _ => exact Post.now h rp rv
theorem se_frz {a : Expr} {f : Den} (ha : SE X B Wx a f) : SE X B Wx a (cFrz f) :=
  weakE ha fun sg H Q ⟨e, S, sl, rp, rs, h⟩ =>
    part (k := fun w S1 => frz w S1) Ext.refl rp rs h fun e1 S1 H1 w v x1 _ rp1 rs1 rv1 h1 => frz_post rp1 rv1 (wp_mono h1 (fun _ p => p.ext x1) fun _ _ _ q => q)

def keyEq : W → W → Bool
  | .int i, .int j => decide (i = j)
  | .str n, .str m => decide (n = m)
  | _, _ => false
def keysEq : List W → List W → Bool
  | [], [] => true
  | a :: r, b :: s => keyEq a b && keysEq r s
  | _, _ => false
def isKey : W → Bool
  | .int _ => true
  | .str _ => true
  | _ => false
/-- does the value fit as a key of a dict of kind t? -/
def fitsK (t : Nat) (w : W) : Bool := match t, w with
  | 0, w => isKey w
  | 1, .tup ks => ks.all isKey
  | _, _ => false
def kEq (t : Nat) (a b : W) : Bool := match t, a, b with
  | 0, a, b => keyEq a b
  | 1, .tup a, .tup b => keysEq a b
  | _, _, _ => false
def dFind (t : Nat) (kvs : List (W × W)) (k : W) : Option W := (kvs.find? fun kv => kEq t kv.1 k).map (·.2)
theorem keyR_of {e : Emb} {nx : Nat} {H : Hp} {w : W} {v : V} (h : VR A e nx H w v) (k : isKey w = true) : ∃ q, KeyR w q ∧ v = kV q := by
  cases h with
  | int i => exact ⟨_, .int i, rfl⟩
  | str n => exact ⟨_, .str n, rfl⟩
  | _ => cases k
theorem keysR_of {e : Emb} {nx : Nat} {H : Hp} : ∀ {ws : List W} {vs : List V}, VRs A e nx H ws vs → ws.all isKey = true → ∃ qs, KeysR ws qs ∧ vs = qs.map kV
  | _, _, .nil, _ => ⟨[], .nil, rfl⟩
  | _, _, .cons a r, h => by
    have h' := Bool.and_eq_true_iff.mp (show (isKey _ && List.all _ isKey) = true from by simpa using h)
    obtain ⟨q, h1, e1⟩ := keyR_of a h'.1
    obtain ⟨qs, h2, e2⟩ := keysR_of r h'.2
    exact ⟨q :: qs, .cons h1 h2, by rw [e1, e2]; rfl⟩
theorem keyR_eq {a b : W} {p q : Key} (h : KeyR a p) (k : KeyR b q) : decide (p = q) = keyEq a b := by
  cases h with
  | int i => cases k with
    | int j => simp [keyEq]
    | str m => simp [keyEq]
  | str n => cases k with
    | int j => simp [keyEq]
    | str m =>
      by_cases z : n = m
      · subst z; simp [keyEq]
      · have : dec n ≠ dec m := fun y => z (dec_inj y)
        simp [keyEq, z, this]
theorem keysR_eq : ∀ {a b : List W} {p q : List Key}, KeysR a p → KeysR b q → decide (p = q) = keysEq a b
  | _, _, _, _, .nil, .nil => by simp [keysEq]
  | _, _, _, _, .nil, .cons _ _ => by simp [keysEq]
  | _, _, _, _, .cons _ _, .nil => by simp [keysEq]
  | _, _, _, _, .cons h r, .cons k s => by
    have e1 := keyR_eq h k
    have e2 := keysR_eq r s
    simp only [keysEq, List.cons.injEq, Bool.decide_and, e1, e2]
theorem vrk_find {e : Emb} {nx : Nat} {H : Hp} {k : W} {q : Key} (hk : KeyR k q) : ∀ {kvs : List (W × W)} {ks : List (Key × V)}, VRK A e nx H kvs ks → (dFind 0 kvs k = none ∧ valV ks q = none) ∨ ∃ w v, dFind 0 kvs k = some w ∧ valV ks q = some v ∧ VR A e nx H w v
  | _, _, .nil => .inl ⟨rfl, rfl⟩
  | _, _, .cons (k := k1) (k' := q1) (w := w1) (v := v1) (ws := ws) (vs := vs) h r s => by
    have e1 := keyR_eq h hk
    by_cases z : q1 = q
    · have z1 : kEq 0 k1 k = true := by show keyEq k1 k = true; rw [← e1]; exact decide_eq_true z
      refine .inr ⟨w1, v1, ?_, valV_pos (p := (q1, v1)) z, r⟩
      simp [dFind, List.find?_cons, z1]
    · have z1 : kEq 0 k1 k = false := by show keyEq k1 k = false; rw [← e1]; exact decide_eq_false z
      rw [valV_neg (p := (q1, v1)) z]
      have : dFind 0 ((k1, w1) :: ws) k = dFind 0 ws k := by simp [dFind, List.find?_cons, z1]
      rw [this]
      exact vrk_find hk s
theorem vrt_find {e : Emb} {nx : Nat} {H : Hp} {k : List W} {q : List Key} (hk : KeysR k q) : ∀ {kvs : List (W × W)} {ks : List (List Key × V)}, VRT A e nx H kvs ks → (dFind 1 kvs (.tup k) = none ∧ valV ks q = none) ∨ ∃ w v, dFind 1 kvs (.tup k) = some w ∧ valV ks q = some v ∧ VR A e nx H w v
  | _, _, .nil => .inl ⟨rfl, rfl⟩
  | _, _, .cons (k := k1) (k' := q1) (w := w1) (v := v1) (ws := ws) (vs := vs) h r s => by
    have e1 := keysR_eq h hk
    by_cases z : q1 = q
    · have z1 : kEq 1 (.tup k1) (.tup k) = true := by show keysEq k1 k = true; rw [← e1]; exact decide_eq_true z
      refine .inr ⟨w1, v1, ?_, valV_pos (p := (q1, v1)) z, r⟩
      simp [dFind, List.find?_cons, z1]
    · have z1 : kEq 1 (.tup k1) (.tup k) = false := by show keysEq k1 k = false; rw [← e1]; exact decide_eq_false z
      rw [valV_neg (p := (q1, v1)) z]
      have : dFind 1 ((W.tup k1, w1) :: ws) (.tup k) = dFind 1 ws (.tup k) := by simp [dFind, List.find?_cons, z1]
      rw [this]
      exact vrt_find hk s
/-- the dict and a key that fits: what stands there -/
theorem dc_get {e : Emb} {nx : Nat} {H : Hp} {t : Nat} {kvs : List (W × W)} {v y : V} {k : W} (h : DcR A e nx H t kvs v) (rk : VR A e nx H k y) (f : fitsK t k = true) :
    ∃ a o, v = .ref a ∧ DGet H a y o ∧ ((dFind t kvs k = none ∧ o = none) ∨ ∃ w u, dFind t kvs k = some w ∧ o = some u ∧ VR A e nx H w u) := by
  obtain ⟨a, rfl, ⟨rfl, ks, h1, r⟩ | ⟨rfl, ks, h1, r⟩⟩ := h
  · obtain ⟨q, hq, rfl⟩ := keyR_of rk f
    refine ⟨a, _, rfl, DGet.k h1, ?_⟩
    rcases vrk_find hq r with z | ⟨w, u, z1, z2, z3⟩
    · exact .inl z
    · exact .inr ⟨w, u, z1, z2, z3⟩
  · cases rk with
    | tup ht hz r2 =>
      obtain ⟨qs, hq, e1⟩ := keysR_of r2 f
      rw [e1] at ht
      refine ⟨a, _, rfl, DGet.t h1 ht, ?_⟩
      rcases vrt_find hq r with z | ⟨w, u, z1, z2, z3⟩
      · exact .inl z
      · exact .inr ⟨w, u, z1, z2, z3⟩
    | _ => cases f
def rIxDc : R2 := fun x y H Q => ∃ a v, x = .ref a ∧ DGet H a y (some v) ∧ Q v H
theorem ix_dict (hu : X.A.units + 1 < cLine) : IxR X rIxDc := by
  intro value slice pins s σ H x y v u Q I rx ry h hs
  obtain ⟨a, z, rfl, g, q⟩ := h
  obtain rfl : v = Value.ref a := rx
  exact tail_any (dict_typeIs I g) PySem.F.slot_dict_getitem.lookup (d_getItem hu I g ry fun w' s' I' rw' => ⟨z, H, I', rw', q⟩) hs
def wAt (ws : List W) (i : Int) : Option W := atI ws i
def pIx : W → W → Option W
  | .tup ws, .int i => wAt ws i
  | .lst ws, .int i => wAt ws i
  | .dic t kvs, k => if fitsK t k then dFind t kvs k else none
  | _, _ => none
theorem VRs.at {e : Emb} {nx : Nat} {H : Hp} {ws : List W} {vs : List V} {i : Int} {w : W} (r : VRs A e nx H ws vs) (h : wAt ws i = some w) : ∃ v, atI vs i = some v ∧ VR A e nx H w v := by
  unfold wAt atI at h
  cases q : ixN ws.length i with
  | none => rw [q] at h; cases h
  | some j =>
    rw [q] at h
    obtain ⟨v, h1, h2⟩ := r.get (i := j) (w := w) h
    refine ⟨v, ?_, h2⟩
    unfold atI
    rw [← r.length, q]
    exact h1
/-- the key of a dict is looked up as it is, not as it looks -/
def opIx : W → W → M W := fun w u S => match pIx (vw S w) u with
  | some z => .ok (z, S)
  | none => .stuck
def rIxAll (K : PySem.W.Frag) : R2 := fun x y H Q => rIxL K x y H Q ∨ (rIxT K x y H Q ∨ rIxDc x y H Q)
theorem ops_ix : OpS A opIx (rIxAll A.K) := by
  intro e S H w u x y Q E rp rx ry h
  have vx := rp.vw rx
  unfold opIx at h
  cases q : pIx (vw S w) u with
  | none => simp only [q] at h; exact (show False from h).elim
  | some z =>
    simp only [q] at h
    unfold pIx at q
    split at q
    · next ws i e1 =>
      rw [e1] at vx
      cases ry
      obtain ⟨a, xs, rfl, h1, _, r⟩ := vx
      obtain ⟨v, h2, h3⟩ := r.at q
      exact .inr (.inl ⟨a, xs, i, v, rfl, rfl, .of h1, h2, Post.now h rp h3⟩)
    · next ws i e1 =>
      rw [e1] at vx
      cases ry
      obtain ⟨a, xs, rfl, h1, _, r⟩ := vx
      obtain ⟨v, h2, h3⟩ := r.at q
      exact .inl ⟨a, xs, i, v, rfl, rfl, .of h1, h2, Post.now h rp h3⟩
    · next t kvs k e1 =>
      rw [e1] at vx
      split at q
      · next f =>
        obtain ⟨a, o, rfl, g, z1 | ⟨w', u', z1, z2, z3⟩⟩ := dc_get vx ry f
        · rw [z1.1] at q; cases q
        · rw [z1] at q; cases q
          exact .inr (.inr ⟨a, u', rfl, by rw [← z2]; exact g, Post.now h rp z3⟩)
      · cases q
    · cases q
theorem se_ix {a b : Expr} {pos : Pos} {f g : Den} {k : Nat} (hr : Room k X.A) (ha : SE X B Wx a f) (hb : SE X B Wx b g) (hs : PlainIx b := by exact fun _ _ => rfl) : SE X B Wx (.Subscript a b pos) (cBin opIx f g) :=
  weakE (pe_ix (ix_list.or (ix_tup.or (ix_dict (hu_of hr)))) ha hb hs) (rd_bin ops_ix)

def pIn (neg : Bool) : W → W → Option W := fun w u => match u with
  | .lst ws => if okD 60 w && okDs 59 ws then some (.bl (xor neg (ws.any fun z => weq z w))) else none
  | .tup ws => if okD 0 w && okDs 0 ws then some (.bl (xor neg (ws.any fun z => weq z w))) else none
  | .dic t kvs => if fitsK t w then some (.bl (xor neg (dFind t kvs w).isSome)) else none
  | _ => none
def opIn (neg : Bool) : W → W → M W := fun w u S => match pIn neg w (vw S u) with
  | some z => .ok (z, S)
  | none => .stuck
def rInDc (neg : Bool) : R2 := fun y x H Q => ∃ a o, x = .ref a ∧ DGet H a y o ∧ Q (.bl (xor neg o.isSome)) H
def rInAll (K : PySem.W.Frag) (neg : Bool) : R2 := fun x y H Q => (if neg then rNotInD K x y H Q else rInD K x y H Q) ∨ (rIn K neg x y H Q ∨ rInDc neg x y H Q)
theorem opr_in (hu : X.A.units + 65 < cLine) : OpR X (compareOp .In) (rInAll X.K false) := by
  refine opr_wk ((op_inD hu).or (op_in_seq.or (r' := rInDc false) ?_)) fun x y H Q h => ?_
  · intro pins s σ H x y v u Q I rx ry h
    obtain ⟨a, o, rfl, g, q⟩ := h
    obtain rfl : u = Value.ref a := ry
    exact d_in (by omega) I g rx fun s' I' => ⟨.bl o.isSome, H, I', rfl, by simpa using q⟩
  · rcases h with h | h | h
    · exact .inl (by simpa using h)
    · exact .inr (.inl h)
    · exact .inr (.inr h)
theorem opr_notIn (hu : X.A.units + 65 < cLine) : OpR X (compareOp .NotIn) (rInAll X.K true) := by
  refine opr_wk ((op_notInD hu).or (op_notIn_seq.or (r' := rInDc true) ?_)) fun x y H Q h => ?_
  · intro pins s σ H x y v u Q I rx ry h
    obtain ⟨a, o, rfl, g, q⟩ := h
    obtain rfl : u = Value.ref a := ry
    exact d_notIn (by omega) I g rx fun s' I' => ⟨.bl (!o.isSome), H, I', rfl, by simpa using q⟩
  · rcases h with h | h | h
    · exact .inl (by simpa using h)
    · exact .inr (.inl h)
    · exact .inr (.inr h)
theorem flat_of {e : Emb} {nx : Nat} {H : Hp} {w : W} {v : V} (h : VR A e nx H w v) (k : okD 0 w = true) : flatV v = true := by
  cases h <;> first | rfl | simp [okD] at k
theorem flats_of {e : Emb} {nx : Nat} {H : Hp} : ∀ {ws : List W} {vs : List V}, VRs A e nx H ws vs → okDs 0 ws = true → vs.all flatV = true
  | _, _, .nil, _ => rfl
  | _, _, .cons a r, h => by
    have h' := Bool.and_eq_true_iff.mp (show (okD 0 _ && okDs 0 _) = true by simpa only [okDs] using h)
    simp [flat_of a h'.1, flats_of r h'.2]
theorem eqV_of {e : Emb} {nx : Nat} {H : Hp} {w u : W} {v x : V} (h : VR A e nx H w v) (k : VR A e nx H u x) (h0 : okD 0 w = true) (k0 : okD 0 u = true) : eqV v x = weq w u := by
  cases h <;> first
    | (simp [okD] at h0; done)
    | (cases k <;> first
      | (simp [okD] at k0; done)
      | rfl
      | (simp [eqV, weq]; done)
      | (show (dec _ == dec _) = _; rw [dec_beq]; rfl))
theorem inV_of {e : Emb} {nx : Nat} {H : Hp} {w : W} {v : V} (h : VR A e nx H w v) (h0 : okD 0 w = true) : ∀ {ws : List W} {vs : List V}, VRs A e nx H ws vs → okDs 0 ws = true → inV v vs = ws.any fun z => weq z w
  | _, _, .nil, _ => rfl
  | _, _, .cons a r, k => by
    have k' := Bool.and_eq_true_iff.mp (show (okD 0 _ && okDs 0 _) = true by simpa only [okDs] using k)
    have ih := inV_of h h0 r k'.2
    unfold inV at ih ⊢
    rw [List.any_cons, List.any_cons, ih, eqV_of a h k'.1 h0]
theorem any_eqv {n m : Nat} {w : W} (h : okD n w = true) : ∀ {ws : List W}, okDs m ws = true → ((toDs ws).any fun z => PyData.eqv z (toD w)) = ws.any fun z => weq z w
  | [], _ => rfl
  | u :: r, k => by
    have k' := Bool.and_eq_true_iff.mp (show (okD m u && okDs m r) = true by simpa only [okDs] using k)
    simp only [toDs, List.any_cons, toD_eqv k'.1 h, any_eqv h k'.2]
theorem ops_in {neg : Bool} : OpS A (opIn neg) (rInAll A.K neg) := by
  intro e S H w u x y Q E rp rx ry h
  have vy := rp.vw ry
  unfold opIn at h
  cases q : pIn neg w (vw S u) with
  | none => simp only [q] at h; exact (show False from h).elim
  | some z =>
    simp only [q] at h
    unfold pIn at q
    split at q
    · next ws e1 =>
      rw [e1] at vy
      split at q
      · next k =>
        obtain ⟨k1, k2⟩ := Bool.and_eq_true_iff.mp k
        have k3 : okD 60 (.lst ws) = true := by simpa only [okD] using k2
        cases q
        have d1 := toD_dp rx k1
        have d2 := vv_dp (n := 60) (w := .lst ws) vy k3
        simp only [toD] at d2
        have s2 := toD_shaped k3
        simp only [toD] at s2
        refine .inl ?_
        cases neg with
        | false => exact ⟨_, _, d1, d2, toD_shaped k1, s2, by rw [any_eqv k1 k2]; simpa using Post.now h rp (.bl _)⟩
        | true => exact ⟨_, _, d1, d2, toD_shaped k1, s2, by rw [any_eqv k1 k2]; simpa using Post.now h rp (.bl _)⟩
      · cases q
    · next ws e1 =>
      rw [e1] at vy
      split at q
      · next k =>
        obtain ⟨k1, k2⟩ := Bool.and_eq_true_iff.mp k
        cases q
        obtain ⟨a, xs, rfl, h1, _, r⟩ := vy
        refine .inr (.inl ⟨a, xs, rfl, .inr (.of h1), flat_of rx k1, flats_of r k2, ?_⟩)
        rw [inV_of rx k1 r k2]
        cases neg <;> simpa using Post.now h rp (.bl _)
      · cases q
    · next t kvs e1 =>
      rw [e1] at vy
      split at q
      · next f =>
        cases q
        obtain ⟨a, o, rfl, g, z1 | ⟨w', u', z1, z2, z3⟩⟩ := dc_get vy rx f
        · refine .inr (.inr ⟨a, o, rfl, g, ?_⟩)
          rw [z1.2]; rw [z1.1] at h; exact Post.now h rp (.bl _)
        · refine .inr (.inr ⟨a, o, rfl, g, ?_⟩)
          rw [z2]; rw [z1] at h; exact Post.now h rp (.bl _)
      · cases q
    · cases q
theorem units65 {k : Nat} {A : Around} (hr : Room k A) : A.units + 65 < cLine := by have := hr.un; omega
section
variable {a b : Expr} {pos : Pos} {f g : Den} {k : Nat}
theorem se_in (hr : Room k X.A) (ha : SE X B Wx a f) (hb : SE X B Wx b g) (hm : behindInMarks .In b = false := by rfl) : SE X B Wx (.Compare a [.In] [b] pos) (cBin (opIn false) f g) := se_cmp (opr_in (units65 hr)) ops_in ha hb hm
theorem se_notIn (hr : Room k X.A) (ha : SE X B Wx a f) (hb : SE X B Wx b g) (hm : behindInMarks .NotIn b = false := by rfl) : SE X B Wx (.Compare a [.NotIn] [b] pos) (cBin (opIn true) f g) := se_cmp (opr_notIn (units65 hr)) ops_in ha hb hm
theorem st_in (hr : Room k X.A) (ha : SE X B Wx a f) (hb : SE X B Wx b g) (hm : behindInMarks .In b = false := by rfl) : ST X B Wx (.Compare a [.In] [b] pos) (cBool (cBin (opIn false) f g)) := st_cmp (opr_in (units65 hr)) ops_in ha hb hm
theorem st_notIn (hr : Room k X.A) (ha : SE X B Wx a f) (hb : SE X B Wx b g) (hm : behindInMarks .NotIn b = false := by rfl) : ST X B Wx (.Compare a [.NotIn] [b] pos) (cBool (cBin (opIn true) f g)) := st_cmp (opr_notIn (units65 hr)) ops_in ha hb hm
end
end HQ
namespace HQ
open PySem PySem.Spec PyProof.Rows L2
variable {X : L2.Cx} {B : Bm} {Wx : WX} {A : Am}

def evO : Option Den → Sl → M (Option Int)
  | none, _ => fun S => .ok (none, S)
  | some f, sl => fun S => (f sl S).bind fun r => match r.1 with
    | .int i => .ok (some i, r.2)
    | _ => .stuck
def rdO (A : Am) (Wx : WX) : Option Den → TO
  | none => tNoPart
  | some g => tPart (rdE A Wx g)
def SO (X : L2.Cx) (B : Bm) (Wx : WX) (e : Option Expr) (o : Option Den) : Prop := PO X e (rdO (am X B) Wx o)
theorem so_none : SO X B Wx none none := po_none
theorem so_some {e : Expr} {f : Den} (h : SE X B Wx e f) : SO X B Wx (some e) (some f) := po_some h
theorem partO {o : Option Den} {α : Type} {k : Option Int → M α} {sg : L2.St} {H0 H : Hp} {e0 e : Emb} {n0 : Nat} {S : Hs} {sl : Sl} {Qr : α × Hs → Prop} {Q : Option Int → Hp → Prop}
    (x0 : Ext A e0 n0 H0 e S.nx H) (rp : Rep A e S H) (rs : SlR A e S.nx H sl sg) (h : wp ((evO o sl S).bind fun r => k r.1 r.2) Qr (fun c sl' S' => PostX A e0 n0 H0 c sl' S' Wx))
    (next : ∀ e1 S1 H1 i, Ext A e0 n0 H0 e1 S1.nx H1 → Ext A e S.nx H e1 S1.nx H1 → Rep A e1 S1 H1 → SlR A e1 S1.nx H1 sl sg → wp (k i S1) Qr (fun c sl' S' => PostX A e0 n0 H0 c sl' S' Wx) → Q i H1) : rdO A Wx o sg H Q := by
  cases o with
  | none => exact next e S H none x0 Ext.refl rp rs h
  | some f =>
    refine part (Qr := Qr) (k := fun w S1 => (match w with
      | .int i => (.ok (some i, S1) : R (Option Int × Hs))
      | _ => .stuck).bind fun r => k r.1 r.2) x0 rp rs ?_ fun e1 S1 H1 w v x1 y1 rp1 rs1 rv1 h1 => ?_
    · refine wp_bind.mpr (wp_mono (wp_bind.mp (wp_bind.mp h)) (fun r q => wp_bind.mpr q) fun _ _ _ q => q)
    · cases rv1 with
      | int i => exact ⟨i, rfl, next e1 S1 H1 (some i) x1 y1 rp1 rs1 (wp_bind.mp h1)⟩
      | _ => exact (show False from wp_bind.mp h1).elim
def cutW (ws : List W) (lo hi : Option Int) : List W := (ws.drop (HT.sIx ws.length 0 lo)).take (HT.sIx ws.length ws.length hi - HT.sIx ws.length 0 lo)
theorem VRs.cut {e : Emb} {nx : Nat} {H : Hp} {ws : List W} {vs : List V} (r : VRs A e nx H ws vs) (lo hi : Option Int) : VRs A e nx H (cutW ws lo hi) (cutV vs lo hi) := by
  unfold cutW cutV
  rw [r.length]
  exact (r.drop _).take _
def pSl (w : W) (lo hi : Option Int) : Option W := match w with
  | .tup ws => some (.tup (cutW ws lo hi))
  | .lst ws => some (.lst (cutW ws lo hi))
  | _ => none
def cSlice (f : Den) (lo hi : Option Den) : Den := fun sl S => (f sl S).bind fun r => (evO lo sl r.2).bind fun l => (evO hi sl l.2).bind fun u => match pSl (vw u.2 r.1) l.1 u.1 with
  | some z => .ok (z, u.2)
  | none => .stuck
theorem cutW_all {ws : List W} {lo hi : Option Int} (h : HT.sIx ws.length 0 lo = 0 ∧ HT.sIx ws.length ws.length hi = ws.length) : cutW ws lo hi = ws := by
  unfold cutW
  rw [h.1, h.2]
  simp
theorem se_slice {a : Expr} {lo hi : Option Expr} {p2 pos : Pos} {f : Den} {l u : Option Den} (ha : SE X B Wx a f) (hl : SO X B Wx lo l) (hu : SO X B Wx hi u) : SE X B Wx (.Subscript a (.Slice lo hi none p2) pos) (cSlice f l u) :=
  weakE (pe_slice (sl_list.or sl_tupA) ha hl hu) fun sg H Q ⟨e, S, sl, rp, rs, h⟩ =>
    part (k := fun w S1 => (evO l sl S1).bind fun l' => (evO u sl l'.2).bind fun u' => match pSl (vw u'.2 w) l'.1 u'.1 with
      | some z => .ok (z, u'.2)
      | none => .stuck) Ext.refl rp rs h fun e1 S1 H1 w v x1 _ rp1 rs1 rv1 h1 =>
      partO (k := fun i S2 => (evO u sl S2).bind fun u' => match pSl (vw u'.2 w) i u'.1 with
        | some z => .ok (z, u'.2)
        | none => .stuck) x1 rp1 rs1 h1 fun e2 S2 H2 i x2 y2 rp2 rs2 h2 =>
        partO (k := fun j S3 => match pSl (vw S3 w) i j with
          | some z => .ok (z, S3)
          | none => .stuck) x2 rp2 rs2 h2 fun e3 S3 H3 j x3 y3 rp3 rs3 h3 => by
            have vx := rp3.vw ((rv1.ext y2).ext y3)
            cases q : pSl (vw S3 w) i j with
            | none => simp only [q] at h3; exact (show False from h3).elim
            | some z =>
              simp only [q] at h3
              have p : Post _ e3 S3.nx H3 z S3 Q := Post.ext h3 x3
              unfold pSl at q
              split at q
              · next ws e1 =>
                rw [e1] at vx
                cases q
                obtain ⟨a, xs, rfl, h1, z, r⟩ := vx
                refine .inr ⟨a, xs, rfl, .of h1, fun hw => ?_, fun _ => newT rp3 (Nat.le_trans (cutV_length xs i j) z) (r.cut i j) p⟩
                rw [← r.length] at hw
                rw [cutW_all hw] at p
                exact Post.now p rp3 (.tup h1 z r)
              · next ws e1 =>
                rw [e1] at vx
                cases q
                obtain ⟨a, xs, rfl, h1, z, r⟩ := vx
                exact .inl ⟨a, xs, rfl, .of h1, newL rp3 (Nat.le_trans (cutV_length xs i j) z) (r.cut i j) p⟩
              · cases q

def fLook (n : Nat) : List (Nat × W) → Option W
  | [] => none
  | (m, w) :: r => if m = n then some w else fLook n r
def fPut (n : Nat) (w : W) : List (Nat × W) → List (Nat × W)
  | [] => [(n, w)]
  | (m, u) :: r => if m = n then (m, w) :: r else (m, u) :: fPut n w r
theorem VRF.look {e : Emb} {nx : Nat} {H : Hp} {n : Nat} {w : W} : ∀ {fs : List (Nat × W)} {gs : List (Str × V)}, VRF A e nx H fs gs → fLook n fs = some w → ∃ v, gs.lookup (dec n) = some v ∧ VR A e nx H w v
  | _, _, .nil, h => by cases h
  | _, _, .cons (n := m) a r, h => by
    unfold fLook at h
    by_cases z : m = n
    · subst z
      rw [if_pos rfl] at h; cases h
      exact ⟨_, by simp [List.lookup], a⟩
    · rw [if_neg z] at h
      obtain ⟨v, h1, h2⟩ := VRF.look r h
      have : (dec n == dec m) = false := by rw [dec_beq]; exact beq_eq_false_iff_ne.mpr (Ne.symm z)
      exact ⟨v, by simp [List.lookup, this, h1], h2⟩
theorem VRF.none {e : Emb} {nx : Nat} {H : Hp} {n : Nat} : ∀ {fs : List (Nat × W)} {gs : List (Str × V)}, VRF A e nx H fs gs → fLook n fs = Option.none → gs.lookup (dec n) = Option.none
  | _, _, .nil, h => rfl
  | _, _, .cons (n := m) a r, h => by
    unfold fLook at h
    by_cases z : m = n
    · subst z
      rw [if_pos rfl] at h; cases h
    · rw [if_neg z] at h
      have : (dec n == dec m) = false := by rw [dec_beq]; exact beq_eq_false_iff_ne.mpr (Ne.symm z)
      simp [List.lookup, this, VRF.none r h]
theorem VRF.put {e : Emb} {nx : Nat} {H : Hp} {n : Nat} {w : W} {v : V} (h : VR A e nx H w v) : ∀ {fs : List (Nat × W)} {gs : List (Str × V)}, VRF A e nx H fs gs → VRF A e nx H (fPut n w fs) (putF (dec n) v gs)
  | _, _, .nil => .cons h .nil
  | _, _, .cons (n := m) (w := u) (v := x) (ws := ws) (vs := vs) a r => by
    by_cases z : m = n
    · subst z
      have e1 : fPut m w ((m, u) :: ws) = (m, w) :: ws := by simp [fPut]
      have e2 : putF (dec m) v ((dec m, x) :: vs) = (dec m, v) :: vs := by simp [putF]
      rw [e1, e2]; exact .cons h r
    · have zz : dec m ≠ dec n := fun y => z (dec_inj y)
      have e1 : fPut n w ((m, u) :: ws) = (m, u) :: fPut n w ws := by simp [fPut, z]
      have e2 : putF (dec n) v ((dec m, x) :: vs) = (dec m, x) :: putF (dec n) v vs := by simp [putF, zz]
      rw [e1, e2]; exact .cons a (VRF.put h r)
theorem VRF.length {e : Emb} {nx : Nat} {H : Hp} : ∀ {fs : List (Nat × W)} {gs : List (Str × V)}, VRF A e nx H fs gs → fs.length = gs.length
  | _, _, .nil => rfl
  | _, _, .cons _ r => by simp [VRF.length r]
/-- the field n of an instance of one of the classes cs -/
def cFld (cs : List Nat) (n : Nat) (f : Den) : Den := fun sl S => (f sl S).bind fun r => match vw r.2 r.1 with
  | .ins c fs => if cs.contains c then (match fLook n fs with
    | some w => .ok (w, r.2)
    | none => .stuck) else .stuck
  | _ => .stuck
def Has (X : L2.Cx) (B : Bm) (cs : List Nat) (f : Str) : Prop := ∀ c, c ∈ cs → Cls X.K (B.cl c) ∧ NoAttr X.K (B.cl c) f
theorem se_fld {a : Expr} {x : Str} {pos : Pos} {f : Den} (cs : List Nat) (n : Nat) (hf : Has X B cs x) (ha : SE X B Wx a f) (hn : dec n = x := by decide +kernel) (hb : attributeBase a x X.env (eval a X.env) = eval a X.env := by rfl) : SE X B Wx (.Attribute a x pos) (cFld cs n f) := by
  subst hn
  exact weakE (pe_fld ha hb) fun sg H Q ⟨e, S, sl, rp, rs, h⟩ =>
    part (k := fun w S1 => match vw S1 w with
      | .ins c fs => if cs.contains c then (match fLook n fs with
        | some w => .ok (w, S1)
        | none => .stuck) else .stuck
      | _ => .stuck) Ext.refl rp rs h fun e1 S1 H1 w v x1 _ rp1 rs1 rv1 h1 => by
      have vx := rp1.vw rv1
      cases q : vw S1 w with
      | ins c fs =>
        rw [q] at vx
        simp only [q] at h1
        split at h1
        · next hc =>
          obtain ⟨k1, k2⟩ := hf c (by simpa using hc)
          obtain ⟨a, dx, gs, rfl, g, r⟩ := vx
          cases l : fLook n fs with
          | none => simp only [l] at h1; exact (show False from h1).elim
          | some u =>
            simp only [l] at h1
            obtain ⟨v, l1, l2⟩ := r.look l
            exact ⟨a, _, dx, gs, v, rfl, g, k1, k2, l1, Post.now (Post.ext h1 x1) rp1 l2⟩
        · exact (show False from h1).elim
      | _ => simp only [q] at h1; exact (show False from h1).elim

def cNeg (f : Den) : Den := fun sl S => (f sl S).bind fun r => match r.1 with
  | .int i => .ok (.int (-i), r.2)
  | _ => .stuck
theorem se_neg {a : Expr} {pos : Pos} {f : Den} (ha : SE X B Wx a f) : SE X B Wx (.UnaryOp .USub a pos) (cNeg f) :=
  weakE (pe_un un_neg ha) fun sg H Q ⟨e, S, sl, rp, rs, h⟩ =>
    part (k := fun w S1 => match w with
      | .int i => .ok (W.int (-i), S1)
      | _ => .stuck) Ext.refl rp rs h fun e1 S1 H1 w v x1 _ rp1 rs1 rv1 h1 => by
      cases rv1 with
      | int i => exact ⟨i, rfl, Post.now (Post.ext h1 x1) rp1 (.int _)⟩
      | _ => exact (show False from h1).elim

def cCB (o : List W → M W) (ds : List Den) : Den := fun sl S => (evs ds sl S).bind fun r => o r.1 r.2
def CS (A : Am) (o : List W → M W) (r : List V → Hp → VK → Prop) : Prop := ∀ (e : Emb) (S : Hs) (H : Hp) (ws : List W) (vs : List V) (Q : VK) (E : XP), Rep A e S H → VRs A e S.nx H ws vs → wp (o ws S) (fun r => Post A e S.nx H r.1 r.2 Q) E → r vs H Q
theorem rd_cb {o : List W → M W} {r : List V → Hp → VK → Prop} {ds : List Den} (ho : CS A o r) : ∀ sg H Q, rdE A Wx (cCB o ds) sg H Q → tCB r (rdA A Wx ds) sg H Q := fun sg H Q ⟨e, S, sl, rp, rs, h⟩ =>
  partA (k := fun ws S1 => o ws S1) Ext.refl rp rs h fun e1 S1 H1 ws vs l x1 _ rp1 rs1 rv1 h1 => ho e1 S1 H1 ws vs Q _ rp1 rv1 (wp_mono h1 (fun _ p => p.ext x1) fun _ _ _ q => q)
section
variable {x : Str} {p pos : Pos} {e : Expr} {es : List Expr} {ds : List Den} {id T : String} {r : List V → Hp → VK → Prop} {o : List W → M W}
theorem se_cb (hc : CallR X (.builtin id) r) (ho : CS (am X B) o r) (hg : Gl X x) (hm : X.mg x = none) (hv : bootBuiltins x = some (.builtin id)) (ha : SA X B Wx (e :: es) ds) (hn : x ≠ "__name__" := by decide) (hdb : (x == ("__debug__" : Str)) = false := by decide)
    (he : starEach (e :: es) X.env = (false, eval e X.env) :: starEach es X.env := by rfl) (hpl : (backTo pos (starEach es X.env)).any (·.1) = false := by rfl) : SE X B Wx (.Call (.Name x p) (e :: es) [] pos) (cCB o ds) :=
  weakE (pe_callB hc hg hm hv ha hn hdb he hpl) (rd_cb ho)
theorem se_ct (hc : CallR X (.type T) r) (ho : CS (am X B) o r) (hg : Gl X x) (hm : X.mg x = none) (hv : bootBuiltins x = some (.type T)) (ha : SA X B Wx (e :: es) ds) (hn : x ≠ "__name__" := by decide) (hdb : (x == ("__debug__" : Str)) = false := by decide)
    (he : starEach (e :: es) X.env = (false, eval e X.env) :: starEach es X.env := by rfl) (hpl : (backTo pos (starEach es X.env)).any (·.1) = false := by rfl) : SE X B Wx (.Call (.Name x p) (e :: es) [] pos) (cCB o ds) :=
  weakE (pe_callTy hc hg hm hv ha hn hdb he hpl) (rd_cb ho)
end
theorem callr_wk {f : Value} {r r' : List V → Hp → VK → Prop} (h : CallR X f r) (k : ∀ xs H Q, r' xs H Q → r xs H Q) : CallR X f r' := fun pins s σ H xs us Q I r q => h pins s σ H xs us Q I r (k xs H Q q)
/-- an operation on one viewed value -/
def o1 (p : W → Option W) : List W → M W := fun ws S => match ws with
  | [w] => (match p (vw S w) with
    | some z => .ok (z, S)
    | none => .stuck)
  | _ => .stuck
theorem o1_wp {p : W → Option W} {ws : List W} {S : Hs} {Q : W × Hs → Prop} {E : XP} (h : wp (o1 p ws S) Q E) : ∃ w z, ws = [w] ∧ p (vw S w) = some z ∧ Q (z, S) := by
  unfold o1 at h
  split at h
  · next w =>
    cases q : p (vw S w) with
    | none => simp only [q] at h; exact (show False from h).elim
    | some z => simp only [q] at h; exact ⟨w, z, rfl, q, h⟩
  · exact (show False from h).elim
theorem VRs.one {e : Emb} {nx : Nat} {H : Hp} {w : W} {vs : List V} (r : VRs A e nx H [w] vs) : ∃ v, vs = [v] ∧ VR A e nx H w v := by
  cases r with
  | cons a r => cases r; exact ⟨_, rfl, a⟩
theorem VRs.two {e : Emb} {nx : Nat} {H : Hp} {w u : W} {vs : List V} (r : VRs A e nx H [w, u] vs) : ∃ v x, vs = [v, x] ∧ VR A e nx H w v ∧ VR A e nx H u x := by
  cases r with
  | cons a r => cases r with
    | cons b r => cases r; exact ⟨_, _, rfl, a, b⟩
/-- len -/
def pLen : W → Option W
  | .tup ws => some (.int ws.length)
  | .lst ws => some (.int ws.length)
  | .dic 0 kvs => some (.int kvs.length)
  | _ => none
theorem VRK.length {e : Emb} {nx : Nat} {H : Hp} : ∀ {fs : List (W × W)} {gs : List (Key × V)}, VRK A e nx H fs gs → fs.length = gs.length
  | _, _, .nil => rfl
  | _, _, .cons _ _ r => by simp [VRK.length r]
theorem VRT.length {e : Emb} {nx : Nat} {H : Hp} : ∀ {fs : List (W × W)} {gs : List (List Key × V)}, VRT A e nx H fs gs → fs.length = gs.length
  | _, _, .nil => rfl
  | _, _, .cons _ _ r => by simp [VRT.length r]
theorem call_lenDk : CallR X (.builtin "len") (fun xs H Q => ∃ a kvs, xs = [.ref a] ∧ H a = some (.dK kvs) ∧ Q (.int kvs.length) H) := by
  intro pins s σ H xs us Q I r h
  obtain ⟨a, kvs, rfl, g, q⟩ := h
  obtain ⟨u, rfl, rx⟩ := vals1 r
  obtain rfl : u = Value.ref a := rx
  exact d_len I (.inl g) fun t s' I' => ⟨.int kvs.length, H, I', ⟨_, rfl⟩, q⟩
def rLenAll (K : PySem.W.Frag) : List V → Hp → VK → Prop := fun xs H Q => (∃ p ys, xs = [.ref p] ∧ (SqL K H p ys ∨ SqT K H p ys) ∧ Q (.int ys.length) H) ∨ ∃ a kvs, xs = [.ref a] ∧ H a = some (.dK kvs) ∧ Q (.int kvs.length) H
theorem cs_len : CS A (o1 pLen) (rLenAll A.K) := by
  intro e S H ws vs Q E rp rv h
  obtain ⟨w, z, rfl, q, p⟩ := o1_wp h
  obtain ⟨v, rfl, r1⟩ := rv.one
  have vx := rp.vw r1
  unfold pLen at q
  split at q
  · next us e1 =>
    rw [e1] at vx; cases q
    obtain ⟨a, xs, rfl, g, _, r⟩ := vx
    exact .inl ⟨a, xs, rfl, .inr (.of g), by rw [← r.length]; exact Post.now p rp (.int _)⟩
  · next us e1 =>
    rw [e1] at vx; cases q
    obtain ⟨a, xs, rfl, g, _, r⟩ := vx
    exact .inl ⟨a, xs, rfl, .inl (.of g), by rw [← r.length]; exact Post.now p rp (.int _)⟩
  · next us e1 =>
    rw [e1] at vx; cases q
    obtain ⟨a, rfl, ⟨_, ks, g, r⟩ | ⟨z, _⟩⟩ := vx
    · exact .inr ⟨a, ks, rfl, g, by rw [← r.length]; exact Post.now p rp (.int _)⟩
    · cases z
  · cases q
section
variable {p pos : Pos} {e : Expr} {f : Den} {ds : List Den}
theorem se_len (hg : Gl X "len") (hm : X.mg "len" = none) (ha : SA X B Wx [e] ds) (he : starEach [e] X.env = (false, eval e X.env) :: starEach [] X.env := by rfl) : SE X B Wx (.Call (.Name "len" p) [e] [] pos) (cCB (o1 pLen) ds) :=
  se_cb (call_len_seq.or call_lenDk) cs_len hg hm boot_len ha (by decide) (by decide) he rfl
/-- all, any of a list of truths -/
def wBls : List W → Option (List Bool)
  | [] => some []
  | .bl b :: r => (wBls r).map (b :: ·)
  | _ => none
theorem wBls_ok {e : Emb} {nx : Nat} {H : Hp} : ∀ {ws : List W} {vs : List V} {bs : List Bool}, VRs A e nx H ws vs → wBls ws = some bs → vs = bs.map V.bl
  | _, _, _, .nil, h => by cases h; rfl
  | w :: _, _, _, .cons a r, h => by
    cases w with
    | bl b =>
      cases a
      obtain ⟨cs, h1, h2⟩ := Option.map_eq_some_iff.mp (show (wBls _).map (b :: ·) = some _ from h)
      subst h2
      rw [wBls_ok r h1]; rfl
    | _ => cases h
def pAll : W → Option W
  | .lst ws => (wBls ws).map fun bs => .bl (bs.all id)
  | _ => none
def pAny : W → Option W
  | .lst ws => (wBls ws).map fun bs => .bl (bs.any id)
  | _ => none
theorem cs_all : CS A (o1 pAll) (rAll A.K) := by
  intro e S H ws vs Q E rp rv h
  obtain ⟨w, z, rfl, q, p⟩ := o1_wp h
  obtain ⟨v, rfl, r1⟩ := rv.one
  have vx := rp.vw r1
  unfold pAll at q
  split at q
  · next us e1 =>
    rw [e1] at vx
    obtain ⟨bs, h1, rfl⟩ := Option.map_eq_some_iff.mp q
    obtain ⟨a, xs, rfl, g, _, r⟩ := vx
    rw [wBls_ok r h1] at g
    exact ⟨a, bs, rfl, .of g, Post.now p rp (.bl _)⟩
  · cases q
theorem cs_any : CS A (o1 pAny) (rAny A.K) := by
  intro e S H ws vs Q E rp rv h
  obtain ⟨w, z, rfl, q, p⟩ := o1_wp h
  obtain ⟨v, rfl, r1⟩ := rv.one
  have vx := rp.vw r1
  unfold pAny at q
  split at q
  · next us e1 =>
    rw [e1] at vx
    obtain ⟨bs, h1, rfl⟩ := Option.map_eq_some_iff.mp q
    obtain ⟨a, xs, rfl, g, _, r⟩ := vx
    rw [wBls_ok r h1] at g
    exact ⟨a, bs, rfl, .of g, Post.now p rp (.bl _)⟩
  · cases q
theorem se_all (hc : X.calm = true) (hg : Gl X "all") (hm : X.mg "all" = none) (ha : SA X B Wx [e] ds) (he : starEach [e] X.env = (false, eval e X.env) :: starEach [] X.env := by rfl) : SE X B Wx (.Call (.Name "all" p) [e] [] pos) (cCB (o1 pAll) ds) :=
  se_cb (cr_all hc) cs_all hg hm (by decide +kernel) ha (by decide) (by decide) he rfl
theorem se_any (hc : X.calm = true) (hg : Gl X "any") (hm : X.mg "any" = none) (ha : SA X B Wx [e] ds) (he : starEach [e] X.env = (false, eval e X.env) :: starEach [] X.env := by rfl) : SE X B Wx (.Call (.Name "any" p) [e] [] pos) (cCB (o1 pAny) ds) :=
  se_cb (cr_any hc) cs_any hg hm (by decide +kernel) ha (by decide) (by decide) he rfl
/-- int(x) -/
def pToInt : W → Option W
  | .int i => some (.int i)
  | .bl b => some (.int (if b then 1 else 0))
  | _ => none
theorem cs_int : CS A (o1 pToInt) (fun xs H Q => (∃ i, xs = [.int i] ∧ Q (.int i) H) ∨ ∃ k, xs = [.bl k] ∧ Q (.int (if k then 1 else 0)) H) := by
  intro e S H ws vs Q E rp rv h
  obtain ⟨w, z, rfl, q, p⟩ := o1_wp h
  obtain ⟨v, rfl, r1⟩ := rv.one
  have vx := rp.vw r1
  unfold pToInt at q
  split at q
  · next i e1 => rw [e1] at vx; cases q; cases vx; exact .inl ⟨i, rfl, Post.now p rp (.int _)⟩
  · next i e1 => rw [e1] at vx; cases q; cases vx; exact .inr ⟨i, rfl, Post.now p rp (.int _)⟩
  · cases q
theorem se_int1 (hg : Gl X "int") (hm : X.mg "int" = none) (ha : SA X B Wx [e] ds) (he : starEach [e] X.env = (false, eval e X.env) :: starEach [] X.env := by rfl) : SE X B Wx (.Call (.Name "int" p) [e] [] pos) (cCB (o1 pToInt) ds) :=
  se_ct call_int1 cs_int hg hm (by decide +kernel) ha (by decide) (by decide) he rfl
/-- tuple(x) -/
def pToTup : W → Option W
  | .tup ws => some (.tup ws)
  | .lst ws => some (.tup ws)
  | _ => none
theorem cs_tup : CS A (o1 pToTup) (fun xs H Q => ∃ p ys, xs = [.ref p] ∧ ((SqL A.K H p ys ∧ ∀ l, H l = none → Q (.ref l) (upd H l (.tup ys))) ∨ (SqT A.K H p ys ∧ Q (.ref p) H))) := by
  intro e S H ws vs Q E rp rv h
  obtain ⟨w, z, rfl, q, p⟩ := o1_wp h
  obtain ⟨v, rfl, r1⟩ := rv.one
  have vx := rp.vw r1
  unfold pToTup at q
  split at q
  · next us e1 =>
    rw [e1] at vx; cases q
    obtain ⟨a, xs, rfl, g, zl, r⟩ := vx
    exact ⟨a, xs, rfl, .inr ⟨.of g, Post.now p rp (.tup g zl r)⟩⟩
  · next us e1 =>
    rw [e1] at vx; cases q
    obtain ⟨a, xs, rfl, g, zl, r⟩ := vx
    exact ⟨a, xs, rfl, .inl ⟨.of g, newT rp zl r p⟩⟩
  · cases q
theorem se_tuple1 (hg : Gl X "tuple") (hm : X.mg "tuple" = none) (ha : SA X B Wx [e] ds) (he : starEach [e] X.env = (false, eval e X.env) :: starEach [] X.env := by rfl) : SE X B Wx (.Call (.Name "tuple" p) [e] [] pos) (cCB (o1 pToTup) ds) :=
  se_ct call_tuple_of cs_tup hg hm (by decide +kernel) ha (by decide) (by decide) he rfl
/-- list(x), frozen; list(x), of the small heap -/
def pToLst : W → Option (List W)
  | .tup ws => some ws
  | .lst ws => some ws
  | _ => none
def oLst : List W → M W := o1 fun w => (pToLst w).map .lst
def oLstM : List W → M W := fun ws S => match ws with
  | [w] => (match pToLst (vw S w) with
    | some us => .ok (.ref S.nx, S.new (.lst us))
    | none => .stuck)
  | _ => .stuck
theorem pToLst_ok {e : Emb} {nx : Nat} {H : Hp} {w : W} {v : V} {us : List W} (h : VV A e nx H w v) (q : pToLst w = some us) : ∃ a xs, v = .ref a ∧ (SqL A.K H a xs ∨ SqT A.K H a xs) ∧ xs.length ≤ sizeLine ∧ VRs A e nx H us xs := by
  unfold pToLst at q
  split at q
  · cases q
    obtain ⟨a, xs, rfl, g, zl, r⟩ := h
    exact ⟨a, xs, rfl, .inr (.of g), zl, r⟩
  · cases q
    obtain ⟨a, xs, rfl, g, zl, r⟩ := h
    exact ⟨a, xs, rfl, .inl (.of g), zl, r⟩
  · cases q
theorem cs_lst : CS A oLst (fun xs H Q => ∃ p ys, xs = [.ref p] ∧ (SqL A.K H p ys ∨ SqT A.K H p ys) ∧ ∀ l, H l = none → Q (.ref l) (upd H l (.lst ys))) := by
  intro e S H ws vs Q E rp rv h
  obtain ⟨w, z, rfl, q, p⟩ := o1_wp h
  obtain ⟨v, rfl, r1⟩ := rv.one
  obtain ⟨us, q1, rfl⟩ := Option.map_eq_some_iff.mp q
  obtain ⟨a, xs, rfl, g, zl, r⟩ := pToLst_ok (rp.vw r1) q1
  exact ⟨a, xs, rfl, g, newL rp zl r p⟩
theorem cs_lstM : CS A oLstM (fun xs H Q => ∃ p ys, xs = [.ref p] ∧ (SqL A.K H p ys ∨ SqT A.K H p ys) ∧ ∀ l, H l = none → Q (.ref l) (upd H l (.lst ys))) := by
  intro e S H ws vs Q E rp rv h
  unfold oLstM at h
  split at h
  · next w =>
    obtain ⟨v, rfl, r1⟩ := rv.one
    cases q : pToLst (vw S w) with
    | none => simp only [q] at h; exact (show False from h).elim
    | some us =>
      simp only [q] at h
      obtain ⟨a, xs, rfl, g, zl, r⟩ := pToLst_ok (rp.vw r1) q
      exact ⟨a, xs, rfl, g, newM rp zl r h⟩
  · exact (show False from h).elim
theorem se_list1 (hg : Gl X "list") (hm : X.mg "list" = none) (ha : SA X B Wx [e] ds) (he : starEach [e] X.env = (false, eval e X.env) :: starEach [] X.env := by rfl) : SE X B Wx (.Call (.Name "list" p) [e] [] pos) (cCB oLst ds) :=
  se_ct call_list_of cs_lst hg hm (by decide +kernel) ha (by decide) (by decide) he rfl
theorem se_list1M (hg : Gl X "list") (hm : X.mg "list" = none) (ha : SA X B Wx [e] ds) (he : starEach [e] X.env = (false, eval e X.env) :: starEach [] X.env := by rfl) : SE X B Wx (.Call (.Name "list" p) [e] [] pos) (cCB oLstM ds) :=
  se_ct call_list_of cs_lstM hg hm (by decide +kernel) ha (by decide) (by decide) he rfl
/-- min, max of two ints -/
def o2 (p : Int → Int → Int) : List W → M W := fun ws S => match ws with
  | [.int i, .int j] => .ok (.int (p i j), S)
  | _ => .stuck
theorem cs_o2 {p : Int → Int → Int} : CS A (o2 p) (fun xs H Q => ∃ i j, xs = [.int i, .int j] ∧ Q (.int (p i j)) H) := by
  intro e S H ws vs Q E rp rv h
  unfold o2 at h
  split at h
  · next i j =>
    obtain ⟨v, x, rfl, r1, r2⟩ := rv.two
    cases r1; cases r2
    exact ⟨i, j, rfl, Post.now h rp (.int _)⟩
  · exact (show False from h).elim
variable {e2 : Expr}
theorem se_min2 (hc : X.calm = true) (hg : Gl X "min") (hm : X.mg "min" = none) (ha : SA X B Wx [e, e2] ds) (he : starEach [e, e2] X.env = (false, eval e X.env) :: starEach [e2] X.env := by rfl) (hpl : (backTo pos (starEach [e2] X.env)).any (·.1) = false := by rfl) : SE X B Wx (.Call (.Name "min" p) [e, e2] [] pos) (cCB (o2 fun i j => if j < i then j else i) ds) :=
  se_cb (call_min2 hc) cs_o2 hg hm (by decide +kernel) ha (by decide) (by decide) he hpl
theorem se_max2 (hc : X.calm = true) (hg : Gl X "max") (hm : X.mg "max" = none) (ha : SA X B Wx [e, e2] ds) (he : starEach [e, e2] X.env = (false, eval e X.env) :: starEach [e2] X.env := by rfl) (hpl : (backTo pos (starEach [e2] X.env)).any (·.1) = false := by rfl) : SE X B Wx (.Call (.Name "max" p) [e, e2] [] pos) (cCB (o2 fun i j => if j > i then j else i) ds) :=
  se_cb (call_max2 hc) cs_o2 hg hm (by decide +kernel) ha (by decide) (by decide) he hpl
end

def tyN : Nat → String
  | 0 => "int"
  | 1 => "bool"
  | 2 => "str"
  | 3 => "tuple"
  | 4 => "list"
  | 5 => "dict"
  | _ => "NoneType"
def wTy : W → Option Nat
  | .int _ => some 0
  | .bl _ => some 1
  | .str _ => some 2
  | .tup _ => some 3
  | .lst _ => some 4
  | .dic _ _ => some 5
  | .non => some 6
  | .sym _ _ => some 0
  | _ => none
def isTy (t c : Nat) : Bool := t == c || (t == 1 && c == 0)
theorem kit_all : ∀ t : Fin 7, ∀ c : Fin 6, kitB (tyN t) (tyN c) = some (isTy t c) := by decide +kernel
theorem wTy_lt {w : W} {t : Nat} (h : wTy w = some t) : t < 7 := by
  cases w <;> simp [wTy] at h <;> omega
theorem wTy_ok {e : Emb} {nx : Nat} {H : Hp} {w : W} {v : V} {t : Nat} (h : VV A e nx H w v) (k : wTy w = some t) : TyX A.K H v (.type (tyN t)) := by
  cases w with
  | non => cases k; cases h; exact .base .non
  | bl b => cases k; cases h; exact .base (.bl b)
  | int i => cases k; cases h; exact .base (.int i)
  | str n => cases k; cases h; exact .base (.str _)
  | tup ws => cases k; obtain ⟨a, xs, rfl, g, _, _⟩ := h; exact .base (.tup g)
  | lst ws => cases k; obtain ⟨a, xs, rfl, g, _, _⟩ := h; exact .base (.lst g)
  | dic t ws => cases k; obtain ⟨a, rfl, ⟨_, ks, g, _⟩ | ⟨_, ks, g, _⟩⟩ := h; exact .base (.dK g); exact .base (.dT g)
  | sym _ _ => exact h.elim
  | _ => cases k
def cIsT (cs : List Nat) (f : Den) : Den := fun sl S => (f sl S).bind fun r => match wTy (vw r.2 r.1) with
  | some t => .ok (.bl (cs.any (isTy t)), r.2)
  | none => .stuck
theorem se_isT {a : Expr} {T : Str} {p p2 pos : Pos} {f : Den} (c : Nat) (hg : Gl X "isinstance") (hm : X.mg "isinstance" = none) (gT : Gl X T) (mT : X.mg T = none) (ha : SE X B Wx a f)
    (hc : c < 6 := by decide) (hT : bootBuiltins T = some (.type (tyN c)) := by decide +kernel) (hn : T ≠ "__name__" := by decide) (hd : (T == ("__debug__" : Str)) = false := by decide)
    (he : starEach [a, .Name T p2] X.env = (false, eval a X.env) :: starEach [.Name T p2] X.env := by rfl) : SE X B Wx (.Call (.Name "isinstance" p) [a, .Name T p2] [] pos) (cIsT [c] f) :=
  weakE (pe_callB call_isi hg hm (by decide +kernel) (pa_cons ha (pa_cons (pe_bltn (v := .ty (tyN c)) gT mT hT rfl hn hd) pa_nil rfl) he) (by decide) (by decide) he rfl) fun sg H Q ⟨e, S, sl, rp, rs, h⟩ =>
    part (k := fun w S1 => match wTy (vw S1 w) with
      | some t => .ok (W.bl ([c].any (isTy t)), S1)
      | none => .stuck) Ext.refl rp rs h fun e1 S1 H1 w v x1 _ rp1 rs1 rv1 h1 => by
      cases q : wTy (vw S1 w) with
      | none => simp only [q] at h1; exact (show False from h1).elim
      | some t =>
        simp only [q] at h1
        refine ⟨v, .ty (tyN c), _, _, isTy t c, rfl, .ty _, wTy_ok (rp1.vw rv1) q, kit_ty (kit_all ⟨t, wTy_lt q⟩ ⟨c, hc⟩), ?_⟩
        simp only [List.any_cons, List.any_nil, Bool.or_false] at h1
        exact Post.now (Post.ext h1 x1) rp1 (.bl _)
theorem se_isT2 {a : Expr} {T U : Str} {p p2 p3 p4 pos : Pos} {k : Nat} {f : Den} (c d : Nat) (hg : Gl X "isinstance") (hm : X.mg "isinstance" = none) (gT : Gl X T) (mT : X.mg T = none) (gU : Gl X U) (mU : X.mg U = none) (ha : SE X B Wx a f)
    (hc : c < 6 := by decide) (hd : d < 6 := by decide) (hT : bootBuiltins T = some (.type (tyN c)) := by decide +kernel) (hU : bootBuiltins U = some (.type (tyN d)) := by decide +kernel)
    (n1 : T ≠ "__name__" := by decide) (d1 : (T == ("__debug__" : Str)) = false := by decide) (n2 : U ≠ "__name__" := by decide) (d2 : (U == ("__debug__" : Str)) = false := by decide)
    (he : starEach [a, .Tuple [.Name T p2, .Name U p3] k p4] X.env = (false, eval a X.env) :: starEach [.Tuple [.Name T p2, .Name U p3] k p4] X.env := by rfl) : SE X B Wx (.Call (.Name "isinstance" p) [a, .Tuple [.Name T p2, .Name U p3] k p4] [] pos) (cIsT [c, d] f) :=
  weakE (pe_callB call_isiT hg hm (by decide +kernel) (pa_cons ha (pa_cons (pe_tup (pa_cons (pe_bltn (v := .ty (tyN c)) gT mT hT rfl n1 d1) (pa_cons (pe_bltn (v := .ty (tyN d)) gU mU hU rfl n2 d2) pa_nil rfl) rfl)) pa_nil rfl) he) (by decide) (by decide) he rfl) fun sg H Q ⟨e, S, sl, rp, rs, h⟩ =>
    part (k := fun w S1 => match wTy (vw S1 w) with
      | some t => .ok (W.bl ([c, d].any (isTy t)), S1)
      | none => .stuck) Ext.refl rp rs h fun e1 S1 H1 w v x1 _ rp1 rs1 rv1 h1 => by
      cases q : wTy (vw S1 w) with
      | none => simp only [q] at h1; exact (show False from h1).elim
      | some t =>
        simp only [q] at h1
        refine ⟨by show 2 ≤ sizeLine; rw [sizeL]; decide, fun tp ht => ?_⟩
        have xx := Ext.new (o := HO.tup [V.ty (tyN c), V.ty (tyN d)]) rp1 ht e1.fz fun _ h => h
        have rp2 := Rep.new (o := HO.tup [V.ty (tyN c), V.ty (tyN d)]) rp1 ht e1.fz (fun _ h => h) fun _ h => .inl h
        have ka := kit_ty (K := X.K) (kit_all ⟨t, wTy_lt q⟩ ⟨c, hc⟩)
        have kb := kit_ty (K := X.K) (kit_all ⟨t, wTy_lt q⟩ ⟨d, hd⟩)
        refine ⟨v, tp, [.ty (tyN c), .ty (tyN d)], _, [.type (tyN c), .type (tyN d)], isTy t c || isTy t d, rfl, upd_same, .cons (.ty _) (.cons (.ty _) .nil), wTy_ok (rp2.vw (rv1.ext xx)) q, ?_, ?_⟩
        · refine kitAny_cons ka (fun h0 => ?_) fun h0 => by rw [show isTy t c = true from h0]; rfl
          rw [show isTy t c = false from h0, Bool.false_or]
          refine kitAny_cons kb (fun h1 => ?_) fun h1 => h1
          rw [show isTy t d = false from h1]
          exact kitAny_nil
        · simp only [List.any_cons, List.any_nil, Bool.or_false] at h1
          exact (Post.ext h1 (x1.trans xx)) _ _ _ Ext.refl rp2 (.bl _)
end HQ
namespace HQ
open PySem PySem.Spec PyProof.Rows L2
variable {X : L2.Cx} {B : Bm} {Wx : WX} {A : Am}

abbrev GD := W → Sl → Option Sl
def gN (i : Nat) : GD := fun w sl => some (sl.set i (some w))
def gAll : List GD → List W → Sl → Option Sl
  | [], [], sl => some sl
  | g :: gs, w :: ws, sl => (g w sl).bind fun sl' => gAll gs ws sl'
  | _, _, _ => none
def gT (gs : List GD) : GD := fun w sl => match w with
  | .tup ws => gAll gs ws sl
  | _ => none
def gL (gs : List GD) : GD := fun w sl => match w with
  | .lst ws => gAll gs ws sl
  | _ => none
def rdG (A : Am) (g : GD) : TG := fun v sg H Q => ∃ e S sl w sl', Rep A e S H ∧ SlR A e S.nx H sl sg ∧ VR A e S.nx H w v ∧ g w sl = some sl' ∧ ∀ sg', SlR A e S.nx H sl' sg' → Q sg' H
def rdGs (A : Am) (gs : List GD) : TGs := fun vs sg H Q => ∃ e S sl ws sl', Rep A e S H ∧ SlR A e S.nx H sl sg ∧ VRs A e S.nx H ws vs ∧ gAll gs ws sl = some sl' ∧ ∀ sg', SlR A e S.nx H sl' sg' → Q sg' H
def SG (X : L2.Cx) (B : Bm) (t : Expr) (g : GD) : Prop := PG X t (rdG (am X B) g)
def SGs (X : L2.Cx) (B : Bm) (ts : List Expr) (gs : List GD) : Prop := PGs X ts (rdGs (am X B) gs)
theorem weakG {t : Expr} {p q : TG} (h : PG X t p) (w : ∀ v sg H Q, q v sg H Q → p v sg H Q) : PG X t q := ⟨fun pins s sg H v u Q I r k => h.run pins s sg H v u Q I r (w v sg H Q k)⟩
theorem weakGs {t : List Expr} {p q : TGs} (h : PGs X t p) (w : ∀ v sg H Q, q v sg H Q → p v sg H Q) : PGs X t q := ⟨fun pins s sg H v u Q I r k => h.run pins s sg H v u Q I r (w v sg H Q k)⟩
theorem sg_name {i : Nat} {x : Str} {pos : Pos} (hN : X.N.Nodup) (hi : X.N[i]? = some x) (hx : Loc X.env.scope x) (hf : X.fn x = true ∨ X.env.scope.names.lookup x = some .local := by first | exact .inl rfl | exact .inr rfl | assumption) : SG X B (.Name x pos) (gN i) :=
  weakG (pg_name hN hi hx hf) fun v sg H Q ⟨e, S, sl, w, sl', rp, rs, rv, h, q⟩ => by
    cases h
    exact q _ (rs.set rv i)
theorem sgs_nil : SGs X B [] [] := weakGs pgs_nil fun v sg H Q ⟨e, S, sl, ws, sl', rp, rs, rv, h, q⟩ => by
  cases rv with
  | nil => cases h; exact ⟨rfl, q _ rs⟩
  | cons _ _ => cases h
theorem sgs_cons {t : Expr} {ts : List Expr} {g : GD} {gs : List GD} (h1 : SG X B t g) (h2 : SGs X B ts gs) (hs : (assignEach (t :: ts) X.env).map (·.2) = assign t X.env :: (assignEach ts X.env).map (·.2) := by rfl) : SGs X B (t :: ts) (g :: gs) :=
  weakGs (pgs_cons h1 h2 hs) fun v sg H Q ⟨e, S, sl, ws, sl', rp, rs, rv, h, q⟩ => by
    cases rv with
    | nil => cases h
    | cons a r =>
      obtain ⟨sl1, k1, k2⟩ := Option.bind_eq_some_iff.mp (show (g _ sl).bind _ = some sl' from h)
      exact ⟨_, _, rfl, e, S, sl, _, sl1, rp, rs, a, k1, fun sg1 rs1 => ⟨e, S, sl1, _, sl', rp, rs1, r, k2, q⟩⟩
theorem gAll_len : ∀ {gs : List GD} {ws : List W} {sl sl' : Sl}, gAll gs ws sl = some sl' → ws.length = gs.length
  | [], [], _, _, _ => rfl
  | [], _ :: _, _, _, h => by cases h
  | _ :: _, [], _, _, h => by cases h
  | g :: gs, w :: ws, sl, sl', h => by
    obtain ⟨sl1, _, k2⟩ := Option.bind_eq_some_iff.mp (show (g w sl).bind _ = some sl' from h)
    simp [gAll_len k2]
theorem sg_tup {es : List Expr} {k : Nat} {pos : Pos} {gs : List GD} (hc : X.calm = true) (h : SGs X B es gs) (hn : (assignEach es X.env).length = gs.length := by rfl) (hst : (assignEach es X.env).findIdx? (·.1) = none := by rfl) : SG X B (.Tuple es k pos) (gT gs) :=
  weakG (pg_tup hc h hn hst) fun v sg H Q ⟨e, S, sl, w, sl', rp, rs, rv, h, q⟩ => by
    cases rv with
    | tup a z r => exact ⟨_, _, rfl, .of a, by rw [← r.length]; exact gAll_len h, e, S, sl, _, sl', rp, rs, r, h, q⟩
    | _ => cases h
theorem sg_lst {es : List Expr} {k : Nat} {pos : Pos} {gs : List GD} (hc : X.calm = true) (h : SGs X B es gs) (hn : (assignEach es X.env).length = gs.length := by rfl) (hst : (assignEach es X.env).findIdx? (·.1) = none := by rfl) : SG X B (.Tuple es k pos) (gL gs) :=
  weakG (pg_unl hc h hn hst) fun v sg H Q ⟨e, S, sl, w, sl', rp, rs, rv, h, q⟩ => by
    cases rv with
    | lst f a z r => exact ⟨_, _, rfl, .of a, by rw [← r.length]; exact gAll_len h, e, S, sl, _, sl', rp, rs, r, h, q⟩
    | _ => cases h

inductive Out where
  | nx
  | ret (w : W)
  | bk
  | ct
abbrev SDen := Sl → M (Out × Sl)
def PostS (A : Am) (e : Emb) (nx : Nat) (H : Hp) (o : Out) (sl' : Sl) (S' : Hs) (D : Ends) : Prop :=
  ∀ e' H' sg', Ext A e nx H e' S'.nx H' → Rep A e' S' H' → SlR A e' S'.nx H' sl' sg' → match o with
    | .nx => D.nx sg' H'
    | .ret w => ∀ v, VR A e' S'.nx H' w v → D.rt v H'
    | .bk => D.bk sg' H'
    | .ct => D.ct sg' H'
theorem PostS.ext {e e1 : Emb} {nx n1 : Nat} {H H1 : Hp} {o : Out} {sl : Sl} {S : Hs} {D : Ends} (p : PostS A e nx H o sl S D) (x : Ext A e nx H e1 n1 H1) : PostS A e1 n1 H1 o sl S D :=
  fun e' H' sg' y => p e' H' sg' (x.trans y)
def rdS (A : Am) (Wx : WX) (f : SDen) : TS := fun D sg H => ∃ e S sl, Rep A e S H ∧ SlR A e S.nx H sl sg ∧
  wp (f sl S) (fun r => PostS A e S.nx H r.1.1 r.1.2 r.2 D) (fun c sl' S' => PostX A e S.nx H c sl' S' Wx)
def SS (X : L2.Cx) (B : Bm) (Wx : WX) (st : Stmt) (f : SDen) : Prop := PS X st (rdS (am X B) Wx f)
def SB (X : L2.Cx) (B : Bm) (Wx : WX) (st : List Stmt) (f : SDen) : Prop := PSs X st (rdS (am X B) Wx f)
theorem weakS {st : Stmt} {t u : TS} (h : PS X st t) (w : ∀ D sg H, u D sg H → t D sg H) : PS X st u := ⟨fun pins s sg H D I q => h.run pins s sg H D I (w D sg H q)⟩
theorem weakB {st : List Stmt} {t u : TS} (h : PSs X st t) (w : ∀ D sg H, u D sg H → t D sg H) : PSs X st u := ⟨fun pins s sg H D I q => h.run pins s sg H D I (w D sg H q)⟩
def sPass : SDen := fun sl S => .ok ((.nx, sl), S)
def sSeq (f g : SDen) : SDen := fun sl S => (f sl S).bind fun r => match r.1.1 with
  | .nx => g r.1.2 r.2
  | _ => .ok r
def sBrk : SDen := fun sl S => .ok ((.bk, sl), S)
def sCnt : SDen := fun sl S => .ok ((.ct, sl), S)
def sExpr (f : Den) : SDen := fun sl S => (f sl S).bind fun r => .ok ((.nx, sl), r.2)
def sRet (f : Den) : SDen := fun sl S => (f sl S).bind fun r => .ok ((.ret r.1, sl), r.2)
def sRetN : SDen := fun sl S => .ok ((.ret .non, sl), S)
def sIf (t : DenB) (f g : SDen) : SDen := fun sl S => (t sl S).bind fun r => if r.1 then f sl r.2 else g sl r.2
def sAsg (g : GD) (f : Den) : SDen := fun sl S => (f sl S).bind fun r => match g r.1 sl with
  | some sl' => .ok ((.nx, sl'), r.2)
  | none => .stuck
theorem PostS.nx {e : Emb} {S : Hs} {H : Hp} {sl : Sl} {sg : L2.St} {D : Ends} (p : PostS A e S.nx H .nx sl S D) (rp : Rep A e S H) (rs : SlR A e S.nx H sl sg) : D.nx sg H := p e H sg Ext.refl rp rs
section
variable {st : Stmt} {sts : List Stmt} {f g : SDen} {d : Den} {t : DenB} {a c : Expr} {pos : Pos}
theorem wholeS {sg : L2.St} {H0 H1 : Hp} {e0 e1 : Emb} {n0 : Nat} {S1 : Hs} {sl : Sl} {D : Ends} (x1 : Ext A e0 n0 H0 e1 S1.nx H1) (rp1 : Rep A e1 S1 H1) (rs1 : SlR A e1 S1.nx H1 sl sg)
    (h : wp (f sl S1) (fun r => PostS A e0 n0 H0 r.1.1 r.1.2 r.2 D) (fun c sl' S' => PostX A e0 n0 H0 c sl' S' Wx)) : rdS A Wx f D sg H1 :=
  ⟨e1, S1, sl, rp1, rs1, wp_mono h (fun _ q => q.ext x1) fun _ _ _ q => q.ext x1⟩
theorem sb_nil : SB X B Wx [] sPass := weakB pss_nil fun D sg H ⟨e, S, sl, rp, rs, h⟩ => PostS.nx h rp rs
theorem ss_pass : SS X B Wx (.Pass pos) sPass := weakS ps_pass fun D sg H ⟨e, S, sl, rp, rs, h⟩ => PostS.nx h rp rs
theorem ss_brk : SS X B Wx (.Break pos) sBrk := weakS ps_break fun D sg H ⟨e, S, sl, rp, rs, h⟩ => h e H sg Ext.refl rp rs
theorem ss_cnt : SS X B Wx (.Continue pos) sCnt := weakS ps_continue fun D sg H ⟨e, S, sl, rp, rs, h⟩ => h e H sg Ext.refl rp rs
theorem rd_seq : ∀ D sg H, rdS A Wx (sSeq f g) D sg H → tSeq (rdS A Wx f) (rdS A Wx g) D sg H := fun D sg H ⟨e, S, sl, rp, rs, h⟩ =>
  ⟨e, S, sl, rp, rs, wp_mono (wp_bind.mp h) (fun r q e1 H1 sg1 x1 rp1 rs1 => by
    obtain ⟨⟨o, sl1⟩, S1⟩ := r
    cases o with
    | nx => exact wholeS x1 rp1 rs1 q
    | ret w => exact q e1 H1 sg1 x1 rp1 rs1
    | bk => exact q e1 H1 sg1 x1 rp1 rs1
    | ct => exact q e1 H1 sg1 x1 rp1 rs1) fun _ _ _ q => q⟩
theorem sb_cons (h1 : SS X B Wx st f) (h2 : SB X B Wx sts g) : SB X B Wx (st :: sts) (sSeq f g) := weakB (pss_cons h1 h2) rd_seq
theorem sb_one (h1 : SS X B Wx st f) : SB X B Wx [st] f := pss_one h1
theorem ss_expr (ha : SE X B Wx a d) (hs : swapsWith a none pos.line X.env = pure false := by rfl) : SS X B Wx (.Expr a pos) (sExpr d) :=
  weakS (ps_expr ha hs) fun D sg H ⟨e, S, sl, rp, rs, h⟩ =>
    part (k := fun w S1 => .ok ((Out.nx, sl), S1)) Ext.refl rp rs h fun e1 S1 H1 w v x1 _ rp1 rs1 rv1 h1 => PostS.nx (PostS.ext h1 x1) rp1 rs1
theorem ss_ret (ha : SE X B Wx a d) : SS X B Wx (.Return (some a) pos) (sRet d) :=
  weakS (ps_ret ha) fun D sg H ⟨e, S, sl, rp, rs, h⟩ =>
    part (k := fun w S1 => .ok ((Out.ret w, sl), S1)) Ext.refl rp rs h fun e1 S1 H1 w v x1 _ rp1 rs1 rv1 h1 => h1 e1 H1 sg x1 rp1 rs1 v rv1
theorem ss_retN : SS X B Wx (.Return none pos) sRetN := weakS ps_retN fun D sg H ⟨e, S, sl, rp, rs, h⟩ => h e H sg Ext.refl rp rs _ .non
theorem ss_if {p q : List Stmt} (hc : ST X B Wx c t) (ha : SB X B Wx p f) (hb : SB X B Wx q g) : SS X B Wx (.If c p q pos) (sIf t f g) :=
  weakS (ps_if hc ha hb) fun D sg H ⟨e, S, sl, rp, rs, h⟩ =>
    partB (k := fun b S1 => if b then f sl S1 else g sl S1) Ext.refl rp rs h fun e1 S1 H1 b x1 _ rp1 rs1 h1 => by
      cases b with
      | true => rw [if_pos rfl] at h1 ⊢; exact wholeS x1 rp1 rs1 h1
      | false => rw [if_neg Bool.false_ne_true] at h1 ⊢; exact wholeS x1 rp1 rs1 h1
theorem rd_asg {g : GD} : ∀ D sg H, rdS A Wx (sAsg g d) D sg H → tAsg (rdE A Wx d) (rdG A g) D sg H := fun D sg H ⟨e, S, sl, rp, rs, h⟩ =>
  part (k := fun w S1 => match g w sl with
    | some sl' => .ok ((Out.nx, sl'), S1)
    | none => .stuck) Ext.refl rp rs h fun e1 S1 H1 w v x1 _ rp1 rs1 rv1 h1 => by
      cases q : g w sl with
      | none => simp only [q] at h1; exact (show False from h1).elim
      | some sl' =>
        simp only [q] at h1
        exact ⟨e1, S1, sl, w, sl', rp1, rs1, rv1, q, fun sg' rs' => PostS.nx (PostS.ext h1 x1) rp1 rs'⟩
theorem ss_asg {tg : Expr} {g : GD} (ha : SE X B Wx a d) (hg : SG X B tg g) (hs : swapsWithSole [tg] a pos.line X.env = pure false := by rfl) (hw : swappedStores [tg] a X.env = pure none := by rfl) (h1 : (assignEach [tg] X.env).map (·.2) = [assign tg X.env] := by rfl) : SS X B Wx (.Assign [tg] a pos) (sAsg g d) :=
  weakS (ps_asg ha hg hs hw h1) rd_asg
theorem ss_set {i : Nat} {x : Str} {p2 : Pos} (hN : X.N.Nodup) (hi : X.N[i]? = some x) (hx : Loc X.env.scope x) (ha : SE X B Wx a d) (hs : swapsWith a (some (.Name x p2)) pos.line X.env = pure false := by rfl) (hf : X.fn x = true ∨ X.env.scope.names.lookup x = some .local := by first | exact .inl rfl | exact .inr rfl | assumption) :
    SS X B Wx (.Assign [.Name x p2] a pos) (sAsg (gN i) d) :=
  weakS (ps_set hN hi hx ha hs hf) fun D sg H ⟨e, S, sl, rp, rs, h⟩ =>
    part (k := fun w S1 => .ok ((Out.nx, sl.set i (some w)), S1)) Ext.refl rp rs h fun e1 S1 H1 w v x1 _ rp1 rs1 rv1 h1 => PostS.nx (PostS.ext h1 x1) rp1 (rs1.set rv1 i)
end
def sWhile : Nat → DenB → SDen → SDen
  | 0, _, _ => fun _ _ => .stuck
  | n + 1, t, b => fun sl S => (t sl S).bind fun r => if r.1 then (b sl r.2).bind fun q => (match q.1.1 with
    | .nx => sWhile n t b q.1.2 q.2
    | .ct => sWhile n t b q.1.2 q.2
    | .bk => .ok ((.nx, q.1.2), q.2)
    | .ret w => .ok ((.ret w, q.1.2), q.2)) else .ok ((.nx, sl), r.2)
theorem rd_while {n : Nat} {t : DenB} {b : SDen} : ∀ D sg H, rdS A Wx (sWhile n t b) D sg H → tWhile (rdT A Wx t) (rdS A Wx b) D sg H := fun D sg H ⟨e, S, sl, rp, rs, h⟩ => by
  refine ⟨fun m sg1 H1 => ∃ e1 S1 sl1, Ext A e S.nx H e1 S1.nx H1 ∧ Rep A e1 S1 H1 ∧ SlR A e1 S1.nx H1 sl1 sg1 ∧ wp (sWhile m t b sl1 S1) (fun r => PostS A e S.nx H r.1.1 r.1.2 r.2 D) (fun c sl' S' => PostX A e S.nx H c sl' S' Wx),
    ⟨n, e, S, sl, Ext.refl, rp, rs, h⟩, fun m sg1 H1 ⟨e1, S1, sl1, x1, rp1, rs1, h1⟩ => ?_⟩
  cases m with
  | zero => exact (show False from h1).elim
  | succ m =>
    refine partB (k := fun c S2 => if c then (b sl1 S2).bind fun q => (match q.1.1 with
      | .nx => sWhile m t b q.1.2 q.2
      | .ct => sWhile m t b q.1.2 q.2
      | .bk => .ok ((.nx, q.1.2), q.2)
      | .ret w => .ok ((.ret w, q.1.2), q.2)) else .ok ((.nx, sl1), S2)) x1 rp1 rs1 h1 fun e2 S2 H2 c x2 _ rp2 rs2 h2 => ?_
    cases c with
    | false =>
      rw [if_neg Bool.false_ne_true] at h2 ⊢
      exact PostS.nx (PostS.ext h2 x2) rp2 rs2
    | true =>
      rw [if_pos rfl] at h2 ⊢
      refine ⟨fun sg3 H3 => ∃ e3 S3 sl3, Ext A e S.nx H e3 S3.nx H3 ∧ Rep A e3 S3 H3 ∧ SlR A e3 S3.nx H3 sl3 sg3 ∧ wp (sWhile m t b sl3 S3) (fun r => PostS A e S.nx H r.1.1 r.1.2 r.2 D) (fun c sl' S' => PostX A e S.nx H c sl' S' Wx),
        fun sg3 H3 q => ⟨m, Nat.lt_succ_self m, q⟩, e2, S2, sl1, rp2, rs2, wp_mono (wp_bind.mp h2) (fun r q e3 H3 sg3 x3 rp3 rs3 => ?_) fun _ _ _ q => q.ext x2⟩
      obtain ⟨⟨o, sl3⟩, S3⟩ := r
      cases o with
      | nx => exact ⟨e3, S3, sl3, x2.trans x3, rp3, rs3, q⟩
      | ct => exact ⟨e3, S3, sl3, x2.trans x3, rp3, rs3, q⟩
      | bk => exact PostS.nx (PostS.ext q (x2.trans x3)) rp3 rs3
      | ret w => exact q e3 H3 sg3 (x2.trans x3) rp3 rs3
theorem ss_while (n : Nat) {c : Expr} {body : List Stmt} {pos : Pos} {t : DenB} {b : SDen} (hp : PassesOwn (model X.prog X.w) X.A X.env X.xe) (hc : ST X B Wx c t) (hb : SB X B Wx body b) : SS X B Wx (.While c body [] pos) (sWhile n t b) := weakS (ps_while hp hc hb) rd_while
end HQ
namespace HQ
open PySem PySem.Spec PyProof.Rows L2
variable {X : L2.Cx} {B : Bm} {Wx : WX} {A : Am}

inductive Tg where
  | nm (i : Nat)
  | tp (ts : List Tg)
mutual
def Tg.gd : Tg → GD
  | .nm i => gN i
  | .tp ts => fun w sl => match w with
    | .tup ws => Tg.gds ts ws sl
    | _ => none
def Tg.gds : List Tg → List W → Sl → Option Sl
  | [], [], sl => some sl
  | t :: ts, w :: ws, sl => (Tg.gd t w sl).bind fun sl' => Tg.gds ts ws sl'
  | _, _, _ => none
end
mutual
def Tg.tg (K : PySem.W.Frag) : Tg → TG
  | .nm i => gName i
  | .tp ts => gTup K ts.length (Tg.tgs K ts)
def Tg.tgs (K : PySem.W.Frag) : List Tg → TGs
  | [] => gNil
  | t :: ts => gCons (Tg.tg K t) (Tg.tgs K ts)
end
mutual
def Tg.ns : Tg → List Nat
  | .nm i => [i]
  | .tp ts => Tg.nss ts
def Tg.nss : List Tg → List Nat
  | [] => []
  | t :: ts => Tg.ns t ++ Tg.nss ts
end
theorem wipe_set {sg : L2.St} {i : Nat} {o : Option V} : ∀ {own : List Nat}, i ∈ own → wipe (sg.set i o) own = wipe sg own
  | [], h => by cases h
  | j :: own, h => by
    unfold wipe
    by_cases hj : i ∈ own
    · rw [wipe_set hj]
    · have e : i = j := by
        rcases List.mem_cons.mp h with e | e
        · exact e
        · exact absurd e hj
      subst e
      have : wipe (sg.set i o) own = (wipe sg own).set i o := by
        clear h
        induction own with
        | nil => rfl
        | cons k own ih =>
          unfold wipe
          have hk : i ≠ k := fun z => hj (by rw [z]; exact List.mem_cons_self)
          have hk' : i ∉ own := fun z => hj (List.mem_cons_of_mem _ z)
          rw [ih hk', List.set_comm _ _ hk]
      rw [this, List.set_set]
theorem gds_len : ∀ {ts : List Tg} {ws : List W} {sl sl' : Sl}, Tg.gds ts ws sl = some sl' → ws.length = ts.length
  | [], [], _, _, _ => rfl
  | [], _ :: _, _, _, h => by simp [Tg.gds] at h
  | _ :: _, [], _, _, h => by simp [Tg.gds] at h
  | t :: ts, w :: ws, sl, sl', h => by
    simp only [Tg.gds] at h
    obtain ⟨sl1, _, k2⟩ := Option.bind_eq_some_iff.mp h
    simp [gds_len k2]
mutual
theorem tg_ok {e : Emb} {nx : Nat} {H : Hp} : ∀ (t : Tg) {w : W} {x : V} {sl sl' : Sl} {sg : L2.St} {Q : L2.St → Hp → Prop}, SlR A e nx H sl sg → VR A e nx H w x → t.gd w sl = some sl' →
    (∀ sg', SlR A e nx H sl' sg' → (∀ own, (∀ i ∈ t.ns, i ∈ own) → wipe sg' own = wipe sg own) → Q sg' H) → t.tg A.K x sg H Q
  | .nm i, w, x, sl, sl', sg, Q, rs, rv, h, q => by
    simp only [Tg.gd, gN] at h
    cases h
    simp only [Tg.tg]
    exact q _ (rs.set rv i) fun own ho => wipe_set (ho i (by simp [Tg.ns]))
  | .tp ts, w, x, sl, sl', sg, Q, rs, rv, h, q => by
    simp only [Tg.tg]
    cases rv with
    | tup a z r =>
      simp only [Tg.gd] at h
      obtain ⟨hl, hq⟩ := tgs_ok ts rs r h (fun sg' rs' ho => q sg' rs' fun own hh => ho own (by simpa [Tg.ns] using hh))
      exact ⟨_, _, rfl, .of a, hl, hq⟩
    | _ => simp only [Tg.gd] at h; cases h
theorem tgs_ok {e : Emb} {nx : Nat} {H : Hp} : ∀ (ts : List Tg) {ws : List W} {xs : List V} {sl sl' : Sl} {sg : L2.St} {Q : L2.St → Hp → Prop}, SlR A e nx H sl sg → VRs A e nx H ws xs → Tg.gds ts ws sl = some sl' →
    (∀ sg', SlR A e nx H sl' sg' → (∀ own, (∀ i ∈ Tg.nss ts, i ∈ own) → wipe sg' own = wipe sg own) → Q sg' H) → xs.length = ts.length ∧ Tg.tgs A.K ts xs sg H Q
  | [], _, _, sl, sl', sg, Q, rs, .nil, h, q => by
    simp only [Tg.gds] at h
    cases h
    exact ⟨rfl, by simp only [Tg.tgs]; exact ⟨rfl, q sg rs fun _ _ => rfl⟩⟩
  | [], _, _, sl, sl', sg, Q, rs, .cons _ _, h, q => by simp [Tg.gds] at h
  | t :: ts, _, _, sl, sl', sg, Q, rs, .nil, h, q => by simp [Tg.gds] at h
  | t :: ts, _, _, sl, sl', sg, Q, rs, .cons (w := w) (v := v) (ws := ws) (vs := vs) a r, h, q => by
    simp only [Tg.gds] at h
    obtain ⟨sl1, k1, k2⟩ := Option.bind_eq_some_iff.mp h
    have key : ∀ sg1, SlR A e nx H sl1 sg1 → (∀ own, (∀ i ∈ t.ns, i ∈ own) → wipe sg1 own = wipe sg own) → vs.length = ts.length ∧ Tg.tgs A.K ts vs sg1 H Q := fun sg1 rs1 ho =>
      tgs_ok ts rs1 r k2 fun sg' rs' ho' => q sg' rs' fun own hh => by
        rw [ho' own fun i hi => hh i (by simp [Tg.nss, hi]), ho own fun i hi => hh i (by simp [Tg.nss, hi])]
    have len : vs.length = ts.length := by rw [← r.length]; exact gds_len k2
    refine ⟨by simp [len], ?_⟩
    simp only [Tg.tgs]
    exact ⟨v, vs, rfl, tg_ok t rs a k1 fun sg1 rs1 ho => (key sg1 rs1 ho).2⟩
end
def STg (X : L2.Cx) (t : Expr) (g : Tg) : Prop := PG X t (g.tg X.K)
def STgs (X : L2.Cx) (t : List Expr) (g : List Tg) : Prop := PGs X t (Tg.tgs X.K g)
theorem stg_name {i : Nat} {x : Str} {pos : Pos} (hN : X.N.Nodup) (hi : X.N[i]? = some x) (hx : Loc X.env.scope x) (hf : X.fn x = true ∨ X.env.scope.names.lookup x = some .local := by first | exact .inl rfl | exact .inr rfl | assumption) : STg X (.Name x pos) (.nm i) :=
  weakG (pg_name hN hi hx hf) fun v sg H Q h => by simpa only [Tg.tg] using h
theorem stgs_nil : STgs X [] [] := weakGs pgs_nil fun v sg H Q h => by simpa only [Tg.tgs] using h
theorem stgs_cons {t : Expr} {ts : List Expr} {g : Tg} {gs : List Tg} (h1 : STg X t g) (h2 : STgs X ts gs) (hs : (assignEach (t :: ts) X.env).map (·.2) = assign t X.env :: (assignEach ts X.env).map (·.2) := by rfl) : STgs X (t :: ts) (g :: gs) :=
  weakGs (pgs_cons h1 h2 hs) fun v sg H Q h => by simpa only [Tg.tgs] using h
theorem stg_tup {es : List Expr} {k : Nat} {pos : Pos} {gs : List Tg} (hc : X.calm = true) (h : STgs X es gs) (hn : (assignEach es X.env).length = gs.length := by rfl) (hst : (assignEach es X.env).findIdx? (·.1) = none := by rfl) : STg X (.Tuple es k pos) (.tp gs) :=
  weakG (pg_tup hc h hn hst) fun v sg H Q h => by simpa only [Tg.tg] using h
/-- as a target of an assignment -/
theorem STg.sg {t : Expr} {g : Tg} (h : STg X t g) : SG X B t g.gd := weakG h fun v sg H Q ⟨e, S, sl, w, sl', rp, rs, rv, k, q⟩ => tg_ok (A := am X B) g rs rv k fun sg' rs' _ => q sg' rs'

structure Walks (A : Am) (ws : List W) (e : Emb) (nx : Nat) (H : Hp) (J : It) : Prop where
  len : ws.length ≤ sizeLine
  go : ∀ e1 S1 H1, Ext A e nx H e1 S1.nx H1 → Rep A e1 S1 H1 → ∀ i w, ws[i]? = some w → J.go i H1 ∧ ∀ x H2, J.yld i H1 x H2 → ∃ e2, Ext A e1 S1.nx H1 e2 S1.nx H2 ∧ Rep A e2 S1 H2 ∧ VR A e2 S1.nx H2 w x
  stop : ∀ (e1 : Emb) (S1 : Hs) H1, Ext A e nx H e1 S1.nx H1 → Rep A e1 S1 H1 → J.stop ws.length H1
abbrev DenI := Sl → M (List W)
def rdI (A : Am) (Wx : WX) (f : DenI) : TI := fun sg H R => ∃ e S sl, Rep A e S H ∧ SlR A e S.nx H sl sg ∧
  wp (f sl S) (fun r => ∀ e' H' J, Ext A e S.nx H e' r.2.nx H' → Rep A e' r.2 H' → Walks A r.1 e' r.2.nx H' J → R J H') (fun c sl' S' => PostX A e S.nx H c sl' S' Wx)
def SI (X : L2.Cx) (B : Bm) (Wx : WX) (tg iter : Expr) (f : DenI) : Prop := PI X tg iter (rdI (am X B) Wx f)
theorem weakI {tg iter : Expr} {t u : TI} (h : PI X tg iter t) (w : ∀ sg H R, u sg H R → t sg H R) : PI X tg iter u := ⟨fun pins s sg H R I q => h.run pins s sg H R I (w sg H R q)⟩
theorem partI {f : DenI} {α : Type} {k : List W → M α} {sg : L2.St} {H0 H : Hp} {e0 e : Emb} {n0 : Nat} {S : Hs} {sl : Sl} {Qr : α × Hs → Prop} {R : It → Hp → Prop}
    (x0 : Ext A e0 n0 H0 e S.nx H) (rp : Rep A e S H) (rs : SlR A e S.nx H sl sg) (h : wp ((f sl S).bind fun r => k r.1 r.2) Qr (fun c sl' S' => PostX A e0 n0 H0 c sl' S' Wx))
    (next : ∀ e1 S1 H1 ws J, Ext A e0 n0 H0 e1 S1.nx H1 → Ext A e S.nx H e1 S1.nx H1 → Rep A e1 S1 H1 → SlR A e1 S1.nx H1 sl sg → Walks A ws e1 S1.nx H1 J →
      wp (k ws S1) Qr (fun c sl' S' => PostX A e0 n0 H0 c sl' S' Wx) → R J H1) : rdI A Wx f sg H R :=
  ⟨e, S, sl, rp, rs, wp_mono (wp_bind.mp h) (fun r q e1 H1 J x rp1 wk => next e1 r.2 H1 r.1 J (x0.trans x) x rp1 (rs.ext x) wk q) fun _ _ _ q => q.ext x0⟩

/-- a frozen list or a tuple -/
def wSeq : W → Option (List W)
  | .lst ws => some ws
  | .tup ws => some ws
  | _ => none
def iSeq (f : Den) : DenI := fun sl S => (f sl S).bind fun r => match wSeq r.1 with
  | some ws => .ok (ws, r.2)
  | none => .stuck
theorem walks_lst {e : Emb} {nx : Nat} {H : Hp} {ws : List W} {a : Addr} {xs : List V} (f : e.fz a) (h : H a = some (.lst xs)) (z : xs.length ≤ sizeLine) (r : VRs A e nx H ws xs) : Walks A ws e nx H (Itl A.K a) where
  len := by rw [r.length]; exact z
  go := fun e1 S1 H1 x rp i w hw => by
    obtain ⟨v, h1, h2⟩ := r.get hw
    have g : SqL A.K H1 a xs := .of (by rw [x.keep a f]; exact h)
    exact ⟨⟨xs, v, g, h1⟩, fun y H2 ⟨e2, q⟩ => by
      subst e2
      have : v = y := Option.some.inj (h1.symm.trans (q xs g))
      subst this
      exact ⟨e1, Ext.refl, rp, h2.ext x⟩⟩
  stop := fun e1 S1 H1 x rp => ⟨xs, .of (by rw [x.keep a f]; exact h), by rw [r.length]; exact Nat.le_refl _⟩
theorem walks_tup {e : Emb} {nx : Nat} {H : Hp} {ws : List W} {a : Addr} {xs : List V} (h : H a = some (.tup xs)) (z : xs.length ≤ sizeLine) (r : VRs A e nx H ws xs) : Walks A ws e nx H (Itt A.K a) where
  len := by rw [r.length]; exact z
  go := fun e1 S1 H1 x rp i w hw => by
    obtain ⟨v, h1, h2⟩ := r.get hw
    have g : SqT A.K H1 a xs := .of (x.tup a xs h)
    exact ⟨⟨xs, v, g, h1⟩, fun y H2 ⟨e2, q⟩ => by
      subst e2
      have : v = y := Option.some.inj (h1.symm.trans (q xs g))
      subst this
      exact ⟨e1, Ext.refl, rp, h2.ext x⟩⟩
  stop := fun e1 S1 H1 x rp => ⟨xs, .of (x.tup a xs h), by rw [r.length]; exact Nat.le_refl _⟩
/-- a list or a tuple, by what it is -/
def iSq (K : PySem.W.Frag) (tl : TE) : TI := fun sg H R => tl sg H fun x H1 => ∃ a, x = .ref a ∧ ((∃ xs, SqL K H1 a xs) ∧ R (Itl K a) H1 ∨ (∃ xs, SqT K H1 a xs) ∧ R (Itt K a) H1)
theorem pi_sq {tg l : Expr} {tl : TE} (hl : PE X l tl) : PI X tg l (iSq X.K tl) := by
  refine ⟨fun pins s sg H R I h => ?_⟩
  refine thn (hl.run pins s sg H _ I h) fun v s1 ⟨x, H1, I1, r1, q1⟩ => ?_
  obtain ⟨a, rfl, ⟨⟨xs, hq⟩, q⟩ | ⟨⟨xs, hq⟩, q⟩⟩ := q1
  · cases r1
    obtain ⟨its, rv, p, hz⟩ := I1.list hq
    exact wpAny_pyIter_list p.isList ⟨s1.heap.objs.size, [s1.heap.objs.size], _, _, H1, rfl, I1.kept (t' := s1.toks) fun b o e => Heap.get?_push_of_some _ e, turn_list a _, ⟨_, Heap.get?_push_size _ rfl, rfl, rfl⟩,
      fun b hb => by rw [List.mem_singleton.mp hb]; exact I1.fpOk (Nat.le_refl _) (I1.hok.fresh (Nat.le_refl _)), q⟩
  · cases r1
    obtain ⟨its, rv, p, hz⟩ := I1.tuple hq
    exact wpAny_pyIter_tuple (show s1.heap.IsTuple a its.toArray from p) ⟨s1.heap.objs.size, [s1.heap.objs.size], _, _, H1, rfl, I1.kept (t' := s1.toks) fun b o e => Heap.get?_push_of_some _ e, turn_tuple a _, ⟨_, Heap.get?_push_size _ rfl, rfl, rfl⟩,
      fun b hb => by rw [List.mem_singleton.mp hb]; exact I1.fpOk (Nat.le_refl _) (I1.hok.fresh (Nat.le_refl _)), q⟩
theorem si_seq {tg l : Expr} {f : Den} (ha : SE X B Wx l f) : SI X B Wx tg l (iSeq f) :=
  weakI (pi_sq ha) fun sg H R ⟨e, S, sl, rp, rs, h⟩ =>
    part (k := fun w S1 => match wSeq w with
      | some ws => .ok (ws, S1)
      | none => .stuck) Ext.refl rp rs h fun e1 S1 H1 w v x1 _ rp1 rs1 rv1 h1 => by
      cases rv1 with
      | tup a z r => exact ⟨_, rfl, .inr ⟨⟨_, .of a⟩, h1 e1 H1 _ x1 rp1 (walks_tup a z r)⟩⟩
      | lst f a z r => exact ⟨_, rfl, .inl ⟨⟨_, .of a⟩, h1 e1 H1 _ x1 rp1 (walks_lst f a z r)⟩⟩
      | _ => exact (show False from h1).elim
/-- range -/
def rgW (lo : Int) (n : Nat) : List W := (List.range n).map fun i => W.int (lo + (i : Nat))
theorem walks_rg {e : Emb} {nx : Nat} {H : Hp} {lo : Int} {n : Nat} (z : n ≤ 16777216) : Walks A (rgW lo n) e nx H (Itr lo n) where
  len := by rw [sizeL]; simpa [rgW] using z
  go := fun e1 S1 H1 x rp i w hw => by
    have hi : i < n := by
      have := (List.getElem?_eq_some_iff.mp hw).1
      simpa [rgW] using this
    have ew : w = .int (lo + (i : Nat)) := by
      simp [rgW, hi] at hw
      exact hw.symm
    exact ⟨hi, fun y H2 ⟨e2, q⟩ => by subst e2; subst q; subst ew; exact ⟨e1, Ext.refl, rp, .int _⟩⟩
  stop := fun e1 S1 H1 x rp => by show n ≤ (rgW lo n).length; simp [rgW]
def pRg : List W → Option (Int × Nat)
  | [.int n] => if n ≤ 16777216 ∧ -(2 ^ 62) ≤ n then some (0, n.toNat) else none
  | [.int a, .int b] => if -(2 ^ 60) ≤ a ∧ a ≤ 2 ^ 60 ∧ -(2 ^ 60) ≤ b ∧ b ≤ 2 ^ 60 ∧ (b - a).toNat ≤ 16777216 then some (a, (b - a).toNat) else none
  | _ => none
def iRg (ds : List Den) : DenI := fun sl S => (evs ds sl S).bind fun r => match pRg r.1 with
  | some q => .ok (rgW q.1 q.2, r.2)
  | none => .stuck
section
variable {tg a b : Expr} {p pos : Pos} {f g : Den}
theorem si_rg1 (hg : Gl X "range") (hm : X.mg "range" = none) (ha : SE X B Wx a f) (hs : starEach [a] X.env = [(false, eval a X.env)] := by rfl) : SI X B Wx tg (.Call (.Name "range" p) [a] [] pos) (iRg [f]) :=
  weakI (pi_range1 hg hm (sa_cons ha sa_nil hs) hs) fun sg H R ⟨e, S, sl, rp, rs, h⟩ =>
    partA (ds := [f]) (k := fun ws S1 => match pRg ws with
      | some q => .ok (rgW q.1 q.2, S1)
      | none => .stuck) Ext.refl rp rs h fun e1 S1 H1 ws vs l x1 _ rp1 rs1 rv1 h1 => by
      match ws, l with
      | [w], _ =>
        obtain ⟨v, rfl, r1⟩ := rv1.one
        cases w with
        | int n =>
          cases r1
          by_cases hn : n ≤ 16777216 ∧ -(2 ^ 62) ≤ n
          · have e0 : pRg [.int n] = some (0, n.toNat) := if_pos hn
            simp only [e0] at h1
            exact ⟨n, rfl, hn.2, by omega, h1 e1 H1 _ x1 rp1 (walks_rg (by omega))⟩
          · have e0 : pRg [.int n] = none := if_neg hn
            simp only [e0] at h1
            exact (show False from h1).elim
        | _ => exact (show False from h1).elim
theorem si_rg2 (hg : Gl X "range") (hm : X.mg "range" = none) (ha : SE X B Wx a f) (hb : SE X B Wx b g) (hs : starEach [a, b] X.env = [(false, eval a X.env), (false, eval b X.env)] := by rfl) (hs2 : starEach [b] X.env = [(false, eval b X.env)] := by rfl) : SI X B Wx tg (.Call (.Name "range" p) [a, b] [] pos) (iRg [f, g]) :=
  weakI (pi_range2 hg hm (sa_cons ha (sa_cons hb sa_nil hs2) (by rw [hs, hs2])) hs hs2) fun sg H R ⟨e, S, sl, rp, rs, h⟩ =>
    partA (ds := [f, g]) (k := fun ws S1 => match pRg ws with
      | some q => .ok (rgW q.1 q.2, S1)
      | none => .stuck) Ext.refl rp rs h fun e1 S1 H1 ws vs l x1 _ rp1 rs1 rv1 h1 => by
      match ws, l with
      | [w, u], _ =>
        obtain ⟨v, x, rfl, r1, r2⟩ := rv1.two
        cases w with
        | int n =>
          cases u with
          | int m =>
            cases r1; cases r2
            by_cases hn : -(2 ^ 60) ≤ n ∧ n ≤ 2 ^ 60 ∧ -(2 ^ 60) ≤ m ∧ m ≤ 2 ^ 60 ∧ (m - n).toNat ≤ 16777216
            · have e0 : pRg [.int n, .int m] = some (n, (m - n).toNat) := if_pos hn
              simp only [e0] at h1
              exact ⟨n, m, rfl, ⟨by omega, by omega, by omega, by omega⟩, h1 e1 H1 _ x1 rp1 (walks_rg hn.2.2.2.2)⟩
            · have e0 : pRg [.int n, .int m] = none := if_neg hn
              simp only [e0] at h1
              exact (show False from h1).elim
          | _ => exact (show False from h1).elim
        | _ => exact (show False from h1).elim
end

def sForL (g : GD) (b : SDen) : List W → SDen
  | [] => sPass
  | w :: r => fun sl S => match g w sl with
    | some sl1 => (b sl1 S).bind fun q => (match q.1.1 with
      | .nx => sForL g b r q.1.2 q.2
      | .ct => sForL g b r q.1.2 q.2
      | .bk => .ok ((.nx, q.1.2), q.2)
      | .ret w => .ok ((.ret w, q.1.2), q.2))
    | none => .stuck
def sFor (it : DenI) (g : Tg) (b : SDen) : SDen := fun sl S => (it sl S).bind fun r => sForL g.gd b r.1 sl r.2
theorem rd_for {it : DenI} {g : Tg} {b : SDen} : ∀ D sg H, rdS A Wx (sFor it g b) D sg H → tFor (rdI A Wx it) (g.tg A.K) (rdS A Wx b) D sg H := fun D sg H ⟨e, S, sl, rp, rs, h⟩ =>
  partI (k := fun ws S1 => sForL g.gd b ws sl S1) Ext.refl rp rs h fun e1 S1 H1 ws J x1 _ rp1 rs1 wk h1 => by
    refine ⟨fun i m sg2 H2 => i + m = ws.length ∧ ∃ e2 S2 sl2, Ext A e S.nx H e2 S2.nx H2 ∧ Ext A e1 S1.nx H1 e2 S2.nx H2 ∧ Rep A e2 S2 H2 ∧ SlR A e2 S2.nx H2 sl2 sg2 ∧
      wp (sForL g.gd b (ws.drop i) sl2 S2) (fun r => PostS A e S.nx H r.1.1 r.1.2 r.2 D) (fun c sl' S' => PostX A e S.nx H c sl' S' Wx), ⟨ws.length, by simp, e1, S1, sl, x1, Ext.refl, rp1, rs1, h1⟩, ?_⟩
    rintro i m sg2 H2 ⟨im, e2, S2, sl2, x2, y2, rp2, rs2, h2⟩
    cases m with
    | zero =>
      have hi : i = ws.length := by omega
      subst hi
      rw [List.drop_length] at h2
      exact .inl ⟨wk.stop e2 S2 H2 y2 rp2, PostS.nx (PostS.ext h2 x2) rp2 rs2⟩
    | succ m =>
      have hi : i < ws.length := by omega
      obtain ⟨g1, g2⟩ := wk.go e2 S2 H2 y2 rp2 i ws[i] (List.getElem?_eq_getElem hi)
      rw [List.drop_eq_getElem_cons hi] at h2
      refine .inr ⟨g1, fun sg3 H3 => i + 1 + m = ws.length ∧ ∃ e3 S3 sl3, Ext A e S.nx H e3 S3.nx H3 ∧ Ext A e1 S1.nx H1 e3 S3.nx H3 ∧ Rep A e3 S3 H3 ∧ SlR A e3 S3.nx H3 sl3 sg3 ∧
        wp (sForL g.gd b (ws.drop (i + 1)) sl3 S3) (fun r => PostS A e S.nx H r.1.1 r.1.2 r.2 D) (fun c sl' S' => PostX A e S.nx H c sl' S' Wx), fun sg3 H3 q => ⟨m, Nat.lt_succ_self m, q⟩, fun x H3 hy => ?_⟩
      obtain ⟨e3, x3, rp3, rv3⟩ := g2 x H3 hy
      cases hg : g.gd ws[i] sl2 with
      | none => unfold sForL at h2; simp only [hg] at h2; exact (show False from h2).elim
      | some sl3 =>
        unfold sForL at h2
        simp only [hg] at h2
        refine tg_ok g (rs2.ext x3) rv3 hg fun sg4 rs4 _ => ?_
        refine ⟨e3, S2, sl3, rp3, rs4, wp_mono (wp_bind.mp h2) (fun r q e5 H5 sg5 x5 rp5 rs5 => ?_) fun _ _ _ q => q.ext (x2.trans x3)⟩
        obtain ⟨⟨o, sl5⟩, S5⟩ := r
        cases o with
        | nx => exact ⟨by omega, e5, S5, sl5, (x2.trans x3).trans x5, (y2.trans x3).trans x5, rp5, rs5, q⟩
        | ct => exact ⟨by omega, e5, S5, sl5, (x2.trans x3).trans x5, (y2.trans x3).trans x5, rp5, rs5, q⟩
        | bk => exact PostS.nx (PostS.ext q ((x2.trans x3).trans x5)) rp5 rs5
        | ret w => exact q e5 H5 sg5 ((x2.trans x3).trans x5) rp5 rs5
theorem ss_for {tg iter : Expr} {body : List Stmt} {pos : Pos} {it : DenI} {g : Tg} {b : SDen} (hp : PassesOwn (model X.prog X.w) X.A X.env X.xe) (hc : X.calm = true) (hi : SI X B Wx tg iter it) (hg : STg X tg g) (hb : SB X B Wx body b)
    (hf : ∀ x, foldedSetIterable iter X.env x = pure x := by intro _; rfl) : SS X B Wx (.For tg iter body [] pos) (sFor it g b) := weakS (ps_for hp hc hi hg hb hf) rd_for
end HQ
namespace HQ
open PySem PySem.Spec PyProof.Rows L2
variable {X : L2.Cx} {B : Bm} {Wx : WX} {A : Am}

abbrev Emb.hide (e : Emb) (p : Addr) : Emb := ⟨e.rho, e.fz, fun a => e.hd a ∨ a = p⟩
abbrev Emb.show_ (e : Emb) (p : Addr) : Emb := ⟨e.rho, fun a => e.fz a ∨ a = p, fun a => e.hd a ∧ a ≠ p⟩
theorem Rep.hide {e : Emb} {S : Hs} {H : Hp} {p : Addr} {o : HO} (rp : Rep A e S H) (n : H p = none) : Rep A (e.hide p) S (upd H p o) := by
  have r1 := Rep.new (o := o) rp n e.fz (fun _ h => h) fun _ h => .inl h
  have np1 : A.pi ≠ p := by obtain ⟨a, r, q, _⟩ := rp.pen.pen; exact ne_of_none q n
  have np2 : A.ga ≠ p := by obtain ⟨a, q, _⟩ := rp.pen.cells; exact ne_of_none q n
  have x : ExV A e S.nx (upd H p o) (e.hide p) S.nx (upd H p o) := ⟨Nat.le_refl _, fun _ _ => rfl, fun _ h => h, fun _ _ => rfl, fun _ _ h => h⟩
  refine ⟨fun i ob h => ?_, r1.inj, r1.fzh, fun a h => ?_, fun a h q => ?_, ⟨r1.fzp.1, fun h => ?_, fun h => ?_⟩, r1.pen⟩
  · obtain ⟨h1, ⟨h2, h2'⟩, h3, h4, ho, h5, h6⟩ := r1.ob i ob h
    refine ⟨h1, ⟨h2, fun z => ?_⟩, h3, h4, ho, h5, h6.extV x⟩
    rcases z with z | z
    · exact h2' z
    · obtain ⟨_, _, _, _, hu, k5, _⟩ := rp.ob i ob h
      exact absurd z (ne_of_none k5 n)
  · rcases h with h | h
    · exact r1.hdh a h
    · exact ⟨o, by rw [h]; exact upd_same⟩
  · rcases h with h | h
    · exact r1.hdf a h q
    · obtain ⟨u, g⟩ := rp.fzh a q
      exact absurd h (ne_of_none g n)
  · rcases h with h | h
    · exact r1.fzp.2.1 h
    · exact np1 h
  · rcases h with h | h
    · exact r1.fzp.2.2 h
    · exact np2 h
theorem Ext.hide {e : Emb} {S : Hs} {H : Hp} {p : Addr} {o : HO} (rp : Rep A e S H) (n : H p = none) : Ext A e S.nx H (e.hide p) S.nx (upd H p o) :=
  have x := Ext.new (o := o) rp n e.fz fun _ h => h
  ⟨⟨x.nle, x.rho, x.fz, x.keep, x.tup⟩, fun a h => .inl h, x.kh⟩
/-- a hidden list grows: nobody sees it -/
theorem ExV.hput {e : Emb} {S : Hs} {H : Hp} {p : Addr} {xs : List V} {o : HO} (rp : Rep A e S H) (hp : e.hd p) (h : H p = some (.lst xs)) : ExV A e S.nx H e S.nx (upd H p o) :=
  ⟨Nat.le_refl _, fun _ _ => rfl, fun _ h => h, fun a q => upd_ne fun z => rp.hdf p hp (z ▸ q), fun a ys q => by
    have : a ≠ p := fun z => by rw [z, h] at q; cases q
    rw [upd_ne this]; exact q⟩
theorem Rep.hput {e : Emb} {S : Hs} {H : Hp} {p : Addr} {xs : List V} {o : HO} (rp : Rep A e S H) (hp : e.hd p) (h : H p = some (.lst xs)) : Rep A e S (upd H p o) := by
  have x := ExV.hput (o := o) rp hp h
  refine ⟨fun i ob q => ?_, rp.inj, fun a q => ?_, fun a q => ?_, rp.hdf, rp.fzp, ⟨rp.pen.ne, ?_, ?_⟩⟩
  · obtain ⟨h1, h2, h3, h4, ho, h5, h6⟩ := rp.ob i ob q
    have ne : e.rho i ≠ p := fun z => h2.2 (by rw [z]; exact hp)
    exact ⟨h1, h2, h3, h4, ho, by rw [upd_ne ne]; exact h5, h6.extV x⟩
  · obtain ⟨u, g⟩ := rp.fzh a q
    exact ⟨u, by rw [x.keep a q]; exact g⟩
  · by_cases z : a = p
    · exact ⟨o, by rw [z]; exact upd_same⟩
    · obtain ⟨u, g⟩ := rp.hdh a q
      exact ⟨u, by rw [upd_ne z]; exact g⟩
  · obtain ⟨a, b, q, z⟩ := rp.pen.pen
    have ne : A.pi ≠ p := fun w => rp.fzp.2.1 (by rw [w]; exact hp)
    exact ⟨a, b, by rw [upd_ne ne]; exact q, z⟩
  · obtain ⟨ns, q, z⟩ := rp.pen.cells
    have ne : A.ga ≠ p := fun w => rp.fzp.2.2 (by rw [w]; exact hp)
    exact ⟨ns, by rw [upd_ne ne]; exact q, z⟩
/-- seen from before it was hidden -/
theorem Ext.hput {e0 e : Emb} {n0 : Nat} {S : Hs} {H0 H : Hp} {p : Addr} {xs : List V} {o : HO} (x : Ext A e0 n0 H0 e S.nx H) (rp : Rep A e S H) (hp : e.hd p) (h : H p = some (.lst xs)) (h0 : ¬ e0.hd p) : Ext A e0 n0 H0 e S.nx (upd H p o) :=
  ⟨x.toExV.trans (ExV.hput rp hp h), x.hd, fun a q => by
    have : a ≠ p := fun z => h0 (by rw [← z]; exact q)
    rw [upd_ne this]; exact x.kh a q⟩
/-- the hidden list is shown: frozen -/
theorem Rep.showN {e : Emb} {S : Hs} {H : Hp} {p : Addr} (rp : Rep A e S H) (hp : e.hd p) : Rep A (e.show_ p) S H := by
  have x : ExV A e S.nx H (e.show_ p) S.nx H := ⟨Nat.le_refl _, fun _ _ => rfl, fun _ h => .inl h, fun _ _ => rfl, fun _ _ h => h⟩
  refine ⟨fun i ob q => ?_, rp.inj, fun a q => ?_, fun a q => rp.hdh a q.1, fun a q z => ?_, ⟨⟨fun q => ?_, fun q => ?_⟩, fun q => rp.fzp.2.1 q.1, fun q => rp.fzp.2.2 q.1⟩, rp.pen⟩
  · obtain ⟨h1, h2, h3, h4, ho, h5, h6⟩ := rp.ob i ob q
    refine ⟨h1, ⟨fun z => ?_, fun z => h2.2 z.1⟩, h3, h4, ho, h5, h6.extV x⟩
    rcases z with z | z
    · exact h2.1 z
    · exact h2.2 (by rw [z]; exact hp)
  · rcases q with q | q
    · exact rp.fzh a q
    · exact rp.hdh a (by rw [q]; exact hp)
  · rcases z with z | z
    · exact rp.hdf a q.1 z
    · exact q.2 z
  · rcases q with q | q
    · exact rp.fzp.1.1 q
    · exact rp.fzp.2.1 (by rw [q]; exact hp)
  · rcases q with q | q
    · exact rp.fzp.1.2 q
    · exact rp.fzp.2.2 (by rw [q]; exact hp)
theorem Ext.showN {e0 e : Emb} {n0 : Nat} {S : Hs} {H0 H : Hp} {p : Addr} (x : Ext A e0 n0 H0 e S.nx H) (h0 : ¬ e0.hd p) : Ext A e0 n0 H0 (e.show_ p) S.nx H :=
  ⟨⟨x.nle, x.rho, fun a h => .inl (x.fz a h), x.keep, x.tup⟩, fun a h => ⟨x.hd a h, fun z => h0 (by rw [← z]; exact h)⟩, x.kh⟩

def wipeS (sl : Sl) : List Nat → Sl
  | [] => sl
  | v :: vs => (wipeS sl vs).set v none
theorem SlR.setN {e : Emb} {nx : Nat} {H : Hp} {sl : Sl} {sg : L2.St} (r : SlR A e nx H sl sg) (i : Nat) : SlR A e nx H (sl.set i none) (sg.set i none) := by
  refine ⟨by simp [r.1], fun j u q => ?_⟩
  by_cases hj : i = j
  · subst hj
    rw [List.getElem?_set_self'] at q
    cases z : sl[i]? with
    | none => rw [z] at q; cases q
    | some o => rw [z] at q; cases q
  · rw [List.getElem?_set_ne hj] at q
    rw [List.getElem?_set_ne hj]
    exact r.2 j u q
theorem SlR.wipe {e : Emb} {nx : Nat} {H : Hp} {sl : Sl} {sg : L2.St} (r : SlR A e nx H sl sg) : ∀ own : List Nat, SlR A e nx H (wipeS sl own) (L2.wipe sg own)
  | [] => r
  | v :: vs => (r.wipe vs).setN v
theorem wipe_wipe {sg : L2.St} {own : List Nat} : L2.wipe (L2.wipe sg own) own = L2.wipe sg own := by
  have key : ∀ (vs ws : List Nat) (s : L2.St), (∀ v ∈ vs, v ∈ ws) → L2.wipe (L2.wipe s vs) ws = L2.wipe s ws := by
    intro vs
    induction vs with
    | nil => intro ws s _; rfl
    | cons v vs ih =>
      intro ws s h
      show L2.wipe ((L2.wipe s vs).set v none) ws = _
      rw [wipe_set (h v List.mem_cons_self)]
      exact ih ws s fun u hu => h u (List.mem_cons_of_mem _ hu)
  exact key own own sg fun _ h => h
abbrev bYes : DenB := fun _ S => .ok (true, S)
def lcL (g : GD) (t : DenB) (f : Den) (sl : Sl) : List W → M (List W)
  | [] => fun S => .ok ([], S)
  | w :: r => fun S => match g w sl with
    | some sl1 => (t sl1 S).bind fun b => if b.1 then (f sl1 b.2).bind fun y => (lcL g t f sl r y.2).bind fun ys => .ok (y.1 :: ys.1, ys.2) else lcL g t f sl r b.2
    | none => .stuck
/-- a piece in which nothing is raised -/
def R.noXP {α : Type} : R α → R α
  | .exn _ _ _ => .stuck
  | .pick n k => .pick n fun v => (k v).noXP
  | .ok a => .ok a
  | .stuck => .stuck
def R.noX {α : Type} (m : R α) : R α := match m with
  | .exn _ _ _ => .stuck
  | .pick n k => .pick n fun v => (k v).noXP
  | .ok a => .ok a
  | .stuck => .stuck
theorem R.noX_eq {α : Type} : ∀ (m : R α), m.noX = m.noXP
  | .ok _ => rfl
  | .stuck => rfl
  | .exn _ _ _ => rfl
  | .pick _ _ => rfl
theorem wp_noX {α : Type} {Q : α → Prop} {E E' : XP} : ∀ {r : R α}, wp r.noX Q E → wp r Q E'
  | .ok _, h => h
  | .stuck, h => h
  | .exn _ _ _, h => h.elim
  | .pick _ _, h => fun v hv => wp_noX (by rw [R.noX_eq]; exact h v hv)
def cLC (it : DenI) (g : Tg) (own : List Nat) (t : DenB) (f : Den) : Den := fun sl S => (it sl S).bind fun r => (lcL g.gd t f (wipeS sl own) r.1 r.2).noX.bind fun q => .ok (.lst q.1, q.2)
abbrev WF : WX := fun _ _ _ _ => False
abbrev XF : XP := fun _ _ _ => False
theorem lcL_acc {m : R (List W × Hs)} {acc : List W} {w : W} {Q : W × Hs → Prop} {E : XP}
    (h : wp ((m.bind fun ys => (.ok (w :: ys.1, ys.2) : R (List W × Hs))).bind fun r => .ok (W.lst (acc ++ r.1), r.2)) Q E) : wp (m.bind fun r => .ok (W.lst ((acc ++ [w]) ++ r.1), r.2)) Q E := by
  refine wp_bind.mpr (wp_mono (wp_bind.mp (wp_bind.mp h)) (fun r q => ?_) fun _ _ _ q => q)
  have q' : Q (W.lst (acc ++ (w :: r.1)), r.2) := q
  rw [List.append_cons] at q'
  exact q'
theorem PostXF {e : Emb} {nx : Nat} {H : Hp} {c : Nat} {sl : Sl} {S : Hs} : False → PostX A e nx H c sl S WF := fun h => h.elim
theorem rd_lc {it : DenI} {g : Tg} {own : List Nat} {t : DenB} {tt : TT} {f : Den} (ho : ∀ i ∈ g.ns, i ∈ own) (htt : ∀ sg H Q, rdT A WF t sg H Q → tt sg H Q) : ∀ sg H Q, rdE A Wx (cLC it g own t f) sg H Q → tLc (rdI A Wx it) (g.tg A.K) tt (rdE A WF f) own sg H Q := fun sg H Q ⟨e, S, sl, rp, rs, h⟩ =>
  partI (k := fun ws S1 => (lcL g.gd t f (wipeS sl own) ws S1).noX.bind fun q => .ok (W.lst q.1, q.2)) Ext.refl rp rs h fun e1 S1 H1 ws J x1 _ rp1 rs1 wk h1 D nD => by
    have d0 : ¬ e.hd D := fun z => by obtain ⟨u, q⟩ := rp1.hdh D (x1.hd D z); rw [nD] at q; cases q
    have d1 : ¬ e1.hd D := fun z => by obtain ⟨u, q⟩ := rp1.hdh D z; rw [nD] at q; cases q
    refine ⟨fun i m H2 => i + m = ws.length ∧ ∃ e2 S2 acc av, Ext A e S.nx H e2 S2.nx H2 ∧ Ext A e1 S1.nx H1 e2 S2.nx H2 ∧ Rep A e2 S2 H2 ∧ e2.hd D ∧ H2 D = some (.lst av) ∧ VRs A e2 S2.nx H2 acc av ∧ acc.length ≤ i ∧
      wp ((lcL g.gd t f (wipeS sl own) (ws.drop i) S2).bind fun r => .ok (W.lst (acc ++ r.1), r.2)) (fun r => Post A e S.nx H r.1 r.2 Q) XF, ?_, ?_⟩
    · refine ⟨ws.length, by simp, e1.hide D, S1, [], [], x1.trans (Ext.hide rp1 nD), Ext.hide rp1 nD, rp1.hide nD, .inr rfl, upd_same, .nil, Nat.le_refl _, ?_⟩
      have h1' : wp ((lcL g.gd t f (wipeS sl own) ws S1).noX.bind fun q => .ok (W.lst ([] ++ q.1), q.2)) (fun r => Post A e S.nx H r.1 r.2 Q) (fun c sl' S' => PostX A e S.nx H c sl' S' Wx) := h1
      have h1'' : wp ((lcL g.gd t f (wipeS sl own) ws S1).noX) (fun r => wp (R.ok (W.lst ([] ++ r.1), r.2)) (fun r => Post A e S.nx H r.1 r.2 Q) XF) (fun c sl' S' => PostX A e S.nx H c sl' S' Wx) := wp_mono (wp_bind.mp h1') (fun _ q => q) fun _ _ _ q => q
      exact wp_bind.mpr (wp_noX h1'')
    · rintro i m H2 ⟨im, e2, S2, acc, av, x2, y2, rp2, hd2, hD2, ra, la, h2⟩
      have lav : av.length ≤ i := by rw [← ra.length]; exact la
      cases m with
      | zero =>
        have hi : i = ws.length := by omega
        subst hi
        rw [List.drop_length] at h2
        have p : Post A e S.nx H (W.lst (acc ++ [])) S2 Q := h2
        rw [List.append_nil] at p
        refine .inl ⟨wk.stop e2 S2 H2 y2 rp2, p _ _ _ (x2.showN d0) (rp2.showN hd2) (.lst (.inr rfl) hD2 (Nat.le_trans lav wk.len) ?_)⟩
        have xx : ExV A e2 S2.nx H2 (e2.show_ D) S2.nx H2 := ⟨Nat.le_refl _, fun _ _ => rfl, fun _ h => Or.inl h, fun _ _ => rfl, fun _ _ h => h⟩
        exact ra.extV xx
      | succ m =>
        have hi : i < ws.length := by omega
        obtain ⟨g1, g2⟩ := wk.go e2 S2 H2 y2 rp2 i ws[i] (List.getElem?_eq_getElem hi)
        rw [List.drop_eq_getElem_cons hi] at h2
        refine .inr ⟨g1, fun H3 => i + 1 + m = ws.length ∧ ∃ e2 S2 acc av, Ext A e S.nx H e2 S2.nx H3 ∧ Ext A e1 S1.nx H1 e2 S2.nx H3 ∧ Rep A e2 S2 H3 ∧ e2.hd D ∧ H3 D = some (.lst av) ∧ VRs A e2 S2.nx H3 acc av ∧ acc.length ≤ i + 1 ∧
          wp ((lcL g.gd t f (wipeS sl own) (ws.drop (i + 1)) S2).bind fun r => .ok (W.lst (acc ++ r.1), r.2)) (fun r => Post A e S.nx H r.1 r.2 Q) XF, fun H3 q => ⟨m, Nat.lt_succ_self m, q⟩, fun x H3 hy => ?_⟩
        obtain ⟨e3, x3, rp3, rv3⟩ := g2 x H3 hy
        cases hg : g.gd ws[i] (wipeS sl own) with
        | none => unfold lcL at h2; simp only [hg] at h2; exact (show False from h2).elim
        | some sl3 =>
          unfold lcL at h2
          simp only [hg] at h2
          refine tg_ok g ((rs1.ext (y2.trans x3)).wipe own) rv3 hg fun sg4 rs4 hw => ⟨(hw own ho).trans wipe_wipe, htt _ _ _ ?_⟩
          have hd3 := x3.hd D hd2
          have hD3 : H3 D = some (.lst av) := (x3.kh D hd2).trans hD2
          have h3 := wp_bind.mp (wp_bind.mp h2)
          refine ⟨e3, S2, sl3, rp3, rs4, wp_mono h3 (fun r q e5 H5 x5 rp5 => ?_) fun _ _ _ q => PostXF q⟩
          obtain ⟨b, S5⟩ := r
          have hd5 := x5.hd D hd3
          have hD5 : H5 D = some (.lst av) := (x5.kh D hd3).trans hD3
          have ra5 := ra.ext (x3.trans x5)
          cases b with
          | false =>
            rw [if_neg Bool.false_ne_true]
            rw [if_neg Bool.false_ne_true] at q
            exact ⟨by omega, e5, S5, acc, av, (x2.trans x3).trans x5, (y2.trans x3).trans x5, rp5, hd5, hD5, ra5, by omega, wp_bind.mpr q⟩
          | true =>
            rw [if_pos rfl]
            rw [if_pos rfl] at q
            have q2 := wp_bind.mp q
            refine ⟨e5, S5, sl3, rp5, rs4.ext x5, wp_mono q2 (fun r q3 e6 H6 y x6 rp6 rv6 => ?_) fun _ _ _ q => PostXF q⟩
            obtain ⟨w, S6⟩ := r
            have hd6 := x6.hd D hd5
            have hD6 : H6 D = some (.lst av) := (x6.kh D hd5).trans hD5
            have ra6 := ra5.ext x6
            refine ⟨av, hD6, by have := wk.len; omega, by omega, e6, S6, acc ++ [w], av ++ [y], ?_, ?_, rp6.hput hd6 hD6, hd6, upd_same, ?_, ?_, ?_⟩
            · exact Ext.hput (((x2.trans x3).trans x5).trans x6) rp6 hd6 hD6 d0
            · exact Ext.hput (((y2.trans x3).trans x5).trans x6) rp6 hd6 hD6 d1
            · exact (ra6.append (.cons rv6 .nil)).extV (ExV.hput rp6 hd6 hD6)
            · simp; omega
            · exact lcL_acc (wp_bind.mpr q3)
section
variable {elt tg iter c : Expr} {scope : Scope} {own : List (Str × Nat)} {pos spos py : Pos} {it : DenI} {g : Tg} {f : Den} {t : DenB} {i : Nat} {y : Str}
theorem rd_yes : ∀ sg H Q, rdT A WF bYes sg H Q → tYes sg H Q := fun sg H Q ⟨e, S, sl, rp, rs, h⟩ => h e H Ext.refl rp
theorem se_lc (hc : X.calm = true) (hN : X.N.Nodup) (hi : SI X B Wx tg iter it) (ok : BlkOk X.N X.env.scope scope own)
    (hg : ∀ (s : Shared) (H : Hp) (C : Addr) (cl : List (Str × Addr)) (fp : List Addr), STg (X.blk s H scope (compEnvC scope cl C X.env) fp) tg g)
    (he : ∀ (s : Shared) (H : Hp) (C : Addr) (cl : List (Str × Addr)) (fp : List Addr), SE (X.blk s H scope (compEnvC scope cl C X.env) fp) B WF elt f) (ho : ∀ i ∈ g.ns, i ∈ own.map (·.2) := by decide) (hs : ∀ x, foldedSetIterable iter X.env x = pure x := by intro _; rfl) :
    SE X B Wx (.ListComp elt [⟨tg, iter, [], 0⟩] scope pos) (cLC it g (own.map (·.2)) bYes f) :=
  weakE (pe_lc (g := g.tg X.K) (tt := tYes) (te := rdE (am X B) WF f) hc hN hi ok hg (fun _ _ _ _ _ => pts_nil) he hs) (rd_lc (A := am X B) ho rd_yes)
theorem se_lcIf (hc : X.calm = true) (hN : X.N.Nodup) (hi : SI X B Wx tg iter it) (ok : BlkOk X.N X.env.scope scope own)
    (hg : ∀ (s : Shared) (H : Hp) (C : Addr) (cl : List (Str × Addr)) (fp : List Addr), STg (X.blk s H scope (compEnvC scope cl C X.env) fp) tg g)
    (ht : ∀ (s : Shared) (H : Hp) (C : Addr) (cl : List (Str × Addr)) (fp : List Addr), ST (X.blk s H scope (compEnvC scope cl C X.env) fp) B WF c t)
    (he : ∀ (s : Shared) (H : Hp) (C : Addr) (cl : List (Str × Addr)) (fp : List Addr), SE (X.blk s H scope (compEnvC scope cl C X.env) fp) B WF elt f) (ho : ∀ i ∈ g.ns, i ∈ own.map (·.2) := by decide) (hs : ∀ x, foldedSetIterable iter X.env x = pure x := by intro _; rfl) :
    SE X B Wx (.ListComp elt [⟨tg, iter, [c], 0⟩] scope pos) (cLC it g (own.map (·.2)) t f) :=
  weakE (pe_lc (g := g.tg X.K) (tt := rdT (am X B) WF t) (te := rdE (am X B) WF f) hc hN hi ok hg (fun s H C cl fp => pts_one (ht s H C cl fp)) he hs) (rd_lc (A := am X B) ho fun _ _ _ h => h)
theorem rd_asgL {tl : TE} (hl : ∀ sg H Q, rdE A Wx f sg H Q → tl sg H Q) : ∀ D sg H, rdS A Wx (sAsg (gN i) f) D sg H → tAsg tl (gName i) D sg H := fun D sg H ⟨e, S, sl, rp, rs, h⟩ =>
  hl sg H _ (part (k := fun w S1 => .ok ((Out.nx, sl.set i (some w)), S1)) Ext.refl rp rs h fun e1 S1 H1 w v x1 _ rp1 rs1 rv1 h1 => PostS.nx (PostS.ext h1 x1) rp1 (rs1.set rv1 i))
theorem ss_setLc (hc : X.calm = true) (hN : X.N.Nodup) (hy : X.N[i]? = some y) (hyl : X.env.scope.names.lookup y = some .local)
    (hsw : swapsWith (.ListComp elt [⟨tg, iter, [], 0⟩] scope pos) (some (.Name y py)) spos.line X.env = pure true) (hi : SI X B Wx tg iter it) (ok : BlkOk X.N X.env.scope scope own)
    (hg : ∀ (s : Shared) (H : Hp) (C : Addr) (cl : List (Str × Addr)) (fp : List Addr), STg (X.blk s H scope (compEnvC scope cl C X.env) fp) tg g)
    (he : ∀ (s : Shared) (H : Hp) (C : Addr) (cl : List (Str × Addr)) (fp : List Addr), SE (X.blk s H scope (compEnvC scope cl C X.env) fp) B WF elt f) (ho : ∀ i ∈ g.ns, i ∈ own.map (·.2) := by decide) (hs : ∀ x, foldedSetIterable iter X.env x = pure x := by intro _; rfl) :
    SS X B Wx (.Assign [.Name y py] (.ListComp elt [⟨tg, iter, [], 0⟩] scope pos) spos) (sAsg (gN i) (cLC it g (own.map (·.2)) bYes f)) :=
  weakS (ps_setLc (g := g.tg X.K) (tt := tYes) (te := rdE (am X B) WF f) hc hN hy hyl hsw hi ok hg (fun _ _ _ _ _ => pts_nil) he hs) (rd_asgL (rd_lc (A := am X B) ho rd_yes))
theorem ss_setLcIf (hc : X.calm = true) (hN : X.N.Nodup) (hy : X.N[i]? = some y) (hyl : X.env.scope.names.lookup y = some .local)
    (hsw : swapsWith (.ListComp elt [⟨tg, iter, [c], 0⟩] scope pos) (some (.Name y py)) spos.line X.env = pure true) (hi : SI X B Wx tg iter it) (ok : BlkOk X.N X.env.scope scope own)
    (hg : ∀ (s : Shared) (H : Hp) (C : Addr) (cl : List (Str × Addr)) (fp : List Addr), STg (X.blk s H scope (compEnvC scope cl C X.env) fp) tg g)
    (ht : ∀ (s : Shared) (H : Hp) (C : Addr) (cl : List (Str × Addr)) (fp : List Addr), ST (X.blk s H scope (compEnvC scope cl C X.env) fp) B WF c t)
    (he : ∀ (s : Shared) (H : Hp) (C : Addr) (cl : List (Str × Addr)) (fp : List Addr), SE (X.blk s H scope (compEnvC scope cl C X.env) fp) B WF elt f) (ho : ∀ i ∈ g.ns, i ∈ own.map (·.2) := by decide) (hs : ∀ x, foldedSetIterable iter X.env x = pure x := by intro _; rfl) :
    SS X B Wx (.Assign [.Name y py] (.ListComp elt [⟨tg, iter, [c], 0⟩] scope pos) spos) (sAsg (gN i) (cLC it g (own.map (·.2)) t f)) :=
  weakS (ps_setLc (g := g.tg X.K) (tt := rdT (am X B) WF t) (te := rdE (am X B) WF f) hc hN hy hyl hsw hi ok hg (fun s H C cl fp => pts_one (ht s H C cl fp)) he hs) (rd_asgL (rd_lc (A := am X B) ho fun _ _ _ h => h))
end
end HQ
namespace HQ
open PySem PySem.Spec PyProof.Rows L2
variable {X : L2.Cx} {B : Bm} {Wx : WX} {A : Am}

def varOk (N : List Str) (sc : Scope) (i : Nat) (x : Str) : Bool := decide (N[i]? = some x) && (decide (sc.names.lookup x = some .local) || (decide (sc.names.lookup x = some .cell) || decide (sc.names.lookup x = some .free))) && !(x == ("__debug__" : Str)) && !(x == ("__classdict__" : Str))
def locOk (N : List Str) (sc : Scope) (i : Nat) (x : Str) : Bool := decide (N[i]? = some x) && (decide (sc.names.lookup x = some .local) || decide (sc.names.lookup x = some .cell))
def ownOk (N : List Str) (sc : Scope) (i : Nat) (x : Str) : Bool := decide (N[i]? = some x) && decide (sc.names.lookup x = some .local)
def glOk (sc : Scope) (x : Str) : Bool := decide (sc.names.lookup x = some .globalImplicit) && !(x == ("__debug__" : Str))
structure Fr (X : L2.Cx) (N : List Str) (sc : Scope) : Prop where
  n : X.N = N
  s : X.env.scope = sc
section
variable {N : List Str} {sc : Scope} {i : Nat} {x : Str} {pos : Pos}
theorem Fr.gl (fr : Fr X N sc) (h : glOk sc x = true) : Gl X x := by
  have := (Bool.and_eq_true_iff.mp h).1
  show X.env.scope.names.lookup x = _
  rw [fr.s]; exact of_decide_eq_true this
theorem glOk.db (h : glOk sc x = true) : (x == ("__debug__" : Str)) = false := by
  have := (Bool.and_eq_true_iff.mp h).2
  simpa using this
theorem Fr.var (fr : Fr X N sc) (h : varOk N sc i x = true) : SE X B Wx (.Name x pos) (cVar i) := by
  obtain ⟨h123, h4⟩ := Bool.and_eq_true_iff.mp h
  obtain ⟨h12, h3⟩ := Bool.and_eq_true_iff.mp h123
  obtain ⟨h1, h2⟩ := Bool.and_eq_true_iff.mp h12
  refine se_var (by rw [fr.n]; exact of_decide_eq_true h1) ?_ (by simpa using h3) (by simpa using h4)
  unfold Vis
  rw [fr.s]
  rcases Bool.or_eq_true_iff.mp h2 with z | z
  · exact .inl (of_decide_eq_true z)
  · rcases Bool.or_eq_true_iff.mp z with z | z
    · exact .inr (.inl (of_decide_eq_true z))
    · exact .inr (.inr (of_decide_eq_true z))
theorem Fr.at (fr : Fr X N sc) (h : locOk N sc i x = true) : X.N[i]? = some x := by
  rw [fr.n]; exact of_decide_eq_true (Bool.and_eq_true_iff.mp h).1
theorem Fr.loc (fr : Fr X N sc) (h : locOk N sc i x = true) : L2.Loc X.env.scope x := by
  unfold L2.Loc
  rw [fr.s]
  rcases Bool.or_eq_true_iff.mp (Bool.and_eq_true_iff.mp h).2 with z | z
  · exact .inl (of_decide_eq_true z)
  · exact .inr (of_decide_eq_true z)
end

abbrev Fn := List W → M W
def startS (n : Nat) (ws : List W) : Sl :=
  Nat.rec (motive := fun _ => List W → Sl) (fun ws => ws.map some) (fun _ ih ws => match ws with
    | [] => none :: ih []
    | w :: r => some w :: ih r) n ws
theorem startS_is : ∀ (n : Nat) (ws : List W), startS n ws = ws.map some ++ List.replicate (n - ws.length) none
  | 0, ws => by show ws.map some = _; simp
  | n + 1, [] => by
    show none :: startS n [] = _
    rw [startS_is n []]; simp [List.replicate_succ]
  | n + 1, w :: r => by
    show some w :: startS n r = _
    rw [startS_is n r]; simp
def runB (n : Nat) (b : SDen) : Fn := fun ws S => (b (startS n ws) S).bind fun r => match r.1.1 with
  | .nx => .ok (.non, r.2)
  | .ret w => .ok (w, r.2)
  | _ => .stuck
def spF (A : Am) (n : Nat) (F : Fn) : Sp := fun vs H Q E => vs.length = n ∧ ∃ e S ws, Rep A e S H ∧ VRs A e S.nx H ws vs ∧
  wp (F ws S) (fun r => Post A e S.nx H r.1 r.2 Q) (fun c _ S' => ∀ e' H' d, Ext A e S.nx H e' S'.nx H' → Rep A e' S' H' → E (.ref (A.cl c)) d H')
theorem start_at : ∀ {ws : List W} {vs : List V} {e : Emb} {nx : Nat} {H : Hp}, VRs A e nx H ws vs → ∀ (i : Nat) (w : W) (m : Nat), (ws.map some ++ List.replicate m (none : Option W))[i]? = some (some w) → ∃ v, (vs.map some ++ List.replicate m (none : Option V))[i]? = some (some v) ∧ VR A e nx H w v
  | _, _, _, _, _, .nil, i, w, m, h => by
    simp [List.getElem?_replicate] at h
  | _, _, _, _, _, .cons a r, 0, w, m, h => by
    simp at h; subst h
    exact ⟨_, rfl, a⟩
  | _, _, _, _, _, .cons a r, i + 1, w, m, h => by
    obtain ⟨v, h1, h2⟩ := start_at r i w m (by simpa using h)
    exact ⟨v, by simpa using h1, h2⟩
theorem startR {e : Emb} {nx : Nat} {H : Hp} {ws : List W} {vs : List V} {N : List Str} (r : VRs A e nx H ws vs) : SlR A e nx H (startS N.length ws) (L2.start N vs) := by
  rw [startS_is]
  refine ⟨by simp [L2.start, r.length], fun i w h => ?_⟩
  rw [r.length] at h
  exact start_at r i w _ h
abbrev Wof (E : XK) : WX := fun cls d _ H => E cls d H
/-- a def's promise, where no repr is under way (FnOk with the guards known) -/
structure FnQ (P : Program) (w : World) (K : PySem.W.Frag) (mg : Str → Option Value) (base : Heap) (k : Nat) (f : Addr) (fd : FuncData) (ps : List Str) (sp : Sp) : Prop where
  len : ∀ vs H Q E, sp vs H Q E → vs.length = ps.length
  run : ∀ (U : Around) (outer : List Env) (s : Shared) (H : Hp) (args : Args) (us : List Value) (vs : List V) (Q : VK) (E : XK), U.guards = some [] → Room k U → Env0 P w K mg base U outer s H →
    BindsTo s fd args (ps.zip us) → Vals vs us → sp vs H Q E → codeAny (model P w) U (.call (.ref f) args) (CR (L2.CX P w) outer P w H s Q E) s
theorem FnQ.of {P : Program} {w : World} {K : PySem.W.Frag} {mg : Str → Option Value} {base : Heap} {k : Nat} {f : Addr} {fd : FuncData} {ps : List Str} {sp : Sp} (h : FnOk P w K mg base (L2.CX P w) k f fd ps sp) : FnQ P w K mg base k f fd ps sp :=
  ⟨h.len, fun U o s H as us vs Q E _ hr he hb hv hs => h.run U o s H as us vs Q E hr he hb hv hs⟩
theorem FnQ.mono {P : Program} {w : World} {K : PySem.W.Frag} {mg : Str → Option Value} {base : Heap} {j k : Nat} {f : Addr} {fd : FuncData} {ps : List Str} {sp : Sp} (h : FnQ P w K mg base j f fd ps sp) (l : j ≤ k) : FnQ P w K mg base k f fd ps sp :=
  ⟨h.len, fun U o s H as us vs Q E g hr => h.run U o s H as us vs Q E g (hr.mono l)⟩
theorem FnQ.imp {P : Program} {w : World} {K : PySem.W.Frag} {mg : Str → Option Value} {base : Heap} {k : Nat} {f : Addr} {fd : FuncData} {ps : List Str} {sp sp' : Sp} (h : FnQ P w K mg base k f fd ps sp) (l : ∀ vs H Q E, sp' vs H Q E → sp vs H Q E) : FnQ P w K mg base k f fd ps sp' :=
  ⟨fun vs H Q E q => h.len vs H Q E (l _ _ _ _ q), fun U o s H as us vs Q E g hr he hb hv hs => h.run U o s H as us vs Q E g hr he hb hv (l _ _ _ _ hs)⟩
/-- a def of the text by its body, the guards known -/
theorem fnq_of {P : Program} {w : World} {K : PySem.W.Frag} {mg : Str → Option Value} {base : Heap} {k : Nat} {x qual : Str} {st : Stmt} {f : Addr} {fd : FuncData} {N ps : List Str} {sp : Sp} (F : L2.Fun K x qual st f fd) (S : FnScope N ps (defScope st)) (len : ∀ vs H Q E, sp vs H Q E → vs.length = ps.length)
    (hbody : ∀ (cdv : Value) (U : Around) (outer : List Env) (s : Shared) (H : Hp) (vs : List V) (Q : VK) (E : XK), U.guards = some [] → Room k (U.deeper (envOfC qual (defScope st) s.heap.objs.size f cdv)) → sp vs H Q E →
      ∃ t, PSs (cxOf (L2.CX P w) P w K mg base N qual (defScope st) f cdv U outer s H E) (defBody st) t ∧ t { nx := fun _ H' => Q .non H', rt := Q } (start N vs) H) : FnQ P w K mg base (k + 1) f fd ps sp := by
  obtain ⟨oc, od, kV, doc, pm, an, cdv, ct, osl, rfl, lk, hcd⟩ := F.ex
  refine ⟨len, fun U outer s H args us vs Q E hgd hr e0 hb rv hsp => ?_⟩
  have hlen := len _ _ _ _ hsp
  have kin : K.In s.heap := e0.mod.kin.keeps fun b o q => (e0.bs b o q).1
  have lim : s.heap.NoLimit := e0.mod.nolimit.keeps fun b o q => (e0.bs b o q).1
  refine codeAny_call_function hr.depth (kin _ _ lk) rfl S.co S.gen rfl (PySem.W.codeRec_of kin hcd) (hb _ _ _ _ ?_)
  refine wpAny_newFunctionEnv_cells S.kind (fun ⟨n, v⟩ hy => ?_) fun env he s1 x => ?_
  · rcases S.par n (List.of_mem_zip hy).1 with q | q
    · exact .inl q
    · exact .inr ⟨q, PySem.W.cellsFrom_some _ _ _ (.inl q)⟩
  · subst he
    refine ⟨lim.keeps x.toInCall.keep, codeAny_func ?_⟩
    obtain ⟨t, ht, hq⟩ := hbody cdv U outer s H vs Q E hgd (hr.deeper _) hsp
    have I : Inv (cxOf (L2.CX P w) P w K mg base N qual (defScope st) f cdv U outer s H E) [] (start N vs) H s1 := inv_start S hr.hd e0 hlen rv x
    refine wpAny_mono (ht.run [] s1 (start N vs) H _ I hq) (fun fl s' hs => ?_) fun e s' hs => hs
    cases fl with
    | ret u =>
      obtain ⟨v, sg', H', J, rv', q⟩ := hs
      exact ⟨v, H', J.os, J.bare, J.base, J.hok, rv', q⟩
    | next =>
      obtain ⟨sg', H', J, q⟩ := hs
      exact ⟨V.non, H', J.os, J.bare, J.base, J.hok, rfl, q⟩
    | brk => exact (let ⟨_, _, _, q⟩ := hs; False.elim q)
    | cont => exact (let ⟨_, _, _, q⟩ := hs; False.elim q)
/-- what an expression knows of its context -/
structure Bd (P : Program) (w : World) (K : PySem.W.Frag) (mg : Str → Option Value) (base : Heap) (N : List Str) (sc : Scope) (k : Nat) (X : L2.Cx) (Wx : WX) : Prop where
  prog : X.prog = P
  w : X.w = w
  K : X.K = K
  mg : X.mg = mg
  base : X.base = base
  nd : N.Nodup
  fr : Fr X N sc
  calm : X.calm = true
  takes : Takes X Wx
  room : Room k X.A
  gd : X.A.guards = some []
/-- .. and what a statement knows besides -/
structure Bs (P : Program) (w : World) (K : PySem.W.Frag) (mg : Str → Option Value) (base : Heap) (N : List Str) (sc : Scope) (k : Nat) (X : L2.Cx) (Wx : WX) : Prop extends Bd P w K mg base N sc k X Wx where
  fn : X.fn = fun _ => true
  own : PassesOwn (model X.prog X.w) X.A X.env X.xe
/-- the context of a def's body -/
theorem fn_sound {P : Program} {w : World} {K : PySem.W.Frag} {mg : Str → Option Value} {base : Heap} {x qual : Str} {st : Stmt} {f : Addr} {fd : FuncData} {N ps : List Str} {k : Nat} {b : SDen} (F : L2.Fun K x qual st f fd) (S : FnScope N ps (defScope st))
    (hb : ∀ (X : L2.Cx) (Wx : WX), Bs P w K mg base N (defScope st) k X Wx → SB X B Wx (defBody st) b) :
    FnQ P w K mg base (k + 1) f fd ps (spF ⟨K, B.cl, B.pi, B.ga⟩ ps.length (runB N.length b)) := by
  refine fnq_of F S (fun vs H Q E h => h.1) fun cdv A outer s H vs Q E hg hr h => ?_
  obtain ⟨_, e, S0, ws, rp, rv, hw⟩ := h
  refine ⟨_, hb (cxOf (L2.CX P w) P w K mg base N qual (defScope st) f cdv A outer s H E) (Wof E) ⟨⟨rfl, rfl, rfl, rfl, rfl, S.nd, ⟨rfl, rfl⟩, rfl, takes_of rfl rfl rfl rfl, hr, hg⟩, rfl, passes_of rfl⟩, e, S0, startS N.length ws, rp, startR rv, ?_⟩
  refine wp_mono (wp_bind.mp hw) (fun r q e' H' sg' x' rp' rs' => ?_) fun c sl S' q e' H' d sg x' rp' _ => q e' H' d x' rp'
  obtain ⟨⟨o, sl⟩, S1⟩ := r
  cases o with
  | nx => exact q e' H' .non x' rp' .non
  | ret w => exact fun v rv' => q e' H' v x' rp' rv'
  | bk => exact (show False from q).elim
  | ct => exact (show False from q).elim
/-- .. by another function that tells no less -/
theorem spF_imp {A : Am} {n : Nat} {F G : Fn} (h : ∀ ws S (Q : W × Hs → Prop) (E : XP), ws.length = n → wp (G ws S) Q E → wp (F ws S) Q E) : ∀ vs H Q E, spF A n G vs H Q E → spF A n F vs H Q E :=
  fun vs H Q E ⟨hl, e, S, ws, rp, rv, hw⟩ => ⟨hl, e, S, ws, rp, rv, h ws S _ _ (by rw [rv.length]; exact hl) hw⟩

def R.reSlP {α : Type} (sl : Sl) : R α → R α
  | .exn c _ S => .exn c sl S
  | .pick n k => .pick n fun v => (k v).reSlP sl
  | .ok a => .ok a
  | .stuck => .stuck
def R.reSl {α : Type} (sl : Sl) (m : R α) : R α := match m with
  | .exn c _ S => .exn c sl S
  | .pick n k => .pick n fun v => (k v).reSlP sl
  | .ok a => .ok a
  | .stuck => .stuck
theorem R.reSl_eq {α : Type} {sl : Sl} : ∀ (m : R α), m.reSl sl = m.reSlP sl
  | .ok _ => rfl
  | .stuck => rfl
  | .exn _ _ _ => rfl
  | .pick _ _ => rfl
theorem wp_reSl {α : Type} {sl : Sl} {Q : α → Prop} {E : XP} : ∀ {r : R α}, wp (r.reSl sl) Q E → wp r Q (fun c _ S => E c sl S)
  | .ok _, h => h
  | .stuck, h => h
  | .exn _ _ _, h => h
  | .pick _ _, h => fun v hv => wp_reSl (by rw [R.reSl_eq]; exact h v hv)
def cCall (F : Fn) (ds : List Den) : Den := fun sl S => (evs ds sl S).bind fun r => (F r.1 r.2).reSl sl
/-- a def at f that does as F says -/
structure FnR (X : L2.Cx) (B : Bm) (f : Addr) (n : Nat) (F : Fn) : Prop where
  ex : ∃ k fd ps, (X.A.guards = some [] ∧ Room k X.A) ∧ FnQ X.prog X.w X.K X.mg X.base k f fd ps (spF (am X B) n F) ∧ Binds X.K fd ps []
  kp : PySem.W.keepIn X.K (.ref f) = true
/-- the call itself -/
theorem run_F {f : Addr} {n : Nat} {F : Fn} (G : FnR X B f n F) (tk : Takes X Wx) {pins : List (Addr × Obj)} {sg : L2.St} {H H0 : Hp} {s : Shared} {us : List Value} {vs : List V} {ws : List W} {e e0 : Emb} {n0 : Nat} {S : Hs} {sl : Sl} {Q : VK} {Qr : W × Hs → Prop}
    (I : Inv X pins sg H s) (r : Vals vs us) (hn : ws.length = n) (x0 : Ext (am X B) e0 n0 H0 e S.nx H) (rp : Rep (am X B) e S H) (rs : SlR (am X B) e S.nx H sl sg) (rv : VRs (am X B) e S.nx H ws vs)
    (h : wp ((F ws S).reSl sl) Qr (fun c sl' S' => PostX (am X B) e0 n0 H0 c sl' S' Wx)) (hq : ∀ r, Qr r → Post (am X B) e S.nx H r.1 r.2 Q) : wpAny (model X.prog X.w) X.A (call (.ref f) us) (EP X pins sg Q) X.xe s := by
  obtain ⟨k, fd, ps, ⟨hg, hr⟩, ok, hb⟩ := G.ex
  have hsp : spF (am X B) n F vs H Q (WE Wx sg) := ⟨by rw [← rv.length]; exact hn, e, S, ws, rp, rv, ?_⟩
  · have hl : us.length = ps.length := by rw [← r.length]; exact ok.len _ _ _ _ hsp
    have bb := hb s us I.kIn (by simpa using hl)
    rw [List.append_nil] at bb
    refine wpAny_call (codeAny_mono (ok.run X.A X.stack s H ⟨us, []⟩ us vs Q (WE Wx sg) hg hr I.env0 bb r hsp) fun r s' hq => ?_)
    match r, hq with
    | .error e, hq => exact passAt tk sg pins _ _ e s' I hq
    | .ok (.ret u), hq => exact I.after hq
  exact wp_mono (wp_reSl h) (fun r q => hq r q) fun c sl' S' q e' H' d x' rp' => q e' H' d sg (x0.trans x') rp' (rs.ext x')
section
variable {x : Str} {p pos apos : Pos} {a o : Expr} {es : List Expr} {ds : List Den} {f : Addr} {F : Fn} {N : List Str} {sc : Scope} {d : Den} {m : Str}
theorem se_call {n : Nat} (fr : Fr X N sc) (tk : Takes X Wx) (G : FnR X B f n F) (hm : X.mg x = some (.ref f)) (ha : SA X B Wx (a :: es) ds) (hg : glOk sc x = true := by decide +kernel) (hn : ds.length = n := by rfl)
    (he : starEach (a :: es) X.env = (false, eval a X.env) :: starEach es X.env := by rfl) (hpl : (backTo pos (starEach es X.env)).any (·.1) = false := by rfl) : SE X B Wx (.Call (.Name x p) (a :: es) [] pos) (cCall F ds) := by
  refine ⟨fun pins s sg H Q I h => ?_⟩
  refine wpAny_Call_Name_kw (ld_glob I (fr.gl hg) hm ?_ (glOk.db hg))
  obtain ⟨e, S, sl, rp, rs, h⟩ := h
  refine PySem.W.callWith_K (h₀ := X.base) I.ok.mod.kin G.kp (thn (ha.run pos pins s sg H (fun vs H1 => ∃ e1 S1 ws, ws.length = n ∧ Ext (am X B) e S.nx H e1 S1.nx H1 ∧ Rep (am X B) e1 S1 H1 ∧ SlR (am X B) e1 S1.nx H1 sl sg ∧ VRs (am X B) e1 S1.nx H1 ws vs ∧
      wp ((F ws S1).reSl sl) (fun r => Post (am X B) e S.nx H r.1 r.2 Q) (fun c sl' S' => PostX (am X B) e S.nx H c sl' S' Wx)) I ?_) fun us s1 ⟨vs, H1, I1, r, e1, S1, ws, hl, x1, rp1, rs1, rv1, h1⟩ => ⟨I1.kIn, ?_⟩) he hpl
  · exact partA (k := fun ws S1 => (F ws S1).reSl sl) Ext.refl rp rs h fun e1 S1 H1 ws vs l x1 _ rp1 rs1 rv1 h1 => ⟨e1, S1, ws, l.trans hn, x1, rp1, rs1, rv1, h1⟩
  · exact run_F G tk I1 r hl x1 rp1 rs1 rv1 h1 fun _ q => q.ext x1
theorem se_call0 (fr : Fr X N sc) (tk : Takes X Wx) (G : FnR X B f 0 F) (hm : X.mg x = some (.ref f)) (hg : glOk sc x = true := by decide +kernel) : SE X B Wx (.Call (.Name x p) [] [] pos) (cCall F []) := by
  refine ⟨fun pins s sg H Q I h => ?_⟩
  refine wpAny_Call_Name_kw (ld_glob I (fr.gl hg) hm ?_ (glOk.db hg))
  obtain ⟨e, S, sl, rp, rs, h⟩ := h
  exact PySem.W.callWith_K0 I.kIn G.kp (run_F (us := []) (vs := []) (ws := []) G tk I .nil rfl Ext.refl rp rs .nil h fun _ q => q)
/-- methods: for each class its own -/
def mLook (ms : List (Nat × Fn)) (c : Nat) : Option Fn := match ms with
  | [] => none
  | (k, F) :: r => if k = c then some F else mLook r c
def cMeth (mn : Nat) (ms : List (Nat × Fn)) (d : Den) (ds : List Den) : Den := fun sl S => (d sl S).bind fun r => match vw r.2 r.1 with
  | .ins c fs => (match mLook ms c, fLook mn fs with
    | some F, none => (evs ds sl r.2).bind fun q => (F (r.1 :: q.1) q.2).reSl sl
    | _, _ => .stuck)
  | _ => .stuck
/-- the method m of the class c -/
structure MeR (X : L2.Cx) (B : Bm) (m : Str) (n : Nat) (c : Nat) (F : Fn) : Prop where
  cls : Cls X.K (B.cl c)
  at_ : ∃ f, Meth X.K (B.cl c) m f ∧ FnR X B f (n + 1) F
def MsR (X : L2.Cx) (B : Bm) (m : Str) (n : Nat) (ms : List (Nat × Fn)) : Prop := ∀ q ∈ ms, MeR X B m n q.1 q.2
theorem mLook_mem : ∀ {ms : List (Nat × Fn)} {c : Nat} {F : Fn}, mLook ms c = some F → (c, F) ∈ ms
  | [], _, _, h => by cases h
  | (k, G) :: r, c, F, h => by
    unfold mLook at h
    split at h
    · next e => cases h; subst e; exact List.mem_cons_self
    · exact List.mem_cons_of_mem _ (mLook_mem h)
theorem msR_nil {m : Str} {n : Nat} : MsR X B m n [] := fun _ h => by cases h
theorem msR_cons {m : Str} {n c : Nat} {F : Fn} {ms : List (Nat × Fn)} (h : MeR X B m n c F) (r : MsR X B m n ms) : MsR X B m n ((c, F) :: ms) := fun q hq => by
  rcases List.mem_cons.mp hq with z | z
  · rw [z]; exact h
  · exact r q z
theorem se_meth {n mn : Nat} {ms : List (Nat × Fn)} {pl : Sem Bool} (tk : Takes X Wx) (ho : SE X B Wx o d) (M0 : MsR X B m n ms) (ha : SA X B Wx (a :: es) ds) (hmn : dec mn = m := by decide +kernel) (hn : ds.length = n := by rfl)
    (hst : starEach (a :: es) X.env = (false, eval a X.env) :: starEach es X.env := by rfl) (hpl : (backTo pos (starEach es X.env)).any (·.1) = false := by rfl)
    (ht : eval (.Call (.Attribute o m apos) (a :: es) [] pos) X.env = (do
      let ov ← eval o X.env
      standAt apos.atName
      let (f, first) ← holding [ov] (getMethod ov m pl)
      callWith pos f first (backTo pos (starEach (a :: es) X.env)) (backToKw pos (keywordEach [] X.env))) := by rfl) : SE X B Wx (.Call (.Attribute o m apos) (a :: es) [] pos) (cMeth mn ms d ds) := by
  subst hmn
  refine ⟨fun pins s sg H Q I h => ?_⟩
  obtain ⟨e, S, sl, rp, rs, h⟩ := h
  refine PySem.W.methodCall_KW (pl := pl) (thn (ho.run pins s sg H (fun x H1 => ∃ e1 S1 w c fs F, Ext (am X B) e S.nx H e1 S1.nx H1 ∧ Rep (am X B) e1 S1 H1 ∧ SlR (am X B) e1 S1.nx H1 sl sg ∧ VR (am X B) e1 S1.nx H1 w x ∧ vw S1 w = .ins c fs ∧ mLook ms c = some F ∧ fLook mn fs = none ∧
      wp ((evs ds sl S1).bind fun q => (F (w :: q.1) q.2).reSl sl) (fun r => Post (am X B) e S.nx H r.1 r.2 Q) (fun c sl' S' => PostX (am X B) e S.nx H c sl' S' Wx)) I ?_) fun u s1 ⟨x, H1, I1, rx, e1, S1, w, c, fs, F, x1, rp1, rs1, rv1, ev, em, el, h1⟩ => ?_) ht
  · exact part (k := fun w S1 => match vw S1 w with
      | .ins c fs => (match mLook ms c, fLook mn fs with
        | some F, none => (evs ds sl S1).bind fun q => (F (w :: q.1) q.2).reSl sl
        | _, _ => .stuck)
      | _ => .stuck) Ext.refl rp rs h fun e1 S1 H1 w v x1 _ rp1 rs1 rv1 h1 => by
        cases q : vw S1 w with
        | ins c fs =>
          simp only [q] at h1
          cases q1 : mLook ms c with
          | none => simp only [q1] at h1; exact (show False from h1).elim
          | some F =>
            cases q2 : fLook mn fs with
            | some _ => simp only [q1, q2] at h1; exact (show False from h1).elim
            | none => simp only [q1, q2] at h1; exact ⟨e1, S1, w, c, fs, F, x1, rp1, rs1, rv1, q, q1, q2, h1⟩
        | _ => simp only [q] at h1; exact (show False from h1).elim
  · obtain ⟨cl, f, hM, G⟩ := M0 _ (mLook_mem em)
    have vx := rp1.vw rv1
    rw [ev] at vx
    obtain ⟨a0, dx, gs, rfl, g, r⟩ := vx
    obtain rfl : u = Value.ref a0 := rx
    refine getmeth_ok I1 g cl hM (r.none el) ?_
    refine PySem.W.callWith_K (first := [.ref a0]) (h₀ := X.base) I.ok.mod.kin hM.kp (thn (ha.run pos pins s1 sg H1 (fun vs H2 => ∃ e2 S2 ws, ws.length = n ∧ Ext (am X B) e S.nx H e2 S2.nx H2 ∧ Rep (am X B) e2 S2 H2 ∧ SlR (am X B) e2 S2.nx H2 sl sg ∧ VR (am X B) e2 S2.nx H2 w (.ref a0) ∧ VRs (am X B) e2 S2.nx H2 ws vs ∧
      wp ((F (w :: ws) S2).reSl sl) (fun r => Post (am X B) e S.nx H r.1 r.2 Q) (fun c sl' S' => PostX (am X B) e S.nx H c sl' S' Wx)) I1 ?_) fun us s2 ⟨vs, H2, I2, r, e2, S2, ws, hl, x2, rp2, rs2, rw2, rv2, h2⟩ => ⟨I2.kIn, ?_⟩) hst hpl
    · exact partA (k := fun ws S2 => (F (w :: ws) S2).reSl sl) x1 rp1 rs1 h1 fun e2 S2 H2 ws vs l x2 y2 rp2 rs2 rv2 h2 => ⟨e2, S2, ws, l.trans hn, x2, rp2, rs2, rv1.ext y2, rv2, h2⟩
    · exact run_F (us := .ref a0 :: us) (vs := .ref a0 :: vs) G tk I2 (.cons rfl r) (by simp [hl]) x2 rp2 rs2 (.cons rw2 rv2) h2 fun _ q => q.ext x2
theorem se_meth0 {mn : Nat} {ms : List (Nat × Fn)} {pl : Sem Bool} (tk : Takes X Wx) (ho : SE X B Wx o d) (M0 : MsR X B m 0 ms) (hmn : dec mn = m := by decide +kernel)
    (ht : eval (.Call (.Attribute o m apos) [] [] pos) X.env = (do
      let ov ← eval o X.env
      standAt apos.atName
      let (f, first) ← holding [ov] (getMethod ov m pl)
      callWith pos f first (backTo pos (starEach [] X.env)) (backToKw pos (keywordEach [] X.env))) := by rfl) : SE X B Wx (.Call (.Attribute o m apos) [] [] pos) (cMeth mn ms d []) := by
  subst hmn
  refine ⟨fun pins s sg H Q I h => ?_⟩
  obtain ⟨e, S, sl, rp, rs, h⟩ := h
  refine PySem.W.methodCall_KW (pl := pl) (thn (ho.run pins s sg H (fun x H1 => ∃ e1 S1 w c fs F, Ext (am X B) e S.nx H e1 S1.nx H1 ∧ Rep (am X B) e1 S1 H1 ∧ SlR (am X B) e1 S1.nx H1 sl sg ∧ VR (am X B) e1 S1.nx H1 w x ∧ vw S1 w = .ins c fs ∧ mLook ms c = some F ∧ fLook mn fs = none ∧
      wp ((F [w] S1).reSl sl) (fun r => Post (am X B) e S.nx H r.1 r.2 Q) (fun c sl' S' => PostX (am X B) e S.nx H c sl' S' Wx)) I ?_) fun u s1 ⟨x, H1, I1, rx, e1, S1, w, c, fs, F, x1, rp1, rs1, rv1, ev, em, el, h1⟩ => ?_) ht
  · exact part (k := fun w S1 => match vw S1 w with
      | .ins c fs => (match mLook ms c, fLook mn fs with
        | some F, none => (F [w] S1).reSl sl
        | _, _ => .stuck)
      | _ => .stuck) Ext.refl rp rs h fun e1 S1 H1 w v x1 _ rp1 rs1 rv1 h1 => by
        cases q : vw S1 w with
        | ins c fs =>
          simp only [q] at h1
          cases q1 : mLook ms c with
          | none => simp only [q1] at h1; exact (show False from h1).elim
          | some F =>
            cases q2 : fLook mn fs with
            | some _ => simp only [q1, q2] at h1; exact (show False from h1).elim
            | none => simp only [q1, q2] at h1; exact ⟨e1, S1, w, c, fs, F, x1, rp1, rs1, rv1, q, q1, q2, h1⟩
        | _ => simp only [q] at h1; exact (show False from h1).elim
  · obtain ⟨cl, f, hM, G⟩ := M0 _ (mLook_mem em)
    have vx := rp1.vw rv1
    rw [ev] at vx
    obtain ⟨a0, dx, gs, rfl, g, r⟩ := vx
    obtain rfl : u = Value.ref a0 := rx
    refine getmeth_ok I1 g cl hM (r.none el) ?_
    exact PySem.W.callWith_K0 (first := [.ref a0]) I1.kIn hM.kp (run_F (us := [.ref a0]) (vs := [.ref a0]) (ws := [w]) G tk I1 (.cons rfl .nil) rfl x1 rp1 rs1 (.cons rv1 .nil) h1 fun _ q => q.ext x1)
end
end HQ
namespace HQ
open PySem PySem.Spec PyProof.Rows L2
variable {X : L2.Cx} {B : Bm} {Wx : WX} {A : Am}

structure MkR (X : L2.Cx) (B : Bm) (c : Nat) (n : Nat) (F : Fn) : Prop where
  ex : ∃ f k fd ps, Mk X.K (B.cl c) f ∧ (X.A.guards = some [] ∧ Room (k + 1) X.A) ∧ FnQ X.prog X.w X.K X.mg X.base k f fd ps (spF (am X B) (n + 1) F) ∧ Binds X.K fd ps []
  kp : PySem.W.keepIn X.K (.ref (B.cl c)) = true
def cMake (c : Nat) (F : Fn) (ds : List Den) : Den := fun sl S => (evs ds sl S).bind fun r => ((F (.ref r.2.nx :: r.1) (r.2.new (.ins c []))).reSl sl).bind fun q => match q.1 with
  | .non => .ok (.ref r.2.nx, q.2)
  | _ => .stuck
/-- making it -/
theorem run_M {c n : Nat} {F : Fn} (G : MkR X B c n F) (tk : Takes X Wx) {pins : List (Addr × Obj)} {sg : L2.St} {H H0 : Hp} {s : Shared} {us : List Value} {vs : List V} {ws : List W} {e e0 : Emb} {n0 : Nat} {S : Hs} {sl : Sl} {Q : VK}
    (I : Inv X pins sg H s) (r : Vals vs us) (hn : ws.length = n) (x0 : Ext (am X B) e0 n0 H0 e S.nx H) (rp : Rep (am X B) e S H) (rs : SlR (am X B) e S.nx H sl sg) (rv : VRs (am X B) e S.nx H ws vs)
    (h : wp (((F (.ref S.nx :: ws) (S.new (.ins c []))).reSl sl).bind fun q => (match q.1 with
      | .non => .ok (W.ref S.nx, q.2)
      | _ => .stuck : R (W × Hs))) (fun r => Post (am X B) e0 n0 H0 r.1 r.2 Q) (fun c sl' S' => PostX (am X B) e0 n0 H0 c sl' S' Wx)) :
    wpAny (model X.prog X.w) X.A (call (.ref (B.cl c)) us) (EP X pins sg Q) X.xe s := by
  obtain ⟨f, k, fd, ps, mk, ⟨hgd, hr⟩, ok, hb⟩ := G.ex
  have hgd2 : (X.A.under (.builtin "type.__call__" ⟨.ref (B.cl c) :: us, []⟩)).guards = some [] := by first | exact hgd | (simpa [Around.under, Code.guards, Code.isGuard, guardIds, pushGuards] using hgd)
  have a1 : H (s.heap.objs.size + 1) = none := I.hok.fresh (Nat.le_succ _)
  have a2 : H s.heap.objs.size = none := I.hok.fresh (Nat.le_refl _)
  have ne : s.heap.objs.size + 1 ≠ s.heap.objs.size := Nat.succ_ne_self _
  have I2 := Inv.made (C := B.cl c) I
  -- the two new objects, told to the small heap
  have y1 : Ext (am X B) e S.nx H e S.nx (upd H s.heap.objs.size (.own (s.heap.objs.size + 1))) := Ext.new rp a2 e.fz fun _ h => h
  have rp1 : Rep (am X B) e S (upd H s.heap.objs.size (.own (s.heap.objs.size + 1))) := Rep.new rp a2 e.fz (fun _ h => h) fun _ h => .inl h
  have b1 : (upd H s.heap.objs.size (.own (s.heap.objs.size + 1))) (s.heap.objs.size + 1) = none := by rw [upd_ne ne]; exact a1
  have y2 : Ext (am X B) e S.nx (upd H s.heap.objs.size (.own (s.heap.objs.size + 1))) (e.add S.nx (s.heap.objs.size + 1)) (S.nx + 1) (upd (upd H s.heap.objs.size (.own (s.heap.objs.size + 1))) (s.heap.objs.size + 1) (.ins (B.cl c) s.heap.objs.size [])) := Ext.fresh rp1 b1
  have rp2 : Rep (am X B) (e.add S.nx (s.heap.objs.size + 1)) (S.new (.ins c [])) (upd (upd H s.heap.objs.size (.own (s.heap.objs.size + 1))) (s.heap.objs.size + 1) (.ins (B.cl c) s.heap.objs.size [])) := Rep.mk' rp1 b1 (.ins .nil)
  have er : (e.add S.nx (s.heap.objs.size + 1)).rho S.nx = s.heap.objs.size + 1 := if_pos rfl
  have rself : VR (am X B) (e.add S.nx (s.heap.objs.size + 1)) (S.nx + 1) (upd (upd H s.heap.objs.size (.own (s.heap.objs.size + 1))) (s.heap.objs.size + 1) (.ins (B.cl c) s.heap.objs.size [])) (.ref S.nx) (.ref (s.heap.objs.size + 1)) := by
    have := VR.ref (A := am X B) (e := e.add S.nx (s.heap.objs.size + 1)) (H := upd (upd H s.heap.objs.size (.own (s.heap.objs.size + 1))) (s.heap.objs.size + 1) (.ins (B.cl c) s.heap.objs.size [])) (Nat.lt_succ_self S.nx)
    rw [er] at this; exact this
  have y3 := y1.trans y2
  have hspec : spF (am X B) (n + 1) F (.ref (s.heap.objs.size + 1) :: vs) (upd (upd H s.heap.objs.size (.own (s.heap.objs.size + 1))) (s.heap.objs.size + 1) (.ins (B.cl c) s.heap.objs.size [])) (fun v H2 => v = .non ∧ Q (.ref (s.heap.objs.size + 1)) H2) (WE Wx sg) := by
    refine ⟨by simp [← rv.length, hn], _, S.new (.ins c []), .ref S.nx :: ws, rp2, .cons rself (rv.ext y3), ?_⟩
    refine wp_mono (wp_reSl (wp_bind.mp h)) (fun r q e' H' v x' rp' rv' => ?_) fun c sl' S' q e' H' d x' rp' => q e' H' d sg ((x0.trans y3).trans x') rp' ((rs.ext y3).ext x')
    obtain ⟨w, S'⟩ := r
    cases rv' with
    | non => exact ⟨rfl, q e' H' _ ((x0.trans y3).trans x') rp' (rself.ext x')⟩
    | _ => exact (show False from q).elim
  have r2 : Vals (V.ref (s.heap.objs.size + 1) :: vs) (Value.ref (s.heap.objs.size + 1) :: us) := .cons rfl r
  have hl : (Value.ref (s.heap.objs.size + 1) :: us).length = ps.length := by
    have z := r2.length
    rw [ok.len _ _ _ _ hspec] at z
    exact z.symm
  have hb2 := hb _ (Value.ref (s.heap.objs.size + 1) :: us) I2.kIn (by rw [List.append_nil]; exact hl)
  rw [List.append_nil] at hb2
  refine wpAny_call (make_map (f := f) I.kIn mk.makes mk.init (beq_iff_eq.mp mk.fn) (codeAny_mono (ok.run _ X.stack _ _ ⟨Value.ref (s.heap.objs.size + 1) :: us, []⟩ (Value.ref (s.heap.objs.size + 1) :: us) _ _ (WE Wx sg) hgd2 (hr.make (B.cl c) us []) (I2.env0.make (B.cl c) us []) hb2 r2 hspec) fun r s' hq' => ?_))
  cases r with
  | error e => exact passAt tk sg pins _ _ e s' I2 hq'
  | ok fl =>
    cases fl with
    | ret u =>
      obtain ⟨v, H', I3, rv3, ev, q3⟩ := I2.after hq'
      subst ev
      exact ⟨rv3, ⟨V.ref (s.heap.objs.size + 1), H', I3, rfl, q3⟩⟩
    | next => exact False.elim hq'
    | brk => exact False.elim hq'
    | cont => exact False.elim hq'
section
variable {x : Str} {p pos apos : Pos} {a o : Expr} {es : List Expr} {ds : List Den} {F : Fn} {N : List Str} {sc : Scope} {d : Den} {m : Str}
theorem se_make {c n : Nat} (fr : Fr X N sc) (tk : Takes X Wx) (G : MkR X B c n F) (hm : X.mg x = some (.ref (B.cl c))) (ha : SA X B Wx (a :: es) ds) (hg : glOk sc x = true := by decide +kernel) (hn : ds.length = n := by rfl)
    (he : starEach (a :: es) X.env = (false, eval a X.env) :: starEach es X.env := by rfl) (hpl : (backTo pos (starEach es X.env)).any (·.1) = false := by rfl) : SE X B Wx (.Call (.Name x p) (a :: es) [] pos) (cMake c F ds) := by
  refine ⟨fun pins s sg H Q I h => ?_⟩
  refine wpAny_Call_Name_kw (ld_glob I (fr.gl hg) hm ?_ (glOk.db hg))
  obtain ⟨e, S, sl, rp, rs, h⟩ := h
  refine PySem.W.callWith_K (h₀ := X.base) I.ok.mod.kin G.kp (thn (ha.run pos pins s sg H (fun vs H1 => ∃ e1 S1 ws, ws.length = n ∧ Ext (am X B) e S.nx H e1 S1.nx H1 ∧ Rep (am X B) e1 S1 H1 ∧ SlR (am X B) e1 S1.nx H1 sl sg ∧ VRs (am X B) e1 S1.nx H1 ws vs ∧
      wp (((F (.ref S1.nx :: ws) (S1.new (.ins c []))).reSl sl).bind fun q => (match q.1 with
      | .non => .ok (W.ref S1.nx, q.2)
      | _ => .stuck : R (W × Hs))) (fun r => Post (am X B) e S.nx H r.1 r.2 Q) (fun c sl' S' => PostX (am X B) e S.nx H c sl' S' Wx)) I ?_) fun us s1 ⟨vs, H1, I1, r, e1, S1, ws, hl, x1, rp1, rs1, rv1, h1⟩ => ⟨I1.kIn, ?_⟩) he hpl
  · exact partA (k := fun ws S1 => ((F (.ref S1.nx :: ws) (S1.new (.ins c []))).reSl sl).bind fun q => (match q.1 with
      | .non => .ok (W.ref S1.nx, q.2)
      | _ => .stuck : R (W × Hs))) Ext.refl rp rs h fun e1 S1 H1 ws vs l x1 _ rp1 rs1 rv1 h1 => ⟨e1, S1, ws, l.trans hn, x1, rp1, rs1, rv1, h1⟩
  · exact run_M G tk I1 r hl x1 rp1 rs1 rv1 h1
theorem se_make0 {c : Nat} (fr : Fr X N sc) (tk : Takes X Wx) (G : MkR X B c 0 F) (hm : X.mg x = some (.ref (B.cl c))) (hg : glOk sc x = true := by decide +kernel) : SE X B Wx (.Call (.Name x p) [] [] pos) (cMake c F []) := by
  refine ⟨fun pins s sg H Q I h => ?_⟩
  refine wpAny_Call_Name_kw (ld_glob I (fr.gl hg) hm ?_ (glOk.db hg))
  obtain ⟨e, S, sl, rp, rs, h⟩ := h
  exact PySem.W.callWith_K0 I.kIn G.kp (run_M (us := []) (vs := []) (ws := []) G tk I .nil rfl Ext.refl rp rs .nil h)
end

/-- o.f = e -/
def sFldP (cs : List Nat) (n : Nat) (f : Den) (o : Den) : SDen := fun sl S => (f sl S).bind fun r => (o sl r.2).bind fun q => match q.1 with
  | .ref i => (match q.2.ob i with
    | some (.ins c fs) => if cs.contains c && decide (fs.length < 1000) then .ok ((.nx, sl), q.2.put i (.ins c (fPut n r.1 fs))) else .stuck
    | _ => .stuck)
  | _ => .stuck
theorem ss_fld {a o : Expr} {x : Str} {pos p2 : Pos} {f d : Den} (cs : List Nat) (n : Nat) (hf : Has X B cs x) (ha : SE X B Wx a f) (ho : SE X B Wx o d) (hn : dec n = x := by decide +kernel) (hs : swapsWith a (some (.Attribute o x p2)) pos.line X.env = pure false := by rfl) :
    SS X B Wx (.Assign [.Attribute o x p2] a pos) (sFldP cs n f d) := by
  subst hn
  exact weakS (ps_fld ho ha hs) fun D sg H ⟨e, S, sl, rp, rs, h⟩ =>
    part (k := fun w S1 => (d sl S1).bind fun q => match q.1 with
      | .ref i => (match q.2.ob i with
        | some (.ins c fs) => if cs.contains c && decide (fs.length < 1000) then .ok ((Out.nx, sl), q.2.put i (.ins c (fPut n w fs))) else .stuck
        | _ => .stuck)
      | _ => .stuck) Ext.refl rp rs h fun e1 S1 H1 w v x1 _ rp1 rs1 rv1 h1 =>
      part (k := fun u S2 => match u with
        | .ref i => (match S2.ob i with
          | some (.ins c fs) => if cs.contains c && decide (fs.length < 1000) then .ok ((Out.nx, sl), S2.put i (.ins c (fPut n w fs))) else .stuck
          | _ => .stuck)
        | _ => .stuck) x1 rp1 rs1 h1 fun e2 S2 H2 u y x2 y2 rp2 rs2 rv2 h2 => by
          cases rv2 with
          | @ref i hi =>
            simp only at h2
            cases q : S2.ob i with
            | none => simp only [q] at h2; exact (show False from h2).elim
            | some ob =>
              obtain ⟨_, _, _, _, hu, h5, h6⟩ := rp2.ob i ob q
              cases h6 with
              | @ins c dx fs gs r =>
                simp only [q] at h2
                split at h2
                · next hc =>
                  obtain ⟨c1, c2⟩ := Bool.and_eq_true_iff.mp hc
                  obtain ⟨k1, k2⟩ := hf c (by simpa using c1)
                  have xx : Ext (am X B) e2 S2.nx H2 e2 S2.nx (upd H2 (e2.rho i) (.ins (B.cl c) dx (putF (dec n) v gs))) := Ext.put rp2 q
                  refine ⟨_, _, dx, gs, rfl, h5, k1, k2, by rw [← r.length]; exact of_decide_eq_true c2, ?_⟩
                  exact h2 e2 _ sg (x2.trans xx) (rp2.put q (.ins (VRF.put ((rv1.ext y2).ext xx) (r.ext xx)))) (rs2.ext xx)
                · exact (show False from h2).elim
              | _ => simp only [q] at h2; exact (show False from h2).elim
          | _ => exact (show False from h2).elim
/-- x[i] = e, of a list of the small heap -/
def ixS (n : Nat) (i : Int) : Option Nat := ixN n i
def sSubP (f o d : Den) : SDen := fun sl S => (f sl S).bind fun r => (o sl r.2).bind fun q => (d sl q.2).bind fun u => match q.1, u.1 with
  | .ref i, .int k => (match u.2.ob i with
    | some (.lst ws) => (match ixS ws.length k with
      | some j => .ok ((.nx, sl), u.2.put i (.lst (ws.set j r.1)))
      | none => .stuck)
    | _ => .stuck)
  | _, _ => .stuck
theorem ss_sub {a o b : Expr} {pos p2 : Pos} {f d g : Den} (ha : SE X B Wx a f) (ho : SE X B Wx o d) (hb : SE X B Wx b g) (hs : swapsWithSole [.Subscript o b p2] a pos.line X.env = pure false := by rfl) (hw : swappedStores [.Subscript o b p2] a X.env = pure none := by rfl)
    (h1 : (assignEach [.Subscript o b p2] X.env).map (·.2) = [assign (.Subscript o b p2) X.env] := by rfl)
    (ht : PG X (.Subscript o b p2) (gSub (rdE (am X B) Wx d) (rdE (am X B) Wx g) rSetL)) : SS X B Wx (.Assign [.Subscript o b p2] a pos) (sSubP f d g) :=
  weakS (ps_asg ha ht hs hw h1) fun D sg H ⟨e, S, sl, rp, rs, h⟩ =>
    part (k := fun w S1 => (d sl S1).bind fun q => (g sl q.2).bind fun u => match q.1, u.1 with
      | .ref i, .int k => (match u.2.ob i with
        | some (.lst ws) => (match ixS ws.length k with
          | some j => .ok ((Out.nx, sl), u.2.put i (.lst (ws.set j w)))
          | none => .stuck)
        | _ => .stuck)
      | _, _ => .stuck) Ext.refl rp rs h fun e1 S1 H1 w v x1 _ rp1 rs1 rv1 h1 =>
      part (k := fun t S2 => (g sl S2).bind fun u => match t, u.1 with
        | .ref i, .int k => (match u.2.ob i with
          | some (.lst ws) => (match ixS ws.length k with
            | some j => .ok ((Out.nx, sl), u.2.put i (.lst (ws.set j w)))
            | none => .stuck)
          | _ => .stuck)
        | _, _ => .stuck) x1 rp1 rs1 h1 fun e2 S2 H2 t y x2 y2 rp2 rs2 rv2 h2 =>
        part (k := fun u S3 => match t, u with
          | .ref i, .int k => (match S3.ob i with
            | some (.lst ws) => (match ixS ws.length k with
              | some j => .ok ((Out.nx, sl), S3.put i (.lst (ws.set j w)))
              | none => .stuck)
            | _ => .stuck)
          | _, _ => .stuck) x2 rp2 rs2 h2 fun e3 S3 H3 u z x3 y3 rp3 rs3 rv3 h3 => by
            cases rv2 with
            | @ref i hi =>
              cases rv3 with
              | int k =>
                simp only at h3
                cases q : S3.ob i with
                | none => simp only [q] at h3; exact (show False from h3).elim
                | some ob =>
                  obtain ⟨_, _, _, _, hu, h5, h6⟩ := rp3.ob i ob q
                  cases h6 with
                  | @lst ws xs zl r =>
                    simp only [q] at h3
                    cases qj : ixS ws.length k with
                    | none => simp only [qj] at h3; exact (show False from h3).elim
                    | some j =>
                      simp only [qj] at h3
                      have xx : Ext (am X B) e3 S3.nx H3 e3 S3.nx (upd H3 (e3.rho i) (.lst (xs.set j v))) := Ext.put rp3 q
                      have er : e2.rho i = e3.rho i := (y3.rho i hi).symm
                      rw [er]
                      refine ⟨_, xs, k, j, rfl, rfl, h5, by rw [← r.length]; exact qj, ?_⟩
                      exact h3 e3 _ sg (x3.trans xx) (rp3.put q (.lst (by simpa using zl) (VRs.set j (((rv1.ext y2).ext y3).ext xx) (r.ext xx)))) (rs3.ext xx)
                  | _ => simp only [q] at h3; exact (show False from h3).elim
              | _ => exact (show False from h3).elim
            | _ => exact (show False from h3).elim

def MS (A : Am) (o : W → List W → M W) (r : V → List V → Hp → VK → Prop) (K : PySem.W.Frag) (T : String) : Prop := ∀ (e : Emb) (S : Hs) (H : Hp) (w : W) (x : V) (ws : List W) (vs : List V) (Q : VK) (E : XP), Rep A e S H → VR A e S.nx H w x → VRs A e S.nx H ws vs → wp (o w ws S) (fun r => Post A e S.nx H r.1 r.2 Q) E → r x vs H Q
/-- is the value of the type whose method is asked? -/
def isLstW (S : Hs) (w : W) : Bool := match vw S w with
  | .lst _ => true
  | _ => false
def cBm (o : W → List W → M W) (d : Den) (ds : List Den) : Den := fun sl S => (d sl S).bind fun r => if isLstW r.2 r.1 then (evs ds sl r.2).bind fun q => o r.1 q.1 q.2 else .stuck
theorem tyV_lst {e : Emb} {S : Hs} {H : Hp} {w : W} {v : V} (rp : Rep A e S H) (r : VR A e S.nx H w v) (h : isLstW S w = true) : tyV A.K "list" v H := by
  have vx := rp.vw r
  unfold isLstW at h
  split at h
  · next ws e1 =>
    rw [e1] at vx
    obtain ⟨a, xs, rfl, g, _, _⟩ := vx
    exact .inl ⟨rfl, _, .of g⟩
  · cases h
theorem rd_bm {o : W → List W → M W} {r : V → List V → Hp → VK → Prop} {d : Den} {ds : List Den} (ho : MS A o r A.K "list") : ∀ sg H Q, rdE A Wx (cBm o d ds) sg H Q → tBM A.K "list" r (rdE A Wx d) (rdA A Wx ds) sg H Q := fun sg H Q ⟨e, S, sl, rp, rs, h⟩ =>
  part (k := fun w S1 => if isLstW S1 w then (evs ds sl S1).bind fun q => o w q.1 q.2 else .stuck) Ext.refl rp rs h fun e1 S1 H1 w v x1 _ rp1 rs1 rv1 h1 => by
    cases q : isLstW S1 w with
    | false => rw [q, if_neg Bool.false_ne_true] at h1; exact (show False from h1).elim
    | true =>
      rw [q, if_pos rfl] at h1
      exact ⟨tyV_lst rp1 rv1 q, partA (k := fun ws S2 => o w ws S2) x1 rp1 rs1 h1 fun e2 S2 H2 ws vs l x2 y2 rp2 rs2 rv2 h2 =>
        ho e2 S2 H2 w v ws vs Q _ rp2 (rv1.ext y2) rv2 (wp_mono h2 (fun _ p => p.ext x2) fun _ _ _ q => q)⟩
theorem rd_bm0 {o : W → List W → M W} {r : V → List V → Hp → VK → Prop} {d : Den} (ho : MS A o r A.K "list") : ∀ sg H Q, rdE A Wx (cBm o d []) sg H Q → tBM0 A.K "list" r (rdE A Wx d) sg H Q := fun sg H Q ⟨e, S, sl, rp, rs, h⟩ =>
  part (k := fun w S1 => if isLstW S1 w then o w [] S1 else .stuck) Ext.refl rp rs h fun e1 S1 H1 w v x1 _ rp1 rs1 rv1 h1 => by
    cases q : isLstW S1 w with
    | false => rw [q, if_neg Bool.false_ne_true] at h1; exact (show False from h1).elim
    | true =>
      rw [q, if_pos rfl] at h1
      exact ⟨tyV_lst rp1 rv1 q, ho e1 S1 H1 w v [] [] Q _ rp1 rv1 .nil (wp_mono h1 (fun _ p => p.ext x1) fun _ _ _ q => q)⟩
def oAppend : W → List W → M W := fun w us S => match w, us with
  | .ref i, [u] => (match S.ob i with
    | some (.lst ws) => if ws.length < 16777216 then .ok (.non, S.put i (.lst (ws ++ [u]))) else .stuck
    | _ => .stuck)
  | _, _ => .stuck
theorem ms_append : MS A oAppend rAppend A.K "list" := by
  intro e S H w x ws vs Q E rp rx rv h
  unfold oAppend at h
  split at h
  · next i u =>
    cases rx with
    | ref hi =>
      obtain ⟨v, rfl, r1⟩ := rv.one
      cases q : S.ob i with
      | none => simp only [q] at h; exact (show False from h).elim
      | some ob =>
        obtain ⟨_, _, _, _, hu, h5, h6⟩ := rp.ob i ob q
        cases h6 with
        | @lst us xs zl r =>
          simp only [q] at h
          split at h
          · next hl =>
            have xx : Ext A e S.nx H e S.nx (upd H (e.rho i) (.lst (xs ++ [v]))) := Ext.put rp q
            have hl' : xs.length < sizeLine := by rw [sizeL, ← r.length]; exact hl
            refine ⟨_, xs, v, rfl, rfl, h5, hl', ?_⟩
            exact h e _ .non xx (rp.put q (.lst (by simp; omega) ((r.ext xx).append (.cons (r1.ext xx) .nil)))) .non
          · exact (show False from h).elim
        | _ => simp only [q] at h; exact (show False from h).elim
  · exact (show False from h).elim
def oExtend : W → List W → M W := fun w us S => match w, us with
  | .ref i, [u] => (match S.ob i, vw S u with
    | some (.lst ws), .lst zs => if ws.length + zs.length ≤ 16777216 then .ok (.non, S.put i (.lst (ws ++ zs))) else .stuck
    | _, _ => .stuck)
  | _, _ => .stuck
theorem ms_extend : MS A oExtend rExtend A.K "list" := by
  intro e S H w x ws vs Q E rp rx rv h
  unfold oExtend at h
  split at h
  · next i u =>
    cases rx with
    | ref hi =>
      obtain ⟨v, rfl, r1⟩ := rv.one
      cases q : S.ob i with
      | none => simp only [q] at h; exact (show False from h).elim
      | some ob =>
        obtain ⟨_, _, _, _, hu, h5, h6⟩ := rp.ob i ob q
        cases h6 with
        | @lst us xs zl r =>
          have vx := rp.vw r1
          cases q2 : vw S u with
          | lst zs =>
            simp only [q, q2] at h
            rw [q2] at vx
            obtain ⟨b, ys, rfl, g, zl2, r2⟩ := vx
            split at h
            · next hl =>
              have xx : Ext A e S.nx H e S.nx (upd H (e.rho i) (.lst (xs ++ ys))) := Ext.put rp q
              have hl' : xs.length + ys.length ≤ sizeLine := by rw [sizeL, ← r.length, ← r2.length]; exact hl
              refine ⟨_, b, xs, ys, rfl, rfl, h5, g, hl', ?_⟩
              exact h e _ .non xx (rp.put q (.lst (by simp; omega) ((r.ext xx).append (r2.ext xx)))) .non
            · exact (show False from h).elim
          | _ => simp only [q, q2] at h; exact (show False from h).elim
        | _ => simp only [q] at h; exact (show False from h).elim
  · exact (show False from h).elim
theorem VRs.dropLast {e : Emb} {nx : Nat} {H : Hp} : ∀ {ws : List W} {vs : List V}, VRs A e nx H ws vs → VRs A e nx H ws.dropLast vs.dropLast
  | _, _, .nil => .nil
  | _, _, .cons a .nil => .nil
  | _, _, .cons a (.cons b r) => .cons a (VRs.dropLast (.cons b r))
def oPop : W → List W → M W := fun w us S => match w, us with
  | .ref i, [] => (match S.ob i with
    | some (.lst ws) => (match ws[ws.length - 1]? with
      | some u => .ok (u, S.put i (.lst ws.dropLast))
      | none => .stuck)
    | _ => .stuck)
  | _, _ => .stuck
theorem ms_pop : MS A oPop rPop A.K "list" := by
  intro e S H w x ws vs Q E rp rx rv h
  unfold oPop at h
  split at h
  · next i =>
    cases rx with
    | ref hi =>
      cases rv
      cases q : S.ob i with
      | none => simp only [q] at h; exact (show False from h).elim
      | some ob =>
        obtain ⟨_, _, _, _, hu, h5, h6⟩ := rp.ob i ob q
        cases h6 with
        | @lst us xs zl r =>
          simp only [q] at h
          cases q2 : us[us.length - 1]? with
          | none => simp only [q2] at h; exact (show False from h).elim
          | some u =>
            simp only [q2] at h
            obtain ⟨v, h7, h8⟩ := r.get q2
            have xx : Ext A e S.nx H e S.nx (upd H (e.rho i) (.lst xs.dropLast)) := Ext.put rp q
            refine ⟨_, xs, v, rfl, rfl, h5, by rw [← r.length]; exact h7, ?_⟩
            exact h e _ v xx (rp.put q (.lst (by simp; omega) (r.dropLast.ext xx))) (h8.ext xx)
        | _ => simp only [q] at h; exact (show False from h).elim
  · exact (show False from h).elim
section
variable {o a : Expr} {d f : Den} {pos apos : Pos}
theorem se_append (ho : SE X B Wx o d) (ha : SE X B Wx a f) (hs : starEach [a] X.env = (false, eval a X.env) :: starEach [] X.env := by rfl)
    (pe : PE X (.Call (.Attribute o "append" apos) [a] [] pos) (tBM X.K "list" rAppend (rdE (am X B) Wx d) (rdA (am X B) Wx [f]))) : SE X B Wx (.Call (.Attribute o "append" apos) [a] [] pos) (cBm oAppend d [f]) := weakE pe (rd_bm (A := am X B) ms_append)
end
end HQ
namespace HQ
open PySem PySem.Spec PyProof.Rows L2
variable {X : L2.Cx} {B : Bm} {Wx : WX} {A : Am}

def IsSq (b : Bool) (h : Heap) (a : Addr) (its : Array Value) : Prop := match b with
  | true => h.IsList a its
  | false => h.IsTuple a its
def IsSI (b : Bool) (h : Heap) (it a : Addr) (i : Nat) : Prop := match b with
  | true => h.IsListIter it a i
  | false => h.IsTupleIter it a i
def soOf (b : Bool) (a : Addr) : Obj := match b with
  | true => { cls := .type "list_iterator", data := .fields #[.ref a, .int 0 0] }
  | false => { cls := .type "tuple_iterator", data := .fields #[.ref a, .int 0 0] }
def SqB (b : Bool) (K : PySem.W.Frag) (H : Hp) (a : Addr) (xs : List V) : Prop := match b with
  | true => SqL K H a xs
  | false => SqT K H a xs
abbrev DSt (b : Bool) (it a : Addr) (its : Array Value) : Nat → Heap → Prop := fun i h => IsSI b h it a i ∧ IsSq b h a its
theorem drawsSq {P : Program} {w : World} {U : Around} (b : Bool) (hh : U.handled = none) (it a : Addr) (ne : a ≠ it) (its : Array Value) : Draws P w U it [it, a] its.size (fun i v => its[i]? = some v) (DSt b it a its) := by
  cases b
  · exact Draws.tuple hh it a ne its
  · exact Draws.list hh it a ne its
theorem beginsSq (b : Bool) (a : Addr) (its : Array Value) : Begins (.ref a) (soOf b a) fun h => IsSq b h a its := by
  cases b
  · exact begins_tuple a its
  · exact begins_list a its
theorem IsSI.of_get {b : Bool} {h : Heap} {it a : Addr} (g : h.get? it = some (soOf b a)) : IsSI b h it a 0 := by
  cases b
  · exact ⟨_, g, rfl, rfl⟩
  · exact ⟨_, g, rfl, rfl⟩
theorem IsSI.obj {b : Bool} {h : Heap} {it a : Addr} {i : Nat} (g : IsSI b h it a i) : ∃ o, h.get? it = some o ∧ ∀ v, o.data ≠ .cell v := by
  cases b
  · obtain ⟨o, h1, _, h3⟩ := g
    exact ⟨o, h1, fun v q => by rw [h3] at q; cases q⟩
  · obtain ⟨o, h1, _, h3⟩ := g
    exact ⟨o, h1, fun v q => by rw [h3] at q; cases q⟩
theorem IsSI.keep {b : Bool} {h h' : Heap} {it a : Addr} {i : Nat} (g : IsSI b h it a i) (k : ∀ o, h.get? it = some o → h'.get? it = some o) : IsSI b h' it a i := by
  cases b
  · exact Heap.IsTupleIter.at g k
  · exact Heap.IsListIter.at g k
theorem IsSq.lt {b : Bool} {h : Heap} {a : Addr} {its : Array Value} (g : IsSq b h a its) : a < h.objs.size := by
  cases b
  · obtain ⟨o, h1, _⟩ := g
    exact Heap.lt_size h1
  · obtain ⟨o, h1, _⟩ := g
    exact Heap.lt_size h1
theorem sqB_inv {b : Bool} {pins : List (Addr × Obj)} {sg : L2.St} {H : Hp} {s : Shared} {a : Addr} {xs : List V} (I : Inv X pins sg H s) (h : SqB b X.K H a xs) : ∃ its : List Value, Vals xs its ∧ IsSq b s.heap a its.toArray := by
  cases b
  · obtain ⟨its, r, p, _⟩ := I.tuple h
    exact ⟨its, r, p⟩
  · obtain ⟨its, r, p, _⟩ := I.list h
    exact ⟨its, r, p.isList⟩
theorem valsGet : ∀ {xs : List V} {us : List Value} {i : Nat} {u : Value}, Vals xs us → us[i]? = some u → ∃ v, xs[i]? = some v ∧ RelV v u
  | _, _, _, _, .nil, h => by simp at h
  | _, _, 0, _, .cons r _, h => by simp at h; subst h; exact ⟨_, rfl, r⟩
  | _, _, i + 1, _, .cons _ t, h => by
    obtain ⟨v, h1, h2⟩ := valsGet t (i := i) (by simpa using h)
    exact ⟨v, by simpa using h1, h2⟩
theorem sqB_inj {b : Bool} {pins : List (Addr × Obj)} {sg : L2.St} {H : Hp} {s : Shared} {a : Addr} {xs ys : List V} (I : Inv X pins sg H s) (h : SqB b X.K H a xs) (g : SqB b X.K H a ys) : xs = ys := by
  cases b
  · exact I.tuple_inj h g
  · exact I.list_inj h g

/-- an iterator that tells new tuples: from J.go a walk whose tuple has J's items -/
structure WT (P : Program) (w : World) (K : PySem.W.Frag) (J : It) (wr : List Addr) (it : Addr) (tn : Nat → Heap → Prop) : Prop where
  mem : it ∈ wr
  obj : ∀ i h, tn i h → ∀ b ∈ wr, ∃ o, h.get? b = some o ∧ ∀ v, o.data ≠ .cell v
  keep : ∀ i h h', tn i h → (∀ b ∈ wr, ∀ o, h.get? b = some o → h'.get? b = some o) → tn i h'
  item : ∀ (X : L2.Cx), X.prog = P → X.w = w → X.K = K → X.calm = true → ∀ (i : Nat) (pins : List (Addr × Obj)) (s : Shared) (sg : L2.St) (H : Hp), Inv X pins sg H s → (∀ b ∈ wr, FpOk X pins H b) → tn i s.heap → J.go i H →
    ∃ fp wr' n Pt St Mid, WalksT P w X.A it fp wr' n Pt St Mid ∧ (∀ b ∈ wr', b ∈ wr) ∧ i < n ∧ St i s.heap ∧ (∀ h, St (i + 1) h → (∀ b ∈ wr, b ∉ wr' → ∀ o, s.heap.get? b = some o → h.get? b = some o) → tn (i + 1) h) ∧
      ∀ vals, Pt i vals → ∃ xs : List V, Vals xs vals.toList ∧ xs.length ≤ sizeLine ∧ ∀ T, H T = none → J.yld i H (.ref T) (upd H T (.tup xs))
  done : ∀ (X : L2.Cx), X.prog = P → X.w = w → X.K = K → X.calm = true → ∀ (i : Nat) (pins : List (Addr × Obj)) (s : Shared) (sg : L2.St) (H : Hp), Inv X pins sg H s → (∀ b ∈ wr, FpOk X pins H b) → tn i s.heap → J.stop i H →
    ∃ fp wr' Pt St Mid, WalksT P w X.A it fp wr' i Pt St Mid ∧ (∀ b ∈ wr', b ∈ wr) ∧ St i s.heap
  self : ∀ (U : Around) (i : Nat) (s : Shared) (Q : Value → Shared → Prop) (E : Value → Shared → Prop), tn i s.heap → Q (.ref it) s → wpAny (model P w) U (pyIter (.ref it)) Q E s
theorem turn_wt {P : Program} {w : World} {K : PySem.W.Frag} {J : It} {wr : List Addr} {it : Addr} {tn : Nat → Heap → Prop} {elts : List Expr} {kk : Nat} {tpos : Pos} (T0 : WT P w K J wr it tn) : Turn P w K (.Tuple elts kk tpos) J wr it tn where
  mem := T0.mem
  obj := T0.obj
  keep := T0.keep
  self := T0.self
  item := by
    intro X e1 e2 e3 hc i pins s sg H E I hf st hg
    obtain ⟨fp, wr', n, Pt, St, Mid, D, sub, hi, h0, nxt, hy⟩ := T0.item X e1 e2 e3 hc i pins s sg H I hf st hg
    subst e1 e2 e3
    refine D.item i s _ _ hi h0 fun T vals h1 tk hp hT hV hm k1 => ?_
    obtain ⟨xs, rx, zx, yl⟩ := hy vals hp
    refine ⟨_, rfl, D.go elts kk tpos i T _ _ _ hm fun h2 st2 k2 => ?_⟩
    have nT : H T = none := I.hok.fresh hT
    have Tw : T ∉ wr' := D.apart i T h1 hm
    obtain ⟨oT, gT, cT, nn, dT⟩ := hV
    have gT2 : h2.get? T = some oT := k2 T oT Tw gT
    have both : ∀ b o, b ∉ wr' → s.heap.get? b = some o → h2.get? b = some o := fun b o hb q => k2 b o hb (k1 b o hb q)
    have new : ObjOk X.prog X.w (upd H T (.tup xs)) h2 T (.tup xs) := ⟨zx, vals.toList, rx, ⟨oT, gT2, cT, nn, by simpa using dT⟩⟩
    have I2 : Inv X pins sg (upd H T (.tup xs)) { s with heap := h2, toks := tk } := I.turnedNew (t' := tk) (ch := wr) (fun b o hb q => both b o (fun z => hb (sub b z)) q) hf hT new
    refine ⟨.ref T, _, I2, rfl, yl T nT, nxt h2 st2 fun b _ hb o q => both b o hb q, fun b hb => ?_⟩
    have hlt : b < s.heap.objs.size := by
      obtain ⟨o, q, _⟩ := T0.obj i s.heap st b hb
      exact Heap.lt_size q
    rw [upd_ne (Nat.ne_of_lt (Nat.lt_of_lt_of_le hlt hT))]
    exact (hf b hb).1
  done := by
    intro X e1 e2 e3 hc i pins s sg H E I hf st hg
    obtain ⟨fp, wr', Pt, St, Mid, D, sub, h0⟩ := T0.done X e1 e2 e3 hc i pins s sg H I hf st hg
    subst e1 e2 e3
    exact D.done s _ _ h0 fun h' tk k => ⟨rfl, I.turnedL (t' := tk) (ch := wr) (fun b o hb q => k b o (fun z => hb (sub b z)) q) hf⟩

/-- (number, item) of the list or tuple at a -/
def JEn (b : Bool) (K : PySem.W.Frag) (a : Addr) : It where
  go := fun i H => ∃ xs : List V, SqB b K H a xs ∧ i < xs.length
  yld := fun i H v H' => ∃ T x, v = .ref T ∧ H T = none ∧ H' = upd H T (.tup [.int ((i : Nat) : Int), x]) ∧ ∀ xs, SqB b K H a xs → xs[i]? = some x
  stop := fun i H => ∃ xs : List V, SqB b K H a xs ∧ xs.length = i
theorem sizeTwo : 2 ≤ sizeLine := by decide
theorem wt_enum {P : Program} {w : World} {K : PySem.W.Frag} {b : Bool} {a e it : Addr} :
    WT P w K (JEn b K a) [e, it] e (fun i h => (∃ old, IsEnum h e it ((i : Nat) : Int) old) ∧ IsSI b h it a i ∧ e ≠ it ∧ a ≠ e ∧ a ≠ it) where
  mem := List.mem_cons_self
  obj := fun i h ⟨⟨old, he⟩, hi, _⟩ c hc => by
    rcases List.mem_cons.mp hc with z | z
    · rw [z]; exact ⟨_, he, fun v q => nomatch q⟩
    · rw [List.mem_singleton.mp z]; exact hi.obj
  keep := fun i h h' ⟨⟨old, he⟩, hi, n⟩ k => ⟨⟨old, k e List.mem_cons_self _ he⟩, hi.keep fun o q => k it (List.mem_cons_of_mem _ List.mem_cons_self) o q, n⟩
  item := by
    intro X e1 e2 e3 hc i pins s sg H I hf st hg
    subst e3
    obtain ⟨he, hi, n1, n2, n3⟩ := st
    obtain ⟨xs, hq, hx⟩ := hg
    obtain ⟨its, rv, p⟩ := sqB_inv I hq
    have hl := rv.length
    refine ⟨_, _, _, _, _, _, WalksT.enumFrom (prog := P) (w := w) (A := X.A) 0 (drawsSq b (by first | exact I.ok.hd hc | (show X.A.in1.handled = none; exact I.ok.hd hc)) it a n3 its.toArray) e n1 (by simp; exact ⟨n1, fun z => n2 z.symm⟩) List.mem_cons_self, fun c hc => hc, by simpa [← hl] using hx, ⟨by simpa using he, hi, p⟩, fun h st' _ => ⟨by simpa using st'.1, st'.2.1, n1, n2, n3⟩, fun vals hv => ?_⟩
    obtain ⟨t, x, hx1, rfl⟩ := hv
    obtain ⟨v, hv, r1⟩ : ∃ v, xs[i]? = some v ∧ RelV v x := by
      have hu : its[i]? = some x := by simpa using hx1
      exact valsGet rv hu
    refine ⟨[.int ((i : Nat) : Int), v], .cons ⟨t, by simp⟩ (.cons r1 .nil), sizeTwo, fun T nT => ⟨T, v, rfl, nT, rfl, fun ys hy => by rw [sqB_inj I hy hq]; exact hv⟩⟩
  done := by
    intro X e1 e2 e3 hc i pins s sg H I hf st hg
    subst e3
    obtain ⟨he, hi, n1, n2, n3⟩ := st
    obtain ⟨xs, hq, hx⟩ := hg
    obtain ⟨its, rv, p⟩ := sqB_inv I hq
    have hl := rv.length
    have D := WalksT.enumFrom (prog := P) (w := w) (A := X.A) 0 (drawsSq b (by first | exact I.ok.hd hc | (show X.A.in1.handled = none; exact I.ok.hd hc)) it a n3 its.toArray) e n1 (by simp; exact ⟨n1, fun z => n2 z.symm⟩) List.mem_cons_self
    have hn : its.toArray.size = i := by simp [← hl, hx]
    rw [hn] at D
    exact ⟨_, _, _, _, _, D, fun c hc => hc, by simpa using he, hi, p⟩
  self := fun U i s Q E st h => let ⟨⟨_, he⟩, _⟩ := st; wpAny_pyIter_enum he h
section
variable {prog : Program} {w : World} {U : Around} {E : Value → Shared → Prop} {s : Shared}
set_option maxHeartbeats 1000000 in
theorem meets_en {v : Value} {o : Obj} {G : Heap → Prop} (Bg : Begins v o G) :
    Meets (Builtin.«enumerate.__new__» ⟨[.type "enumerate", v], []⟩) (fun _ R s => G s.heap ∧
      R (.ok (.ret (.ref (s.heap.push o).objs.size))) { s with heap := (s.heap.push o).push { cls := .type "enumerate", data := .fields #[.none, .bool false, .ref s.heap.objs.size, rawInt 0, .none, .none] } }) :=
  .of_wp fun prog w U R s hh => by
    obtain ⟨hp, g, d, tk, os⟩ := s
    obtain ⟨hG, hR⟩ := hh
    have hsub := sub_enumerate
    have goI : ∀ {U' : Around} {E : Value → Shared → Prop} {Q : Value → Shared → Prop}, Q (.ref hp.objs.size) ⟨hp.push o, g, d, tk, os⟩ → wpAny (model prog w) U' (pyIter v) Q E ⟨hp, g, d, tk, os⟩ := fun q => Bg.iter prog w _ _ ⟨hp, g, d, tk, os⟩ _ hG q
    wp_walk using goI
    refine wpAny_stack_any fun st => wpAny_pure ?_
    split
    · rename_i cc _ _ _ _ _
      cases (cc == Value.type "enumerate") <;>
      · wp_walk using goI
        exact ⟨_, rfl, hR⟩
    · wp_walk using goI
      exact ⟨_, rfl, hR⟩
theorem call_en {v : Value} {o : Obj} {G : Heap → Prop} {Q : Value → Shared → Prop} (Bg : Begins v o G) (hG : G s.heap)
    (k : ∀ h', IsEnum h' (s.heap.objs.size + 1) s.heap.objs.size 0 .none → h'.get? s.heap.objs.size = some o → (∀ c u, s.heap.get? c = some u → h'.get? c = some u) → Q (.ref (s.heap.objs.size + 1)) { s with heap := h' }) :
    wpAny (model prog w) U (call (.type "enumerate") [v]) Q E s := by
  refine callType_new F.called_enumerate (by decide) (F.typeCall_enumerate_1 _) (F.newCall_enumerate_1 _) (fun obj => F.args_object_init_2 obj _) F.entry_enumerate_new (meets_en Bg) ⟨hG, ?_⟩
  have zz : (s.heap.push o).objs.size = s.heap.objs.size + 1 := Heap.size_push ..
  show _ ∧ _
  rw [zz]
  have g1 := Heap.get?_push_size (s.heap.push o) (o := { cls := .type "enumerate", data := .fields #[.none, .bool false, .ref s.heap.objs.size, rawInt 0, .none, .none] }) rfl
  rw [zz] at g1
  exact ⟨⟨_, g1, rfl⟩, k _ g1 (Heap.get?_push_of_some _ (Heap.get?_push_size _ Bg.free)) fun c u q => Heap.get?_push_of_some _ (Heap.get?_push_of_some _ q)⟩
end
theorem le2 : ∀ {n c : Nat}, c ∈ [n + 1, n] → n ≤ c := fun h => by
  simp at h; omega
theorem le5 : ∀ {n c : Nat}, c ∈ [n + 4, n + 2, n + 3, n, n + 1] → n ≤ c := fun h => by
  simp at h; omega
theorem ne3 : ∀ {n a : Nat}, a < n → n + 1 ≠ n ∧ a ≠ n + 1 ∧ a ≠ n := fun h => by omega
theorem ap5 : ∀ {n a : Nat}, a < n → a ∉ [n + 4, n + 2, n + 3, n, n + 1] := fun h => by
  simp; omega
theorem nd5 : ∀ {n : Nat}, [n + 4, n + 2, n + 3, n, n + 1].Nodup := by
  intro n; simp
def iEnQ (K : PySem.W.Frag) (ta : TA) : TI := fun sg H R => ta sg H fun vs H1 => ∃ b a xs, vs = [.ref a] ∧ SqB b K H1 a xs ∧ R (JEn b K a) H1
theorem pi_enQ {e : Expr} {ta : TA} {p pos tpos : Pos} {elts : List Expr} {kk : Nat} (hg : Gl X "enumerate") (hm : X.mg "enumerate" = none) (ha : PA X [e] ta) (hs : starEach [e] X.env = [(false, eval e X.env)] := by rfl) :
    PI X (.Tuple elts kk tpos) (.Call (.Name "enumerate" p) [e] [] pos) (iEnQ X.K ta) := by
  refine ⟨fun pins s sg H R I h => ?_⟩
  refine Call_ (ld_blt I hg hm boot_enumerate (PyProof.Rows.callWith_type1 (thn (ha.run pos pins s sg H _ I h) fun us s1 ⟨vs, H1, I1, r1, b, a, xs, ev, hq, q⟩ => ?_) hs rfl))
  subst ev
  obtain ⟨u, rfl, hu⟩ : ∃ u, us = [u] ∧ RelV (.ref a) u := by
    cases r1 with
    | cons r rr => cases rr; exact ⟨_, rfl, r⟩
  obtain rfl : u = Value.ref a := hu
  obtain ⟨its, rv, pp⟩ := sqB_inv I1 hq
  refine call_en (beginsSq b a its.toArray) pp fun h' he hi hk => wpAny_pyIter_enum he ?_
  have al := pp.lt
  have I2 : Inv X pins sg H1 { s1 with heap := h' } := I1.kept (t' := s1.toks) hk
  refine ⟨s1.heap.objs.size + 1, [s1.heap.objs.size + 1, s1.heap.objs.size], _, _, H1, rfl, I2, turn_wt (wt_enum (b := b) (a := a) (e := s1.heap.objs.size + 1) (it := s1.heap.objs.size)), ⟨⟨.none, he⟩, IsSI.of_get hi, ne3 al⟩, fun c hc => ?_, q⟩
  have le : s1.heap.objs.size ≤ c := le2 hc
  exact I1.fpOk le (I1.hok.fresh le)

def JZp (b1 b2 : Bool) (K : PySem.W.Frag) (a1 a2 : Addr) : It where
  go := fun i H => ∃ xs ys : List V, SqB b1 K H a1 xs ∧ SqB b2 K H a2 ys ∧ i < xs.length ∧ i < ys.length
  yld := fun i H v H' => ∃ T x y, v = .ref T ∧ H T = none ∧ H' = upd H T (.tup [x, y]) ∧ (∀ xs, SqB b1 K H a1 xs → xs[i]? = some x) ∧ ∀ ys, SqB b2 K H a2 ys → ys[i]? = some y
  stop := fun i H => ∃ xs ys : List V, SqB b1 K H a1 xs ∧ SqB b2 K H a2 ys ∧ min xs.length ys.length = i
structure Apart5 (z TI TO i1 i2 a1 a2 : Addr) : Prop where
  n : [z, TI, TO, i1, i2].Nodup
  a1 : a1 ∉ [z, TI, TO, i1, i2]
  a2 : a2 ∉ [z, TI, TO, i1, i2]
theorem Apart5.sep {z TI TO i1 i2 a1 a2 : Addr} (D : Apart5 z TI TO i1 i2 a1 a2) : ZipSep2 z TI TO i1 i2 [i1, a1] [i2, a2] := by
  obtain ⟨n, m1, m2⟩ := D
  simp only [List.nodup_cons, List.mem_cons, List.not_mem_nil, or_false, not_or] at n m1 m2
  constructor <;> simp <;> first | omega | exact ⟨by omega, by omega⟩ | grind
theorem mem45 {c z TI TO i1 i2 : Addr} (h : c ∈ [z, TO, i1, i2]) : c ∈ [z, TI, TO, i1, i2] := by
  rcases List.mem_cons.mp h with q | q
  · rw [q]; exact List.mem_cons_self
  · exact List.mem_cons_of_mem _ (List.mem_cons_of_mem _ q)
theorem wt_zip {P : Program} {w : World} {K : PySem.W.Frag} {b1 b2 : Bool} {z TI TO i1 i2 a1 a2 : Addr} (D : Apart5 z TI TO i1 i2 a1 a2) :
    WT P w K (JZp b1 b2 K a1 a2) [z, TI, TO, i1, i2] z (fun i h => IsZip h z TI TO .none ∧ IsTupOf2 h TI (.ref i1) (.ref i2) ∧ (∃ x y, IsTupOf2 h TO x y) ∧ IsSI b1 h i1 a1 i ∧ IsSI b2 h i2 a2 i) where
  mem := List.mem_cons_self
  obj := fun i h ⟨hz, hT, ⟨x, y, hO⟩, g1, g2⟩ c hc => by
    simp only [List.mem_cons, List.not_mem_nil, or_false] at hc
    rcases hc with q | q | q | q | q <;> rw [q]
    · exact ⟨_, hz, fun v q => nomatch q⟩
    · exact ⟨_, hT, fun v q => nomatch q⟩
    · exact ⟨_, hO, fun v q => nomatch q⟩
    · exact g1.obj
    · exact g2.obj
  keep := fun i h h' ⟨hz, hT, ⟨x, y, hO⟩, g1, g2⟩ k => ⟨k z (by simp) _ hz, k TI (by simp) _ hT, ⟨x, y, k TO (by simp) _ hO⟩, g1.keep fun o q => k i1 (by simp) o q, g2.keep fun o q => k i2 (by simp) o q⟩
  item := by
    intro X e1 e2 e3 hc i pins s sg H I hf st hg
    subst e3
    obtain ⟨hz, hT, hO, g1, g2⟩ := st
    obtain ⟨xs, ys, hqx, hqy, hx, hy⟩ := hg
    obtain ⟨us, ru, p1⟩ := sqB_inv I hqx
    obtain ⟨vs, rw', p2⟩ := sqB_inv I hqy
    have l1 := ru.length
    have l2 := rw'.length
    have n1 : a1 ≠ i1 := fun q => D.a1 (by simp [q])
    have n2 : a2 ≠ i2 := fun q => D.a2 (by simp [q])
    have hd := I.ok.hd hc
    refine ⟨_, _, _, _, _, _, WalksT.zipD2 (prog := P) (w := w) (A := X.A) D.sep (drawsSq b1 (by first | exact hd | (show X.A.in1.handled = none; exact hd)) i1 a1 n1 us.toArray) (drawsSq b2 (by first | exact hd | (show X.A.in1.handled = none; exact hd)) i2 a2 n2 vs.toArray), fun c hc => ?_, ?_, ⟨hz, hT, hO, ⟨g1, p1⟩, g2, p2⟩, fun h st' kk => ?_, fun vals hv => ?_⟩
    · exact mem45 hc
    · simp only [List.size_toArray, ← l1, ← l2]; exact Nat.lt_min.mpr ⟨hx, hy⟩
    · obtain ⟨q1, q2, q3, q4, q5⟩ := st'
      exact ⟨q1, q2, q3, q4.1, q5.1⟩
    · obtain ⟨x, y, hx1, hy1, rfl⟩ := hv
      obtain ⟨v, hv, r1⟩ := valsGet ru (show us[i]? = some x by simpa using hx1)
      obtain ⟨u, hu, r2⟩ := valsGet rw' (show vs[i]? = some y by simpa using hy1)
      exact ⟨[v, u], .cons r1 (.cons r2 .nil), sizeTwo, fun T nT => ⟨T, v, u, rfl, nT, rfl, fun zs hz => by rw [sqB_inj I hz hqx]; exact hv, fun zs hz => by rw [sqB_inj I hz hqy]; exact hu⟩⟩
  done := by
    intro X e1 e2 e3 hc i pins s sg H I hf st hg
    subst e3
    obtain ⟨hz, hT, hO, g1, g2⟩ := st
    obtain ⟨xs, ys, hqx, hqy, hx⟩ := hg
    obtain ⟨us, ru, p1⟩ := sqB_inv I hqx
    obtain ⟨vs, rw', p2⟩ := sqB_inv I hqy
    have l1 := ru.length
    have l2 := rw'.length
    have n1 : a1 ≠ i1 := fun q => D.a1 (by simp [q])
    have n2 : a2 ≠ i2 := fun q => D.a2 (by simp [q])
    have hd := I.ok.hd hc
    have W0 := WalksT.zipD2 (prog := P) (w := w) (A := X.A) D.sep (drawsSq b1 (by first | exact hd | (show X.A.in1.handled = none; exact hd)) i1 a1 n1 us.toArray) (drawsSq b2 (by first | exact hd | (show X.A.in1.handled = none; exact hd)) i2 a2 n2 vs.toArray)
    have hn : min us.toArray.size vs.toArray.size = i := by simp only [List.size_toArray, ← l1, ← l2]; exact hx
    rw [hn] at W0
    exact ⟨_, _, _, _, _, W0, fun c hc => mem45 hc, hz, hT, hO, ⟨g1, p1⟩, g2, p2⟩
  self := fun U i s Q E st h => wpAny_pyIter_zip st.1 h
def iZpQ (K : PySem.W.Frag) (ta : TA) : TI := fun sg H R => ta sg H fun vs H1 => ∃ b1 b2 a1 a2 xs ys, vs = [.ref a1, .ref a2] ∧ SqB b1 K H1 a1 xs ∧ SqB b2 K H1 a2 ys ∧ R (JZp b1 b2 K a1 a2) H1
theorem apart_new {n a1 a2 : Addr} (h1 : a1 < n) (h2 : a2 < n) : Apart5 (n + 4) (n + 2) (n + 3) n (n + 1) a1 a2 := ⟨nd5, ap5 h1, ap5 h2⟩
theorem zip_start {pins : List (Addr × Obj)} {sg : L2.St} {H1 : Hp} {s1 : Shared} {b1 b2 : Bool} {a1 a2 : Addr} {xs ys : List V} {R : It → Hp → Prop} {elts : List Expr} {kk : Nat} {tpos : Pos} (I1 : Inv X pins sg H1 s1) (hx : SqB b1 X.K H1 a1 xs) (hy : SqB b2 X.K H1 a2 ys) (q : R (JZp b1 b2 X.K a1 a2) H1)
    (h' : Heap) (hz : IsZip h' (s1.heap.objs.size + 4) (s1.heap.objs.size + 2) (s1.heap.objs.size + 3) .none) (hT : IsTupOf2 h' (s1.heap.objs.size + 2) (.ref s1.heap.objs.size) (.ref (s1.heap.objs.size + 1)))
    (hO : IsTupOf2 h' (s1.heap.objs.size + 3) .none .none) (g1 : h'.get? s1.heap.objs.size = some (soOf b1 a1)) (g2 : h'.get? (s1.heap.objs.size + 1) = some (soOf b2 a2)) (hk : ∀ c o, s1.heap.get? c = some o → h'.get? c = some o) :
    wpAny (model X.prog X.w) X.A (pyIter (.ref (s1.heap.objs.size + 4))) (PIE X pins sg (.Tuple elts kk tpos) R) X.xe { s1 with heap := h' } := by
  obtain ⟨us, ru, p1⟩ := sqB_inv I1 hx
  obtain ⟨vs, rw', p2⟩ := sqB_inv I1 hy
  refine wpAny_pyIter_zip hz ?_
  have I2 : Inv X pins sg H1 { s1 with heap := h' } := I1.kept (t' := s1.toks) hk
  refine ⟨s1.heap.objs.size + 4, [s1.heap.objs.size + 4, s1.heap.objs.size + 2, s1.heap.objs.size + 3, s1.heap.objs.size, s1.heap.objs.size + 1], _, _, H1, rfl, I2, turn_wt (wt_zip (b1 := b1) (b2 := b2) (apart_new p1.lt p2.lt)), ⟨hz, hT, ⟨_, _, hO⟩, IsSI.of_get g1, IsSI.of_get g2⟩, fun c hc => ?_, q⟩
  have le : s1.heap.objs.size ≤ c := le5 hc
  exact I1.fpOk le (I1.hok.fresh le)
theorem pi_zpQ {e e2 : Expr} {ta : TA} {p pos tpos : Pos} {elts : List Expr} {kk : Nat} (hg : Gl X "zip") (hm : X.mg "zip" = none) (ha : PA X [e, e2] ta)
    (hs : starEach [e, e2] X.env = (false, eval e X.env) :: starEach [e2] X.env := by rfl) (hpl : (backTo pos (starEach [e2] X.env)).any (·.1) = false := by rfl) :
    PI X (.Tuple elts kk tpos) (.Call (.Name "zip" p) [e, e2] [] pos) (iZpQ X.K ta) := by
  refine ⟨fun pins s sg H R I h => ?_⟩
  refine Call_ (ld_blt I hg hm PyProof.Rows.boot_zip (PyProof.Rows.callWith_type1 (thn (ha.run pos pins s sg H _ I h) fun us s1 ⟨vs, H1, I1, r1, b1, b2, a1, a2, xs, ys, ev, hx, hy, q⟩ => ?_) hs hpl))
  subst ev
  obtain ⟨u1, u2, rfl, hu1, hu2⟩ : ∃ u1 u2, us = [u1, u2] ∧ RelV (.ref a1) u1 ∧ RelV (.ref a2) u2 := by
    cases r1 with
    | cons r rr => cases rr with
      | cons r' rr => cases rr; exact ⟨_, _, rfl, r, r'⟩
  obtain rfl : u1 = Value.ref a1 := hu1
  obtain rfl : u2 = Value.ref a2 := hu2
  obtain ⟨us, ru, p1⟩ := sqB_inv I1 hx
  obtain ⟨vs, rw', p2⟩ := sqB_inv I1 hy
  exact zip_begins2 (beginsSq b1 a1 us.toArray) (beginsSq b2 a2 vs.toArray) p1 p2 fun h' hz hT hO g1 g2 hsz hk => zip_start I1 hx hy q h' hz hT hO g1 g2 hk
end HQ
namespace HQ
open PySem PySem.Spec PyProof.Rows L2
variable {X : L2.Cx} {B : Bm} {Wx : WX} {A : Am}

/-- a list or a tuple that stays as it is -/
theorem sq_of {e : Emb} {nx : Nat} {H : Hp} {w : W} {v : V} {ws : List W} (r : VR A e nx H w v) (h : wSeq w = some ws) : ∃ b a xs, v = .ref a ∧ VRs A e nx H ws xs ∧ xs.length ≤ sizeLine ∧ ∀ e1 n1 H1, ExV A e nx H e1 n1 H1 → SqB b A.K H1 a xs := by
  cases r with
  | tup g z r =>
    cases h
    exact ⟨false, _, _, rfl, r, z, fun e1 n1 H1 x => .of (x.tup _ _ g)⟩
  | lst f g z r =>
    cases h
    exact ⟨true, _, _, rfl, r, z, fun e1 n1 H1 x => .of (by rw [x.keep _ f]; exact g)⟩
  | _ => cases h
/-- a fact of every heap that has such a list tells its items -/
def enL : Nat → List W → List W
  | _, [] => []
  | n, w :: ws => .tup [.int ((n : Nat) : Int), w] :: enL (n + 1) ws
theorem enL_len : ∀ (ws : List W) (n : Nat), (enL n ws).length = ws.length
  | [], _ => rfl
  | _ :: ws, n => by simp [enL, enL_len ws (n + 1)]
theorem enL_get : ∀ (ws : List W) (n i : Nat) (u : W), (enL n ws)[i]? = some u → ∃ w, ws[i]? = some w ∧ u = .tup [.int (((n + i : Nat)) : Int), w]
  | [], _, _, _, h => by simp [enL] at h
  | w :: ws, n, 0, u, h => by
    simp [enL] at h
    exact ⟨w, rfl, by simp [h]⟩
  | w :: ws, n, i + 1, u, h => by
    obtain ⟨x, h1, h2⟩ := enL_get ws (n + 1) i u (by simpa [enL] using h)
    refine ⟨x, by simpa using h1, ?_⟩
    rw [h2, show n + 1 + i = n + (i + 1) by omega]
def zpL : List W → List W → List W
  | w :: ws, u :: us => .tup [w, u] :: zpL ws us
  | _, _ => []
theorem zpL_len : ∀ (ws us : List W), (zpL ws us).length = min ws.length us.length
  | [], us => by simp [zpL]
  | _ :: _, [] => by simp [zpL]
  | _ :: ws, _ :: us => by simp [zpL, zpL_len ws us]
theorem zpL_get : ∀ (ws us : List W) (i : Nat) (t : W), (zpL ws us)[i]? = some t → ∃ w u, ws[i]? = some w ∧ us[i]? = some u ∧ t = .tup [w, u]
  | [], us, i, t, h => by simp [zpL] at h
  | _ :: _, [], i, t, h => by simp [zpL] at h
  | w :: ws, u :: us, 0, t, h => by
    simp [zpL] at h
    exact ⟨w, u, rfl, rfl, h.symm⟩
  | w :: ws, u :: us, i + 1, t, h => by
    obtain ⟨x, y, h1, h2, h3⟩ := zpL_get ws us i t (by simpa [zpL] using h)
    exact ⟨x, y, by simpa using h1, by simpa using h2, h3⟩
/-- a new tuple, seen by a walk -/
theorem walk_tup {e1 : Emb} {S1 : Hs} {H1 : Hp} {T : Addr} {ws : List W} {xs : List V} (rp : Rep A e1 S1 H1) (n : H1 T = none) (z : xs.length ≤ sizeLine) (r : VRs A e1 S1.nx H1 ws xs) :
    ∃ e2, Ext A e1 S1.nx H1 e2 S1.nx (upd H1 T (.tup xs)) ∧ Rep A e2 S1 (upd H1 T (.tup xs)) ∧ VR A e2 S1.nx (upd H1 T (.tup xs)) (.tup ws) (.ref T) :=
  have x := Ext.new (o := .tup xs) rp n e1.fz fun _ h => h
  ⟨_, x, Rep.new rp n e1.fz (fun _ h => h) fun _ h => .inl h, .tup upd_same z (r.ext x)⟩
theorem walks_en {e : Emb} {nx : Nat} {H : Hp} {ws : List W} {b : Bool} {a : Addr} {xs : List V} (z : xs.length ≤ sizeLine) (r : VRs A e nx H ws xs) (k : ∀ e1 n1 H1, ExV A e nx H e1 n1 H1 → SqB b A.K H1 a xs) : Walks A (enL 0 ws) e nx H (JEn b A.K a) where
  len := by rw [enL_len, r.length]; exact z
  go := fun e1 S1 H1 x rp i u hu => by
    obtain ⟨w, hw, rfl⟩ := enL_get ws 0 i u hu
    obtain ⟨v, h1, h2⟩ := r.get hw
    have g := k _ _ _ x.toExV
    refine ⟨⟨xs, g, (List.getElem?_eq_some_iff.mp h1).1⟩, fun y H2 ⟨T, q, e3, nT, e4, hq⟩ => ?_⟩
    obtain rfl : v = q := Option.some.inj (h1.symm.trans (hq xs g))
    subst e3 e4
    rw [Nat.zero_add]
    exact walk_tup rp nT sizeTwo (.cons (.int _) (.cons (h2.ext x) .nil))
  stop := fun e1 S1 H1 x rp => ⟨xs, k _ _ _ x.toExV, by rw [enL_len, r.length]⟩
theorem walks_zp {e : Emb} {nx : Nat} {H : Hp} {ws us : List W} {b1 b2 : Bool} {a1 a2 : Addr} {xs ys : List V} (z : xs.length ≤ sizeLine) (r1 : VRs A e nx H ws xs) (r2 : VRs A e nx H us ys) (k1 : ∀ e1 n1 H1, ExV A e nx H e1 n1 H1 → SqB b1 A.K H1 a1 xs)
    (k2 : ∀ e1 n1 H1, ExV A e nx H e1 n1 H1 → SqB b2 A.K H1 a2 ys) : Walks A (zpL ws us) e nx H (JZp b1 b2 A.K a1 a2) where
  len := by rw [zpL_len, r1.length]; omega
  go := fun e1 S1 H1 x rp i t ht => by
    obtain ⟨w, u, hw, hu, rfl⟩ := zpL_get ws us i t ht
    obtain ⟨v, h1, h2⟩ := r1.get hw
    obtain ⟨y, h3, h4⟩ := r2.get hu
    have g1 := k1 _ _ _ x.toExV
    have g2 := k2 _ _ _ x.toExV
    refine ⟨⟨xs, ys, g1, g2, (List.getElem?_eq_some_iff.mp h1).1, (List.getElem?_eq_some_iff.mp h3).1⟩, fun y0 H2 ⟨T, q1, q2, e3, nT, e4, hq1, hq2⟩ => ?_⟩
    obtain rfl : v = q1 := Option.some.inj (h1.symm.trans (hq1 xs g1))
    obtain rfl : y = q2 := Option.some.inj (h3.symm.trans (hq2 ys g2))
    subst e3 e4
    exact walk_tup rp nT sizeTwo (.cons (h2.ext x) (.cons (h4.ext x) .nil))
  stop := fun e1 S1 H1 x rp => ⟨xs, ys, k1 _ _ _ x.toExV, k2 _ _ _ x.toExV, by rw [zpL_len, r1.length, r2.length]⟩
def iEn (f : Den) : DenI := fun sl S => (f sl S).bind fun r => match wSeq r.1 with
  | some ws => .ok (enL 0 ws, r.2)
  | none => .stuck
def zp2 : List W → Option (List W)
  | [a, b] => (match wSeq a, wSeq b with
    | some ws, some us => some (zpL ws us)
    | _, _ => none)
  | _ => none
def iZp (ds : List Den) : DenI := fun sl S => (evs ds sl S).bind fun r => match zp2 r.1 with
  | some ws => .ok (ws, r.2)
  | none => .stuck
section
variable {a b : Expr} {f g : Den} {p pos tpos : Pos} {elts : List Expr} {kk : Nat}
theorem si_en (hg : Gl X "enumerate") (hm : X.mg "enumerate" = none) (ha : SE X B Wx a f) (hs : starEach [a] X.env = [(false, eval a X.env)] := by rfl) : SI X B Wx (.Tuple elts kk tpos) (.Call (.Name "enumerate" p) [a] [] pos) (iEn f) :=
  weakI (pi_enQ hg hm (sa_cons ha sa_nil hs) hs) fun sg H R ⟨e, S, sl, rp, rs, h⟩ =>
    partA (ds := [f]) (k := fun ws S1 => match ws with
      | [w] => (match wSeq w with
        | some ws => .ok (enL 0 ws, S1)
        | none => .stuck)
      | _ => .stuck) Ext.refl rp rs (by
        simp only [evs, wp_bind] at h ⊢
        exact wp_mono (wp_bind.mp h) (fun _ q => q) fun _ _ _ q => q) fun e1 S1 H1 ws vs l x1 _ rp1 rs1 rv1 h1 => by
      match ws, l with
      | [w], _ =>
        obtain ⟨v, rfl, r1⟩ := rv1.one
        simp only at h1
        cases q : wSeq w with
        | none => simp only [q] at h1; exact (show False from h1).elim
        | some us =>
          simp only [q] at h1
          obtain ⟨b, a, xs, rfl, r, z, k⟩ := sq_of r1 q
          exact ⟨b, a, xs, rfl, k _ _ _ Ext.refl.toExV, h1 e1 H1 _ x1 rp1 (walks_en z r k)⟩
theorem rd_zp {ds : List Den} (hl : ds.length = 2) : ∀ sg H R, rdI A Wx (iZp ds) sg H R → iZpQ A.K (rdA A Wx ds) sg H R := fun sg H R ⟨e, S, sl, rp, rs, h⟩ =>
  partA (k := fun ws S1 => match zp2 ws with
      | some ws => .ok (ws, S1)
      | none => .stuck) Ext.refl rp rs h fun e1 S1 H1 ws vs l x1 _ rp1 rs1 rv1 h1 => by
      cases q : zp2 ws with
      | none => simp only [q] at h1; exact (show False from h1).elim
      | some zs =>
        simp only [q] at h1
        match ws, q with
        | [w, u], q =>
          obtain ⟨v, y, rfl, r1, r2⟩ := rv1.two
          unfold zp2 at q
          cases q1 : wSeq w with
          | none => simp [q1] at q
          | some as =>
            cases q2 : wSeq u with
            | none => simp [q1, q2] at q
            | some bs =>
              simp only [q1, q2] at q
              cases q
              obtain ⟨b1, a1, xs, rfl, s1, z1, k1⟩ := sq_of r1 q1
              obtain ⟨b2, a2, ys, rfl, s2, z2, k2⟩ := sq_of r2 q2
              exact ⟨b1, b2, a1, a2, xs, ys, rfl, k1 _ _ _ Ext.refl.toExV, k2 _ _ _ Ext.refl.toExV, h1 e1 H1 _ x1 rp1 (walks_zp z1 s1 s2 k1 k2)⟩
theorem si_zp (hg : Gl X "zip") (hm : X.mg "zip" = none) (ha : SE X B Wx a f) (hb : SE X B Wx b g) (hs : starEach [a, b] X.env = (false, eval a X.env) :: starEach [b] X.env := by rfl) (hs2 : starEach [b] X.env = (false, eval b X.env) :: starEach [] X.env := by rfl)
    (hpl : (backTo pos (starEach [b] X.env)).any (·.1) = false := by rfl) : SI X B Wx (.Tuple elts kk tpos) (.Call (.Name "zip" p) [a, b] [] pos) (iZp [f, g]) :=
  weakI (pi_zpQ hg hm (sa_cons ha (sa_cons hb sa_nil hs2) hs) hs hpl) (rd_zp rfl)
end
end HQ
namespace HQ
open PySem PySem.Spec PyProof.Rows L2

section
variable {P : Program} {w : World} {K : PySem.W.Frag} {mg mb : Str → Option Value} {k : Nat} {fa a : Addr} {fd : FuncData} {x : Str} {sp : Sp} {s1 : Shared} {vs : List Value} {ns : List Int}
abbrev EndsWell (P : Program) (w : World) (fa a : Addr) (s1 : Shared) : Prop :=
  codeAny (model P w) callerA (.call (.ref fa) ⟨[.ref a], []⟩) (fun r s' => r = .ok (.ret (.bool true)) ∧ OldK s1.heap s'.heap ∧ s'.os = s1.os ∧ AllBare s'.gens) s1
theorem noFrs {Pd : Addr → Prop} : ∀ b ∈ frs ([] : List Env), Pd b := fun b z => absurd (show b ∈ ([] : List Addr) from z) List.not_mem_nil
/-- from a description H of the heap that tells of the script at most -/
theorem law_core (KX : K.In s1.heap) (hns : s1.heap.Ns mainGlobals mg) (hb : s1.heap.Ns builtinsNs mb) (hbb : ∀ x : Str, x ≠ "__name__" → mb x = bootBuiltins x) (hlim : s1.heap.NoLimit) (hg : s1.gens = #[])
    (ha : s1.heap.get? a = some { cls := .type "list", data := .seq vs.toArray }) (hr : Room k callerA) (F : ∀ base : Heap, K.In base → base.Ns mainGlobals mg → FnQ P w K mg base k fa fd [x] sp) (hbind : ∀ (s : Shared) (u : Value), BindsTo s fd ⟨[u], []⟩ [(x, u)])
    (H : Hp) (only : ∀ b, H b = none ∨ b = a) (fzd : ∀ b u, H b = some u → ∃ o xs, u = .frz o (.lst xs)) (hok : HOk P w H s1.heap) (hK : H a ≠ none → K.lookup a = none) (hs : sp [.ref a] H (fun v _ => v = .bl true) fun _ _ _ => False) : EndsWell P w fa a s1 := by
  have stay : ∀ {b : Addr} {o : Obj}, s1.heap.get? b = some o → H b = none → (hidT s1.heap H).get? b = some o := fun q n => hidT_get q n
  have isDict : ∀ {b : Addr} {o : Obj} {es : Array DictEntry} {ep : Nat}, s1.heap.get? b = some o → o.data = .dict es ep → H b = none := fun {b o es ep} q d => by
    rcases only b with z | z
    · exact z
    · subst z
      rw [ha] at q
      cases q
      exact nomatch d
  have nss : ∀ {b : Addr} {m : Str → Option Value}, s1.heap.Ns b m → (hidT s1.heap H).Ns b m := fun ⟨o, es, ep, q, d, r⟩ => ⟨o, es, ep, stay q (isDict q d), d, r⟩
  have kb : K.In (hidT s1.heap H) := fun b o q => stay (KX b o q) (by
    rcases only b with z | z
    · exact z
    · subst z
      cases y : H b with
      | none => rfl
      | some u => rw [hK (by rw [y]; exact Option.some_ne_none u)] at q; cases q)
  have md : Mod K mg (hidT s1.heap H) := ⟨kb, nss hns, ⟨mb, nss hb, hbb⟩, let ⟨mc, q1, q2⟩ := hlim; ⟨mc, nss q1, q2⟩⟩
  have env : Env0 P w K mg (hidT s1.heap H) callerA [] s1 H := ⟨rfl, md, fun b o q => of_hidT q, Nat.le_of_eq (hidT_size _ _), trivial, noFrs, hok, .of_eq hg⟩
  refine codeAny_mono ((F _ kb (nss hns)).run callerA [] s1 H ⟨[.ref a], []⟩ [.ref a] [.ref a] _ _ rfl hr env (hbind s1 (.ref a)) (.cons rfl .nil) hs) fun r s' q => ?_
  match r, q with
  | .error e, q =>
    obtain ⟨_, _, _, _, _, _, _, _, _, _, _, _, z⟩ := q
    exact z.elim
  | .ok (.ret u), q =>
    obtain ⟨v, H', os, bare, un, ok', rv, e⟩ := q
    subst e
    cases (show u = Value.bool true from rv)
    refine ⟨rfl, OldK.of_keep fun b o q => ?_, os, bare⟩
    cases y : H b with
    | none => exact un.keep b o q y (fun z => noFrs (Pd := fun _ => False) b z) List.not_mem_nil
    | some u =>
      obtain ⟨ob, xs, z⟩ := fzd b u y
      subst z
      obtain ⟨e1, _⟩ := hok b _ y
      obtain ⟨e2, _⟩ := ok' b _ (un.frzs b ob _ y)
      rw [q] at e1
      cases e1
      exact e2
theorem law_end (KX : K.In s1.heap) (hns : s1.heap.Ns mainGlobals mg) (hb : s1.heap.Ns builtinsNs mb) (hbb : ∀ x : Str, x ≠ "__name__" → mb x = bootBuiltins x) (hlim : s1.heap.NoLimit) (hg : s1.gens = #[])
    (ha : s1.heap.get? a = some { cls := .type "list", data := .seq vs.toArray }) (hi : IntsAre vs ns) (hl : ns.length ≤ sizeLine) (hr : Room k callerA) (F : ∀ base : Heap, K.In base → base.Ns mainGlobals mg → FnQ P w K mg base k fa fd [x] sp)
    (hbind : ∀ (s : Shared) (u : Value), BindsTo s fd ⟨[u], []⟩ [(x, u)])
    (hs : ∀ H : Hp, (∀ b, H b = none ∨ b = a) → SqL K H a (ns.map V.int) → sp [.ref a] H (fun v _ => v = .bl true) fun _ _ _ => False) : EndsWell P w fa a s1 := by
  have rv := vals_ints hi
  cases q : K.lookup a with
  | some o =>
    have e := KX a o q
    rw [ha] at e
    cases e
    refine law_core KX hns hb hbb hlim hg ha hr F hbind (fun _ => none) (fun b => .inl rfl) (fun b u z => nomatch z) (fun b u z => nomatch z) (fun z => absurd rfl z) (hs _ (fun b => .inl rfl) (.inr ⟨_, vs.toArray, _, q, rfl, rfl, rfl, ?_, by simpa using rv⟩))
    rw [List.size_toArray, hi.length]
    exact hl
  | none =>
    obtain ⟨H, at_, only⟩ : ∃ H : Hp, H a = some (HO.frz { cls := .type "list", data := .seq vs.toArray } (.lst (ns.map V.int))) ∧ ∀ b, H b = none ∨ b = a :=
      ⟨fun b => if b = a then some (HO.frz { cls := .type "list", data := .seq vs.toArray } (.lst (ns.map V.int))) else none, if_pos rfl, fun b => by
        by_cases z : b = a
        · exact .inr z
        · exact .inl (if_neg z)⟩
    refine law_core KX hns hb hbb hlim hg ha hr F hbind _ only (fun b u z => ?_) (fun b u z => ?_) (fun _ => q) (hs _ only (.inl (.inr ⟨_, at_⟩)))
    · rcases only b with y | y
      · rw [y] at z; cases z
      · subst y
        rw [at_] at z
        cases z
        exact ⟨_, _, rfl⟩
    · rcases only b with y | y
      · rw [y] at z; cases z
      · subst y
        rw [at_] at z
        cases z
        exact ⟨ha, by rw [List.length_map]; exact hl, vs, _, rv, ha⟩
end
theorem walk_q {l : PySem.W.OpenLaw} {n k : Nat} {q : Program} {loose : List Str} {XP : (Str → Option Value) → Heap → Prop} {YP : World → Heap → Prop} {d : DefRec} {x : Str}
    (hn : l.most = some n) (hn2 : n ≤ sizeLine) (hdf : d.params.defaults = []) (hr : Room k callerA)
    (F : ∀ (w : World) (mg : Str → Option Value) (fa : Addr) (h : Heap), YP w h → h.Ns mainGlobals mg → mg d.name = some (.ref fa) →
      ∃ (K : PySem.W.Frag) (fd : FuncData), K.In h ∧ (∀ (s : Shared) (u : Value), BindsTo s fd ⟨[u], []⟩ [(x, u)]) ∧
        ∀ (a : Addr) (ns : List Int), ns.length ≤ n → ∃ sp : Sp, (∀ H : Hp, (∀ b, H b = none ∨ b = a) → SqL K H a (ns.map V.int) → sp [.ref a] H (fun v _ => v = .bl true) fun _ _ _ => False) ∧
          ∀ base : Heap, K.In base → base.Ns mainGlobals mg → FnQ l.prog w K mg base k fa fd [x] sp) :
    PySem.W.WalkO q loose XP YP l.row.toRowW d [] (fun f vs => PySem.call f vs) := by
  refine Att.attach_call hn hdf fun w s0 s1 mg mb fa o pm cd doc a vs ns G Y ho hd hcd hmg hobj hints hlen hg => ?_
  obtain ⟨K, fd, KX, hb, hF⟩ := F w mg fa _ Y G.T.g hmg
  obtain ⟨sp, hs, hF⟩ := hF a ns hlen
  exact law_end KX G.T.g G.T.b G.T.builtins G.T.nolimit hg hobj hints (Nat.le_trans hlen hn2) hr hF hb hs
end HQ
namespace HQ
open PySem PySem.Spec PyProof.Rows L2
variable {X : L2.Cx} {B : Bm} {Wx : WX} {A : Am}

abbrev AlQ : Type := He.AlT × Bool
def frQ (n : Nat) (g : Addr → Option Obj) : PySem.W.Frag := He.frG g (He.asD g n ++ [sysModules])
def obsQ (n : Nat) (fa : List He.Fa) (fn : List He.DefD) (ts : List He.Tab) (ex : PySem.W.Frag → Bool) (g : Addr → Option Obj) : AlQ := (He.obsT fa fn ts (frQ n g), ex (frQ n g))
structure SaysQ (fa : List He.Fa) (fn : List He.DefD) (ts : List He.Tab) (ex : PySem.W.Frag → Bool) (w : World) (K : PySem.W.Frag) : Prop where
  t : He.SaysT fa fn ts w K
  ex : ex K = true
def hookQ (n : Nat) (fa : List He.Fa) (fn : List He.DefD) (ts : List He.Tab) (ex : PySem.W.Frag → Bool) : PySem.W.Hook where
  α := AlQ
  obs := fun s => obsQ n fa fn ts ex s.heap.get?
  val := fun w => (He.valT fn ts w, true)
  says := fun w h => ∃ K : PySem.W.Frag, K.In h ∧ SaysQ fa fn ts ex w K
  of := fun _ _ e => ⟨_, He.frG_in, congrArg Prod.fst e, congrArg Prod.snd e⟩
  keeps := fun _ _ _ ⟨K, hK, c⟩ k => ⟨K, PySem.W.Frag.In.keeps hK k, c⟩
theorem obsQ_eq {n : Nat} {fa : List He.Fa} {fn : List He.DefD} {ts : List He.Tab} {ex : PySem.W.Frag → Bool} {g : Addr → Option Obj} {s : Shared} (h : ∀ a, g a = s.heap.get? a) : obsQ n fa fn ts ex g = (hookQ n fa fn ts ex).obs s := by
  obtain rfl : g = s.heap.get? := funext h
  rfl

/-- sys.modules is a dict, so no list or tuple stands there -/
def smB (K : PySem.W.Frag) : Bool := match K.lookup sysModules with
  | some o => decide (o.cls = .type "dict")
  | none => false
def SmR (K : PySem.W.Frag) : Prop := ∃ o, K.lookup sysModules = some o ∧ o.cls = .type "dict"
theorem smB_ok {K : PySem.W.Frag} (h : smB K = true) : SmR K := by
  unfold smB at h
  split at h
  · next o q => exact ⟨o, q, of_decide_eq_true h⟩
  · cases h
/-- a table: keys by their codes, numbers -/
structure TabR (K : PySem.W.Frag) (w : World) (d : Addr) (kvs : List (Nat × Int)) : Prop where
  kd : ∃ es n, KDict K w d es n
  hit : ∀ c i, kvs.lookup c = some i → ∃ t, PySem.W.nsIn K d (dec c) = some (some (.int i t))
  miss : ∀ c, kvs.lookup c = none → PySem.W.nsIn K d (dec c) = some none
def tabB (K : PySem.W.Frag) (d : Addr) (kvs : List (Nat × Int)) : Bool := kvs.all fun q => match PySem.W.nsIn K d (dec q.1) with
  | some (some (.int i _)) => decide (kvs.lookup q.1 = some i)
  | _ => false
theorem keysIn_mem {P : Params} : ∀ {l : List DictEntry} {ks : List Str}, l.map He.keyOf = He.keysIn P ks → ∀ e ∈ l, ∃ x t, e.key = .str x t ∧ x ∈ ks
  | [], _, _, e, h => by cases h
  | d :: l, [], h, _, _ => by cases h
  | d :: l, k :: ks, h, e, he => by
    have h2 : He.keyOf d :: l.map He.keyOf = some (k, PyData.keyHash P k) :: He.keysIn P ks := h
    injection h2 with h3 h4
    rcases List.mem_cons.mp he with z | z
    · subst z
      unfold He.keyOf at h3
      split at h3
      · next x t q =>
        have hx := (Prod.mk.inj (Option.some.inj h3)).1
        exact ⟨x, t, q, by rw [hx]; exact List.mem_cons_self⟩
      · cases h3
    · obtain ⟨x, t, q1, q2⟩ := keysIn_mem h4 e z
      exact ⟨x, t, q1, List.mem_cons_of_mem _ q2⟩
theorem dicW_es {K : PySem.W.Frag} {P : Params} {a : Addr} {ks : List Str} (h : He.dicW K a = some (He.keysIn P ks)) : ∃ o es n, K.lookup a = some o ∧ o.data = .dict es n ∧ es.toList.map He.keyOf = He.keysIn P ks := by
  unfold He.dicW at h
  split at h
  · next c es n sl q =>
    split at h
    · exact ⟨_, es, n, q, rfl, Option.some.inj h⟩
    · cases h
  · cases h
theorem lookup_mem_key : ∀ {kvs : List (Nat × Int)} {c : Nat}, kvs.lookup c = none → ∀ q ∈ kvs, q.1 ≠ c
  | [], _, _, _, h => by cases h
  | (k, v) :: r, c, h, q, hq => by
    have hk : ¬ c = k := fun z => by subst z; simp [List.lookup] at h
    have h2 : r.lookup c = none := by
      have : (c == k) = false := beq_eq_false_iff_ne.mpr hk
      simpa [List.lookup, this] using h
    rcases List.mem_cons.mp hq with z | z
    · rw [z]; exact fun y => hk y.symm
    · exact lookup_mem_key h2 q z
theorem lookup_key_mem : ∀ {kvs : List (Nat × Int)} {c : Nat} {i : Int}, kvs.lookup c = some i → (c, i) ∈ kvs
  | [], _, _, h => by cases h
  | (k, v) :: r, c, i, h => by
    by_cases hk : c = k
    · subst hk
      simp [List.lookup] at h
      subst h
      exact List.mem_cons_self
    · have : (c == k) = false := beq_eq_false_iff_ne.mpr hk
      exact List.mem_cons_of_mem _ (lookup_key_mem (by simpa [List.lookup, this] using h))
/-- the head's facts of a table -/
theorem tab_ok {K : PySem.W.Frag} {w : World} {a : Addr} {kvs : List (Nat × Int)} (h : He.dicW K a = some (He.keysIn w.params (kvs.map fun q => dec q.1))) (hv : tabB K a kvs = true) : TabR K w a kvs where
  kd := He.dicW_ok h
  hit := fun c i hc => by
    have := List.all_eq_true.mp hv _ (lookup_key_mem hc)
    simp only at this
    split at this
    · next j t q =>
      have e : kvs.lookup c = some j := of_decide_eq_true this
      rw [hc] at e
      cases e
      exact ⟨_, q⟩
    · cases this
  miss := fun c hc => by
    obtain ⟨o, es, n, lk, hd, hk⟩ := dicW_es h
    have key := keysIn_mem hk
    obtain ⟨oc, od, dt, sl⟩ := o
    have hd' : dt = .dict es n := hd
    subst hd'
    have f : es.toList.find? (·.key.isStr (dec c)) = none := List.find?_eq_none.mpr fun e he => by
      obtain ⟨x, t, q1, q2⟩ := key e he
      obtain ⟨q, q3, q4⟩ := List.mem_map.mp q2
      have ne : q.1 ≠ c := lookup_mem_key hc q q3
      have nx : x ≠ dec c := fun z => ne (dec_inj (q4.trans z))
      rw [q1]
      simpa [Value.isStr] using nx
    have r : es.toList.any (·.refKey) = false := List.any_eq_false.mpr fun e he => by
      obtain ⟨x, t, q1, q2⟩ := key e he
      simp [DictEntry.refKey, q1]
    unfold PySem.W.nsIn
    rw [lk]
    simp only [f, r]
    rfl
end HQ
namespace HQ
open PySem PySem.Spec PyProof.Rows L2
variable {X : L2.Cx} {B : Bm} {Wx : WX} {A : Am} {P : Program} {w : World} {K : PySem.W.Frag} {mg : Str → Option Value} {base : Heap} {N : List Str} {sc scope : Scope} {k : Nat}

section
variable {x : Str} {pos : Pos} {i : Nat}
theorem Bd.v (d : Bd P w K mg base N sc k X Wx) (i : Nat) (h : varOk N sc i x = true) : SE X B Wx (.Name x pos) (cVar i) := d.fr.var h
theorem Bd.gl (d : Bd P w K mg base N sc k X Wx) (h : glOk sc x = true) : Gl X x := d.fr.gl h
theorem Bd.fre (d : Bd P w K mg base N sc k X Wx) (h : mg x = none) : X.mg x = none := by rw [d.mg]; exact h
theorem Bd.at (d : Bd P w K mg base N sc k X Wx) {u : Value} (h : mg x = some u) : X.mg x = some u := by rw [d.mg]; exact h
/-- a number of the top -/
theorem Bd.num (d : Bd P w K mg base N sc k X Wx) {z : Int} (t : ∃ t, mg x = some (.int z t)) (h : glOk sc x = true) : SE X B Wx (.Name x pos) (cC (.int z)) := by
  obtain ⟨t, q⟩ := t
  exact weakE (pe_glob (v := .int z) (d.gl h) (d.at q) ⟨t, rfl⟩ (glOk.db h)) (rd_const fun _ _ _ => .int z)
end

def rl (scope sc : Scope) : Scope := { scope with names := scope.names.map fun (n, k) => if (k == .free && sc.kind == .function && sc.names.lookup n == some .cell) then (n, .cell) else (n, k) }
structure Bb (P : Program) (w : World) (K : PySem.W.Frag) (mg : Str → Option Value) (base : Heap) (N : List Str) (scope sc : Scope) (k : Nat) (X : L2.Cx) : Prop extends Bd P w K mg base N (rl scope sc) k X WF where
  fnb : ∀ x, scope.names.lookup x = some .cell → X.fn x = true
theorem takesF : Takes X WF := fun u s' ⟨a, B, sI, pins, sg, H, cls, d, e, I, nb, up, sky, na, os, ag, w⟩ => w.elim
theorem Bd.blk (d : Bd P w K mg base N sc k X Wx) (s : Shared) (H : Hp) (C : Addr) (cl : List (Str × Addr)) (fp : List Addr) : Bb P w K mg base N scope sc k (X.blk s H scope (compEnvC scope cl C X.env) fp) where
  prog := d.prog
  w := d.w
  K := d.K
  mg := d.mg
  base := d.base
  nd := d.nd
  fr := ⟨d.fr.n, by
    show relabel scope X.env = rl scope sc
    have e := d.fr.s
    subst e
    rfl⟩
  calm := d.calm
  takes := takesF
  room := d.room
  gd := d.gd
  fnb := fun x h => by
    show (scope.names.lookup x == some .cell) = true
    rw [h]; rfl
/-- a target's name in a block -/
def tgOk (N : List Str) (scope sc : Scope) (i : Nat) (x : Str) : Bool := decide (N[i]? = some x) && (decide ((rl scope sc).names.lookup x = some .local) || (decide ((rl scope sc).names.lookup x = some .cell) && decide (scope.names.lookup x = some .cell)))
theorem Bb.nm (d : Bb P w K mg base N scope sc k X) (i : Nat) {x : Str} {pos : Pos} (h : tgOk N scope sc i x = true) : STg X (.Name x pos) (.nm i) := by
  obtain ⟨h1, h2⟩ := Bool.and_eq_true_iff.mp h
  have n1 : X.N[i]? = some x := by rw [d.fr.n]; exact of_decide_eq_true h1
  have nd : X.N.Nodup := by rw [d.fr.n]; exact d.nd
  rcases Bool.or_eq_true_iff.mp h2 with q | q
  · have q' : X.env.scope.names.lookup x = some .local := by rw [d.fr.s]; exact of_decide_eq_true q
    exact stg_name nd n1 (.inl q') (.inr q')
  · obtain ⟨q1, q2⟩ := Bool.and_eq_true_iff.mp q
    exact stg_name nd n1 (.inr (by rw [d.fr.s]; exact of_decide_eq_true q1)) (.inl (d.fnb x (of_decide_eq_true q2)))
section
variable {elt tg iter c : Expr} {own : List (Str × Nat)} {pos : Pos} {it : DenI} {g : Tg} {f : Den} {t : DenB}
theorem Bd.lc (d : Bd P w K mg base N sc k X Wx) (own : List (Str × Nat)) (hi : SI X B Wx tg iter it) (ok : blkC N sc scope own = true) (hg : ∀ X', Bb P w K mg base N scope sc k X' → STg X' tg g) (he : ∀ X', Bb P w K mg base N scope sc k X' → SE X' B WF elt f)
    (ho : ∀ i ∈ g.ns, i ∈ own.map (·.2) := by decide) (hs : ∀ x, foldedSetIterable iter X.env x = pure x := by intro _; rfl) : SE X B Wx (.ListComp elt [⟨tg, iter, [], 0⟩] scope pos) (cLC it g (own.map (·.2)) bYes f) :=
  se_lc d.calm (by rw [d.fr.n]; exact d.nd) hi (by rw [d.fr.n, d.fr.s]; exact blkOk_by ok) (fun s H C cl fp => hg _ (d.blk s H C cl fp)) (fun s H C cl fp => he _ (d.blk s H C cl fp)) ho hs
theorem Bd.lcIf (d : Bd P w K mg base N sc k X Wx) (own : List (Str × Nat)) (hi : SI X B Wx tg iter it) (ok : blkC N sc scope own = true) (hg : ∀ X', Bb P w K mg base N scope sc k X' → STg X' tg g) (ht : ∀ X', Bb P w K mg base N scope sc k X' → ST X' B WF c t)
    (he : ∀ X', Bb P w K mg base N scope sc k X' → SE X' B WF elt f)
    (ho : ∀ i ∈ g.ns, i ∈ own.map (·.2) := by decide) (hs : ∀ x, foldedSetIterable iter X.env x = pure x := by intro _; rfl) : SE X B Wx (.ListComp elt [⟨tg, iter, [c], 0⟩] scope pos) (cLC it g (own.map (·.2)) t f) :=
  se_lcIf d.calm (by rw [d.fr.n]; exact d.nd) hi (by rw [d.fr.n, d.fr.s]; exact blkOk_by ok) (fun s H C cl fp => hg _ (d.blk s H C cl fp)) (fun s H C cl fp => ht _ (d.blk s H C cl fp)) (fun s H C cl fp => he _ (d.blk s H C cl fp)) ho hs
variable {y : Str} {spos py : Pos} {i : Nat}
/-- is the comprehension's value stored straight from its block? -/
def swapOk (sc scope : Scope) (y : Str) (py pos : Pos) : Bool := decide (sc.kind = .function) && (decide (sc.names.lookup y = some .local) && ((py.line == pos.line) && !(scope.names.any fun (n, k) => n == y && (k == .local || k == .cell))))
theorem swap_of {env : Env} {gens : List Comprehension} {line : Nat} (hs : env.scope = sc) (h : swapOk sc scope y py pos = true) : swapsWith (.ListComp elt gens scope pos) (some (.Name y py)) line env = pure true := by
  subst hs
  simp only [swapOk, Bool.and_eq_true, decide_eq_true_eq] at h
  obtain ⟨h1, h2, h3, h4⟩ := h
  have k1 : (env.blockKind == .function) = true := by
    unfold Env.blockKind
    rw [h1]; rfl
  have k2 : (env.kindOf y == some .local) = true := by
    show (env.scope.names.lookup y == some .local) = true
    rw [h2]; rfl
  show (pure (env.blockKind == .function && env.kindOf y == some .local && py.line == pos.line && !(scope.names.any fun (n, k) => n == y && (k == .local || k == .cell))) : Sem Bool) = pure true
  rw [k1, k2, h3, h4]; rfl
theorem Bs.setLc (d : Bs P w K mg base N sc k X Wx) (i : Nat) (own : List (Str × Nat)) (hy : ownOk N sc i y = true) (hsw : swapOk sc scope y py pos = true) (hi : SI X B Wx tg iter it) (ok : blkC N sc scope own = true)
    (hg : ∀ X', Bb P w K mg base N scope sc k X' → STg X' tg g) (he : ∀ X', Bb P w K mg base N scope sc k X' → SE X' B WF elt f)
    (ho : ∀ i ∈ g.ns, i ∈ own.map (·.2) := by decide) (hs : ∀ x, foldedSetIterable iter X.env x = pure x := by intro _; rfl) : SS X B Wx (.Assign [.Name y py] (.ListComp elt [⟨tg, iter, [], 0⟩] scope pos) spos) (sAsg (gN i) (cLC it g (own.map (·.2)) bYes f)) := by
  obtain ⟨h1, h2⟩ := Bool.and_eq_true_iff.mp hy
  exact ss_setLc d.calm (by rw [d.fr.n]; exact d.nd) (by rw [d.fr.n]; exact of_decide_eq_true h1) (by rw [d.fr.s]; exact of_decide_eq_true h2) (swap_of d.fr.s hsw) hi (by rw [d.fr.n, d.fr.s]; exact blkOk_by ok) (fun s H C cl fp => hg _ (d.blk s H C cl fp)) (fun s H C cl fp => he _ (d.blk s H C cl fp)) ho hs
theorem Bs.setLcIf (d : Bs P w K mg base N sc k X Wx) (i : Nat) (own : List (Str × Nat)) (hy : ownOk N sc i y = true) (hsw : swapOk sc scope y py pos = true) (hi : SI X B Wx tg iter it) (ok : blkC N sc scope own = true)
    (hg : ∀ X', Bb P w K mg base N scope sc k X' → STg X' tg g) (ht : ∀ X', Bb P w K mg base N scope sc k X' → ST X' B WF c t) (he : ∀ X', Bb P w K mg base N scope sc k X' → SE X' B WF elt f)
    (ho : ∀ i ∈ g.ns, i ∈ own.map (·.2) := by decide) (hs : ∀ x, foldedSetIterable iter X.env x = pure x := by intro _; rfl) : SS X B Wx (.Assign [.Name y py] (.ListComp elt [⟨tg, iter, [c], 0⟩] scope pos) spos) (sAsg (gN i) (cLC it g (own.map (·.2)) t f)) := by
  obtain ⟨h1, h2⟩ := Bool.and_eq_true_iff.mp hy
  exact ss_setLcIf d.calm (by rw [d.fr.n]; exact d.nd) (by rw [d.fr.n]; exact of_decide_eq_true h1) (by rw [d.fr.s]; exact of_decide_eq_true h2) (swap_of d.fr.s hsw) hi (by rw [d.fr.n, d.fr.s]; exact blkOk_by ok) (fun s H C cl fp => hg _ (d.blk s H C cl fp)) (fun s H C cl fp => ht _ (d.blk s H C cl fp)) (fun s H C cl fp => he _ (d.blk s H C cl fp)) ho hs
end

section
variable {x : Str} {pos p2 : Pos} {a : Expr} {f : Den} {tg iter c : Expr} {body : List Stmt} {it : DenI} {g : Tg} {b : SDen} {t : DenB}
theorem Bs.nm (d : Bs P w K mg base N sc k X Wx) (i : Nat) (h : locOk N sc i x = true) : STg X (.Name x pos) (.nm i) :=
  stg_name (by rw [d.fr.n]; exact d.nd) (d.fr.at h) (d.fr.loc h) (.inl (by rw [d.fn]))
theorem Bs.set (d : Bs P w K mg base N sc k X Wx) (i : Nat) (ha : SE X B Wx a f) (h : locOk N sc i x = true) (hs : swapsWith a (some (.Name x p2)) pos.line X.env = pure false := by rfl) : SS X B Wx (.Assign [.Name x p2] a pos) (sAsg (gN i) f) :=
  ss_set (by rw [d.fr.n]; exact d.nd) (d.fr.at h) (d.fr.loc h) ha hs (.inl (by rw [d.fn]))
theorem Bs.for_ (d : Bs P w K mg base N sc k X Wx) (hi : SI X B Wx tg iter it) (hg : STg X tg g) (hb : SB X B Wx body b) (hf : ∀ x, foldedSetIterable iter X.env x = pure x := by intro _; rfl) : SS X B Wx (.For tg iter body [] pos) (sFor it g b) := ss_for d.own d.calm hi hg hb hf
theorem Bs.while_ (d : Bs P w K mg base N sc k X Wx) (n : Nat) (hc : ST X B Wx c t) (hb : SB X B Wx body b) : SS X B Wx (.While c body [] pos) (sWhile n t b) := ss_while n d.own hc hb
end

/-- the def at f, without a context -/
structure FnC (P : Program) (w : World) (K : PySem.W.Frag) (mg : Str → Option Value) (base : Heap) (B : Bm) (k : Nat) (f : Addr) (n : Nat) (F : Fn) : Prop where
  ex : ∃ fd ps, FnQ P w K mg base k f fd ps (spF ⟨K, B.cl, B.pi, B.ga⟩ n F) ∧ Binds K fd ps []
  kp : PySem.W.keepIn K (.ref f) = true
theorem Bd.cal (d : Bd P w K mg base N sc k X Wx) {j n : Nat} {f : Addr} {F : Fn} (h : FnC P w K mg base B j f n F) (hj : j ≤ k) : FnR X B f n F := by
  obtain ⟨fd, ps, q, b⟩ := h.ex
  obtain ⟨e1, e2, e3, e4, e5⟩ := And.intro d.prog (And.intro d.w (And.intro d.K (And.intro d.mg d.base)))
  refine ⟨⟨j, fd, ps, ⟨d.gd, d.room.mono hj⟩, ?_, ?_⟩, ?_⟩
  · show FnQ X.prog X.w X.K X.mg X.base j f fd ps (spF ⟨X.K, B.cl, B.pi, B.ga⟩ n F)
    rw [e1, e2, e3, e4, e5]; exact q
  · rw [e3]; exact b
  · rw [e3]; exact h.kp
theorem FnC.imp {j n : Nat} {f : Addr} {F G : Fn} (h : FnC P w K mg base B j f n F) (i : ∀ ws S (Q : W × Hs → Prop) (E : XP), ws.length = n → wp (G ws S) Q E → wp (F ws S) Q E) : FnC P w K mg base B j f n G :=
  ⟨let ⟨fd, ps, q, b⟩ := h.ex; ⟨fd, ps, q.imp (spF_imp i), b⟩, h.kp⟩
theorem FnC.mono {j j' n : Nat} {f : Addr} {F : Fn} (h : FnC P w K mg base B j f n F) (l : j ≤ j') : FnC P w K mg base B j' f n F := ⟨let ⟨fd, ps, q, b⟩ := h.ex; ⟨fd, ps, q.mono l, b⟩, h.kp⟩
/-- a def that is never called for good: it may be anything -/
theorem FnC.no {x qual : Str} {st : Stmt} {f : Addr} {fd : FuncData} {ps : List Str} {n j : Nat} (F : L2.Fun K x qual st f fd) (b : Binds K fd ps []) (hn : ps.length = n) : FnC P w K mg base B j f n (fun _ _ => .stuck) :=
  ⟨⟨fd, ps, ⟨fun vs H Q E h => h.1.trans hn.symm, fun U o s H as us vs Q E _ _ _ _ _ h => let ⟨_, _, _, _, _, _, z⟩ := h; z.elim⟩, b⟩, F.kp⟩
/-- a def of the text -/
theorem FnC.of {x qual : Str} {st : Stmt} {f : Addr} {fd : FuncData} {ps : List Str} {n : Nat} {b : SDen} (F : L2.Fun K x qual st f fd) (S : FnScope N ps (defScope st)) (hb : Binds K fd ps []) (hn : ps.length = n) (h : ∀ X Wx, Bs P w K mg base N (defScope st) k X Wx → SB X B Wx (defBody st) b) :
    FnC P w K mg base B (k + 1) f n (runB N.length b) := by
  subst hn
  exact ⟨⟨fd, ps, fn_sound F S h, hb⟩, F.kp⟩
/-- a def's facts of a head -/
structure DefR (K : PySem.W.Frag) (st : Stmt) (x qual : Str) (ps : List Str) (f : Addr) : Prop where
  ex : ∃ fd, L2.Fun K x qual st f fd ∧ Binds K fd ps []
def parsB (st : Stmt) (ps : List Str) : Bool := decide ((defArgs st).args.map (·.arg) = ps) && ((defArgs st).posonlyargs.isEmpty && ((defArgs st).kwonlyargs.isEmpty && ((defArgs st).defaults.isEmpty && ((defArgs st).vararg.isNone && (defArgs st).kwarg.isNone))))
theorem DefR.c {x qual : Str} {st : Stmt} {f : Addr} {ps : List Str} {n : Nat} {b : SDen} (D : DefR K st x qual ps f) (S : FnScope N ps (defScope st)) (hn : ps.length = n) (h : ∀ X Wx, Bs P w K mg base N (defScope st) k X Wx → SB X B Wx (defBody st) b) :
    FnC P w K mg base B (k + 1) f n (runB N.length b) := let ⟨fd, F, hb⟩ := D.ex; .of F S hb hn h
theorem DefR.no {x qual : Str} {st : Stmt} {f : Addr} {ps : List Str} {n j : Nat} (D : DefR K st x qual ps f) (hn : ps.length = n) : FnC P w K mg base B j f n (fun _ _ => .stuck) := let ⟨_, F, hb⟩ := D.ex; .no F hb hn
/-- a method, closed -/
structure MtC (P : Program) (w : World) (K : PySem.W.Frag) (mg : Str → Option Value) (base : Heap) (B : Bm) (k : Nat) (m : Str) (n c : Nat) (F : Fn) : Prop where
  cls : Cls K (B.cl c)
  at_ : ∃ f, Meth K (B.cl c) m f ∧ FnC P w K mg base B k f (n + 1) F
theorem Bd.mt (d : Bd P w K mg base N sc k X Wx) {j n c : Nat} {m : Str} {F : Fn} (h : MtC P w K mg base B j m n c F) (hj : j ≤ k) : MeR X B m n c F :=
  ⟨by rw [d.K]; exact h.cls, let ⟨f, q1, q2⟩ := h.at_; ⟨f, by rw [d.K]; exact q1, d.cal q2 hj⟩⟩
/-- a class's making, closed -/
structure MkC (P : Program) (w : World) (K : PySem.W.Frag) (mg : Str → Option Value) (base : Heap) (B : Bm) (k c n : Nat) (F : Fn) : Prop where
  ex : ∃ f, Mk K (B.cl c) f ∧ FnC P w K mg base B k f (n + 1) F
  kp : PySem.W.keepIn K (.ref (B.cl c)) = true
theorem Bd.make (d : Bd P w K mg base N sc k X Wx) {j n c : Nat} {F : Fn} (h : MkC P w K mg base B j c n F) (hj : j + 1 ≤ k) : MkR X B c n F := by
  obtain ⟨f, q1, q2⟩ := h.ex
  obtain ⟨fd, ps, q, b⟩ := q2.ex
  obtain ⟨e1, e2, e3, e4, e5⟩ := And.intro d.prog (And.intro d.w (And.intro d.K (And.intro d.mg d.base)))
  refine ⟨⟨f, j, fd, ps, by rw [e3]; exact q1, ⟨d.gd, d.room.mono hj⟩, ?_, by rw [e3]; exact b⟩, by rw [e3]; exact h.kp⟩
  show FnQ X.prog X.w X.K X.mg X.base j f fd ps (spF ⟨X.K, B.cl, B.pi, B.ga⟩ (n + 1) F)
  rw [e1, e2, e3, e4, e5]; exact q
end HQ
namespace HQ
open PySem PySem.Spec PyProof.Rows L2
variable {X : L2.Cx} {B : Bm} {Wx : WX} {A : Am} {P : Program} {w : World} {K : PySem.W.Frag} {mg : Str → Option Value} {base : Heap} {N : List Str} {sc scope : Scope} {k : Nat}

structure TbX (X : L2.Cx) (x : Str) (kvs : List (Nat × Int)) : Prop where
  ex : ∃ a, X.mg x = some (.ref a) ∧ TabR X.K X.w a kvs
  gl : Gl X x
  db : (x == ("__debug__" : Str)) = false
theorem Bd.tab (d : Bd P w K mg base N sc k X Wx) {x : Str} {a : Addr} {kvs : List (Nat × Int)} (t : TabR K w a kvs) (g : mg x = some (.ref a)) (h : glOk sc x = true) : TbX X x kvs :=
  ⟨⟨a, d.at g, by rw [d.K, d.w]; exact t⟩, d.gl h, glOk.db h⟩
def pInTab (neg : Bool) (kvs : List (Nat × Int)) : W → Option W
  | .str n => some (.bl (xor neg (kvs.lookup n).isSome))
  | _ => none
def cInTab (neg : Bool) (kvs : List (Nat × Int)) (f : Den) : Den := fun sl S => (f sl S).bind fun r => match pInTab neg kvs r.1 with
  | some z => .ok (z, r.2)
  | none => .stuck
def cTab (kvs : List (Nat × Int)) (f : Den) : Den := fun sl S => (f sl S).bind fun r => match r.1 with
  | .str n => (match kvs.lookup n with
    | some i => .ok (.int i, r.2)
    | none => .stuck)
  | _ => .stuck
section
variable {x : Str} {p pos : Pos} {a : Expr} {f : Den} {kvs : List (Nat × Int)}
theorem TabR.ns {d : Addr} (t : TabR K w d kvs) (n : Nat) : ∃ r, PySem.W.nsIn K d (dec n) = some r ∧ r.isSome = (kvs.lookup n).isSome := by
  cases q : kvs.lookup n with
  | none => exact ⟨none, t.miss n q, rfl⟩
  | some i => obtain ⟨u, z⟩ := t.hit n i q; exact ⟨_, z, rfl⟩
def rInTab (K : PySem.W.Frag) (d : Addr) (neg : Bool) : R2 := fun x y H Q => ∃ (z : Str) (r : Option Value), x = .str z ∧ y = .ref d ∧ PySem.W.nsIn K d z = some r ∧ Q (.bl (xor neg r.isSome)) H
theorem rd_inTab {d : Addr} {neg : Bool} (t : TabR A.K w d kvs) : ∀ sg H Q, rdE A Wx (cInTab neg kvs f) sg H Q → tOp (rInTab A.K d neg) (rdE A Wx f) (tC (.ref d)) sg H Q := fun sg H Q ⟨e, S, sl, rp, rs, h⟩ =>
  part (k := fun w S1 => match pInTab neg kvs w with
    | some z => .ok (z, S1)
    | none => .stuck) Ext.refl rp rs h fun e1 S1 H1 w v x1 _ rp1 rs1 rv1 h1 => by
      cases rv1 with
      | str n =>
        obtain ⟨r, q1, q2⟩ := t.ns n
        refine ⟨dec n, r, rfl, rfl, q1, ?_⟩
        rw [q2]
        exact Post.now (Post.ext h1 x1) rp1 (.bl _)
      | _ => exact (show False from h1).elim
theorem opr_inTab {d : Addr} (t : TabR X.K X.w d kvs) : OpR X (compareOp .In) (rInTab X.K d false) := by
  obtain ⟨es, n, kd⟩ := t.kd
  exact opr_wk (op_in_kd kd) fun x y H Q ⟨z, r, e1, e2, e3, q⟩ => ⟨z, r, e1, e2, e3, by simpa using q⟩
theorem opr_inTabN {d : Addr} (t : TabR X.K X.w d kvs) : OpR X (compareOp .NotIn) (rInTab X.K d true) := by
  obtain ⟨es, n, kd⟩ := t.kd
  exact opr_wk (op_notIn_kd kd) fun x y H Q ⟨z, r, e1, e2, e3, q⟩ => ⟨z, r, e1, e2, e3, by simpa using q⟩
theorem pe_name (t : TbX X x kvs) {u : Addr} (h : X.mg x = some (.ref u)) : PE X (.Name x p) (tC (.ref u)) := pe_glob (v := .ref u) t.gl h rfl t.db
theorem se_inTab (t : TbX X x kvs) (ha : SE X B Wx a f) : SE X B Wx (.Compare a [.In] [.Name x p] pos) (cInTab false kvs f) := by
  obtain ⟨d, q, tr⟩ := t.ex
  exact weakE (pe_cmpR (opr_inTab tr) ha (pe_name t q) rfl) (rd_inTab (A := am X B) tr)
theorem se_inTabN (t : TbX X x kvs) (ha : SE X B Wx a f) : SE X B Wx (.Compare a [.NotIn] [.Name x p] pos) (cInTab true kvs f) := by
  obtain ⟨d, q, tr⟩ := t.ex
  exact weakE (pe_cmpR (opr_inTabN tr) ha (pe_name t q) rfl) (rd_inTab (A := am X B) tr)
theorem st_inTab (t : TbX X x kvs) (ha : SE X B Wx a f) : ST X B Wx (.Compare a [.In] [.Name x p] pos) (cBool (cInTab false kvs f)) := by
  obtain ⟨d, q, tr⟩ := t.ex
  exact weakT (pt_cmpR (opr_inTab tr) ha (pe_name t q) rfl) fun sg H Q h => rd_inTab (A := am X B) tr sg H _ (rd_bool sg H Q h)
theorem st_inTabN (t : TbX X x kvs) (ha : SE X B Wx a f) : ST X B Wx (.Compare a [.NotIn] [.Name x p] pos) (cBool (cInTab true kvs f)) := by
  obtain ⟨d, q, tr⟩ := t.ex
  exact weakT (pt_cmpR (opr_inTabN tr) ha (pe_name t q) rfl) fun sg H Q h => rd_inTab (A := am X B) tr sg H _ (rd_bool sg H Q h)
def rIxTab (K : PySem.W.Frag) (d : Addr) : R2 := fun x y H Q => ∃ (z : Str) (u0 : Value) (v0 : V), x = .ref d ∧ y = .str z ∧ PySem.W.nsIn K d z = some (some u0) ∧ RelV v0 u0 ∧ Q v0 H
theorem ix_tab {d : Addr} (t : TabR X.K X.w d kvs) : IxR X (rIxTab X.K d) := by
  intro value slice pins s sg H x y v u Q I rx ry h hs
  obtain ⟨es, n, kd⟩ := t.kd
  obtain ⟨z, u0, v0, e1, e2, e3, r, q⟩ := h
  subst e1
  obtain rfl : v = Value.ref d := rx
  exact tail_any (kd_type kd I) PySem.F.slot_dict_getitem.lookup (op_item_kd kd pins s sg H (.ref d) y (.ref d) u Q I rfl ry ⟨z, u0, v0, rfl, e2, e3, r, q⟩) hs
theorem se_tab {b : Expr} {g : Den} (t : TbX X x kvs) (hb : SE X B Wx b g) (hs : PlainIx b := by exact fun _ _ => rfl) : SE X B Wx (.Subscript (.Name x p) b pos) (cTab kvs g) := by
  obtain ⟨d, q, tr⟩ := t.ex
  refine weakE (pe_ix (ix_tab tr) (pe_name t q) hb hs) fun sg H Q ⟨e, S, sl, rp, rs, h⟩ =>
    part (k := fun w S1 => match w with
      | .str n => (match kvs.lookup n with
        | some i => .ok (W.int i, S1)
        | none => .stuck)
      | _ => .stuck) Ext.refl rp rs h fun e1 S1 H1 w v x1 _ rp1 rs1 rv1 h1 => ?_
  cases rv1 with
  | str n =>
    simp only at h1
    cases z : kvs.lookup n with
    | none => simp only [z] at h1; exact (show False from h1).elim
    | some i =>
      simp only [z] at h1
      obtain ⟨t', y⟩ := tr.hit n i z
      exact ⟨dec n, _, .int i, rfl, rfl, y, ⟨t', rfl⟩, Post.now (Post.ext h1 x1) rp1 (.int i)⟩
  | _ => exact (show False from h1).elim
end

def HasK (K : PySem.W.Frag) (cl : Nat → Addr) (cs : List Nat) (x : Str) : Prop := ∀ c, c ∈ cs → Cls K (cl c) ∧ NoAttr K (cl c) x
theorem Bd.has (d : Bd P w K mg base N sc k X Wx) {cs : List Nat} {x : Str} (h : HasK K B.cl cs x) : Has X B cs x := by
  intro c hc
  rw [d.K]
  exact h c hc

section
variable {prog : Program} {w : World} {U : Around} {E : Value → Shared → Prop} {s : Shared}
theorem tc_zipS (a b c : Value) : checkTypeCall "zip" ⟨[a, b], [(Str.ofString "strict", c)]⟩ = pure () := by kernel_rfl
theorem nc_zipS (a b c : Value) : checkBuiltinCall "zip.__new__" ⟨[.type "zip", a, b], [(Str.ofString "strict", c)]⟩ = pure () := by kernel_rfl
theorem ao_zipS (o a b c : Value) : argsOk "object.__init__" ⟨[o, a, b], [(Str.ofString "strict", c)]⟩ := by unfold argsOk; kernel_rfl
set_option maxHeartbeats 1000000 in
theorem meets_zipS {v1 v2 : Value} {o1 o2 : Obj} {G1 G2 : Heap → Prop} (B1 : Begins v1 o1 G1) (B2 : Begins v2 o2 G2) :
    Meets (Builtin.«zip.__new__» ⟨[.type "zip", v1, v2], [(Str.ofString "strict", .bool false)]⟩) (fun _ R s => (G1 s.heap ∧ G2 s.heap) ∧ R (.ok (.ret (.ref (gzO2 s.heap o1 o2).objs.size))) { s with heap := gzZ2 s.heap o1 o2 }) :=
  .of_wp fun prog w U R s hh => by
    obtain ⟨hp, g, d, tk, os⟩ := s
    obtain ⟨⟨h1, h2⟩, hR⟩ := hh
    have hsub := sub_zip
    have go1 : ∀ {U' : Around} {E : Value → Shared → Prop} {Q : Value → Shared → Prop}, Q (.ref hp.objs.size) ⟨hp.push o1, g, d, tk, os⟩ → wpAny (model prog w) U' (pyIter v1) Q E ⟨hp, g, d, tk, os⟩ := fun q => B1.iter prog w _ _ ⟨hp, g, d, tk, os⟩ _ h1 q
    have go2 : ∀ {U' : Around} {E : Value → Shared → Prop} {Q : Value → Shared → Prop}, Q (.ref (hp.push o1).objs.size) ⟨(hp.push o1).push o2, g, d, tk, os⟩ → wpAny (model prog w) U' (pyIter v2) Q E ⟨hp.push o1, g, d, tk, os⟩ :=
      fun q => B2.iter prog w _ _ ⟨hp.push o1, g, d, tk, os⟩ _ (B2.keeps _ _ h2 fun c u z => Heap.get?_push_of_some _ z) q
    wp_walk using go1, go2
    exact ⟨_, rfl, hR⟩
theorem call_zipS {v1 v2 : Value} {o1 o2 : Obj} {G1 G2 : Heap → Prop} {Q : Value → Shared → Prop} (B1 : Begins v1 o1 G1) (B2 : Begins v2 o2 G2) (h1 : G1 s.heap) (h2 : G2 s.heap)
    (k : ∀ h', IsZip h' (s.heap.objs.size + 4) (s.heap.objs.size + 2) (s.heap.objs.size + 3) .none → IsTupOf2 h' (s.heap.objs.size + 2) (.ref s.heap.objs.size) (.ref (s.heap.objs.size + 1)) → IsTupOf2 h' (s.heap.objs.size + 3) .none .none →
      h'.get? s.heap.objs.size = some o1 → h'.get? (s.heap.objs.size + 1) = some o2 → (∀ c o, s.heap.get? c = some o → h'.get? c = some o) → Q (.ref (s.heap.objs.size + 4)) { s with heap := h' }) :
    wpAny (model prog w) U (call (.type "zip") [v1, v2] [(Str.ofString "strict", .bool false)]) Q E s := by
  refine callType_newKw F.called_zip (by decide) (tc_zipS _ _ _) (nc_zipS _ _ _) (fun obj => ao_zipS obj _ _ _) F.entry_zip_new (meets_zipS B1 B2) ⟨⟨h1, h2⟩, ?_⟩
  have s1 : (s.heap.push o1).objs.size = s.heap.objs.size + 1 := Heap.size_push ..
  have s2 : ((s.heap.push o1).push o2).objs.size = s.heap.objs.size + 2 := by rw [Heap.size_push, s1]
  have s3 : (gzT2 s.heap o1 o2).objs.size = s.heap.objs.size + 3 := by rw [Heap.size_push, s2]
  have s4 : (gzO2 s.heap o1 o2).objs.size = s.heap.objs.size + 4 := by rw [Heap.size_push, s3]
  have p5 {c : Addr} {o : Obj} (z : (gzO2 s.heap o1 o2).get? c = some o) : (gzZ2 s.heap o1 o2).get? c = some o := Heap.get?_push_of_some _ z
  have p4 {c : Addr} {o : Obj} (z : (gzT2 s.heap o1 o2).get? c = some o) : (gzZ2 s.heap o1 o2).get? c = some o := p5 (Heap.get?_push_of_some _ z)
  have p3 {c : Addr} {o : Obj} (z : ((s.heap.push o1).push o2).get? c = some o) : (gzZ2 s.heap o1 o2).get? c = some o := p4 (Heap.get?_push_of_some _ z)
  have p2 {c : Addr} {o : Obj} (z : (s.heap.push o1).get? c = some o) : (gzZ2 s.heap o1 o2).get? c = some o := p3 (Heap.get?_push_of_some _ z)
  have g5 : (gzZ2 s.heap o1 o2).get? (gzO2 s.heap o1 o2).objs.size = _ := Heap.get?_push_size _ rfl
  have g4 : (gzZ2 s.heap o1 o2).get? (gzT2 s.heap o1 o2).objs.size = _ := p5 (Heap.get?_push_size _ rfl)
  have g3 : (gzZ2 s.heap o1 o2).get? ((s.heap.push o1).push o2).objs.size = _ := p4 (Heap.get?_push_size _ rfl)
  have g2 : (gzZ2 s.heap o1 o2).get? (s.heap.push o1).objs.size = _ := p3 (Heap.get?_push_size _ B2.free)
  have g1 : (gzZ2 s.heap o1 o2).get? s.heap.objs.size = _ := p2 (Heap.get?_push_size _ B1.free)
  rw [s4, s3, s2] at g5
  rw [s3] at g4
  rw [s2, s1] at g3
  rw [s1] at g2
  show _ ∧ _
  rw [s4]
  exact ⟨⟨_, g5, rfl⟩, k _ g5 g3 g4 g1 g2 fun c o z => p2 (Heap.get?_push_of_some _ z)⟩
end
/-- the call with one keyword that is False -/
theorem callWith_kwF {U : Around} {E : Value → Shared → Prop} {env : Env} {s : Shared} {M : Model} {pos kp cp : Pos} {T : String} {e e2 : Expr} {kn : Str} {j : Nat} {Q : Value → Shared → Prop}
    (h : wpAny M U (spliced (backTo pos (starEach [e, e2] env))) (fun vs s1 => wpAny M U (call (.type T) vs [(kn, .bool false)]) Q E s1) E s)
    (he : starEach [e, e2] env = (false, eval e env) :: starEach [e2] env) (hpl : (backTo pos (starEach [e, e2] env)).any (·.1) = false) :
    wpAny M U (callWith pos (.type T) [] (backTo pos (starEach [e, e2] env)) (backToKw pos (keywordEach [⟨some kn, .Constant (.bool false) j cp, kp⟩] env))) Q E s := by
  unfold callWith
  refine wpAny_bind (wpAny_holding (evalArgs_kw2 rfl (wpAny_mono h (fun vs s1 h1 => ?_) fun _ _ z => z) he))
  refine kwAll_cons (Constant_bool (kwAll_nil ?_))
  refine wpAny_bind (wpAny_standAt ?_)
  have hst : ((backTo pos (starEach [e, e2] env)).any (·.1) || (backToKw pos (keywordEach [⟨some kn, .Constant (.bool false) j cp, kp⟩] env)).any (·.1.isNone)) = false := by rw [hpl]; rfl
  simp only [hst]
  refine wpAny_bind (wpAny_pure ?_)
  exact wpAny_bind (wpAny_mono h1 (fun r s2 hr => wpAny_bind (wpAny_holding (wpAny_point (wpAny_pure hr)))) fun _ _ z => z)
theorem pi_zpS {e e2 : Expr} {ta : TA} {p pos tpos kp cp : Pos} {elts : List Expr} {kk j : Nat} (hg : Gl X "zip") (hm : X.mg "zip" = none) (ha : PA X [e, e2] ta)
    (hs : starEach [e, e2] X.env = (false, eval e X.env) :: starEach [e2] X.env := by rfl) (hpl : (backTo pos (starEach [e, e2] X.env)).any (·.1) = false := by rfl) :
    PI X (.Tuple elts kk tpos) (.Call (.Name "zip" p) [e, e2] [⟨some "strict", .Constant (.bool false) j cp, kp⟩] pos) (iZpQ X.K ta) := by
  refine ⟨fun pins s sg H R I h => ?_⟩
  refine wpAny_Call_Name_kw (ld_blt I hg hm PyProof.Rows.boot_zip (callWith_kwF (thn (ha.run pos pins s sg H _ I h) fun us s1 ⟨vs, H1, I1, r1, b1, b2, a1, a2, xs, ys, ev, hx, hy, q⟩ => ?_) hs hpl))
  subst ev
  obtain ⟨u1, u2, rfl, hu1, hu2⟩ : ∃ u1 u2, us = [u1, u2] ∧ RelV (.ref a1) u1 ∧ RelV (.ref a2) u2 := by
    cases r1 with
    | cons r rr => cases rr with
      | cons r' rr => cases rr; exact ⟨_, _, rfl, r, r'⟩
  obtain rfl : u1 = Value.ref a1 := hu1
  obtain rfl : u2 = Value.ref a2 := hu2
  obtain ⟨us, ru, p1⟩ := sqB_inv I1 hx
  obtain ⟨vs, rw', p2⟩ := sqB_inv I1 hy
  exact call_zipS (beginsSq b1 a1 us.toArray) (beginsSq b2 a2 vs.toArray) p1 p2 fun h' hz hT hO g1 g2 hk => zip_start I1 hx hy q h' hz hT hO g1 g2 hk
theorem si_zpS {a b : Expr} {f g : Den} {p pos tpos kp cp : Pos} {elts : List Expr} {kk j : Nat} (hg : Gl X "zip") (hm : X.mg "zip" = none) (ha : SE X B Wx a f) (hb : SE X B Wx b g) (hs : starEach [a, b] X.env = (false, eval a X.env) :: starEach [b] X.env := by rfl)
    (hs2 : starEach [b] X.env = (false, eval b X.env) :: starEach [] X.env := by rfl) (hpl : (backTo pos (starEach [a, b] X.env)).any (·.1) = false := by rfl) :
    SI X B Wx (.Tuple elts kk tpos) (.Call (.Name "zip" p) [a, b] [⟨some "strict", .Constant (.bool false) j cp, kp⟩] pos) (iZp [f, g]) :=
  weakI (pi_zpS hg hm (sa_cons ha (sa_cons hb sa_nil hs2) hs) hs hpl) (rd_zp rfl)
end HQ
namespace HQ
open PySem PySem.Spec PyProof.Rows L2
variable {X : L2.Cx} {B : Bm} {Wx : WX} {A : Am} {P : Program} {w : World} {K : PySem.W.Frag} {mg : Str → Option Value} {base : Heap} {N : List Str} {sc scope : Scope} {k : Nat}

section
variable {o a : Expr} {d f : Den} {pos apos : Pos}
theorem sl_append (ho : SE X B Wx o d) (ha : SE X B Wx a f) (hbase : attributeBase o "append" X.env (eval o X.env) = eval o X.env := by rfl)
    (hfew : ((backTo pos (starEach [a] X.env)).all (fun x => !x.1) && (backToKw pos (keywordEach [] X.env)).all (fun x => x.1.isSome) && decide (([a] : List Expr).length + ([] : List Keyword).length + (if ([] : List Keyword).isEmpty then 0 else 1) < 30)) = true := by rfl)
    (hline : (apos.endLine == pos.line) = true := by rfl) (hs : starEach [a] X.env = (false, eval a X.env) :: starEach [] X.env := by rfl) : SE X B Wx (.Call (.Attribute o "append" apos) [a] [] pos) (cBm oAppend d [f]) :=
  weakE (pe_bm PySem.F.plainAttrs_list PySem.F.slot_list_append PySem.F.type_list_append mt_append ho (sa_cons ha sa_nil hs) hbase hfew hline hs rfl) (rd_bm (A := am X B) ms_append)
theorem sl_extend (ho : SE X B Wx o d) (ha : SE X B Wx a f) (hbase : attributeBase o "extend" X.env (eval o X.env) = eval o X.env := by rfl)
    (hfew : ((backTo pos (starEach [a] X.env)).all (fun x => !x.1) && (backToKw pos (keywordEach [] X.env)).all (fun x => x.1.isSome) && decide (([a] : List Expr).length + ([] : List Keyword).length + (if ([] : List Keyword).isEmpty then 0 else 1) < 30)) = true := by rfl)
    (hline : (apos.endLine == pos.line) = true := by rfl) (hs : starEach [a] X.env = (false, eval a X.env) :: starEach [] X.env := by rfl) : SE X B Wx (.Call (.Attribute o "extend" apos) [a] [] pos) (cBm oExtend d [f]) :=
  weakE (pe_bm PySem.F.plainAttrs_list PySem.F.slot_list_extend PySem.F.type_list_extend mt_extend ho (sa_cons ha sa_nil hs) hbase hfew hline hs rfl) (rd_bm (A := am X B) ms_extend)
theorem sl_pop (ho : SE X B Wx o d) (hbase : attributeBase o "pop" X.env (eval o X.env) = eval o X.env := by rfl) (hline : (apos.endLine == pos.line) = true := by rfl) : SE X B Wx (.Call (.Attribute o "pop" apos) [] [] pos) (cBm oPop d []) :=
  weakE (pe_bm0 PySem.F.plainAttrs_list PySem.F.slot_list_pop PySem.F.type_list_pop mt_pop ho hbase hline) (rd_bm0 (A := am X B) ms_pop)
end

def pPow : W → W → Option W
  | .int i, .int j => if 0 ≤ j ∧ j ≤ 1000000 ∧ i.natAbs < 2 ^ 64 then some (.int (i ^ j.toNat)) else none
  | _, _ => none
theorem ops_pow : OpS A (opV pPow) (rI CPow fun i j => .int (i ^ j.toNat)) := by
  intro e S H w u x y Q E rp rx ry h
  obtain ⟨z, q, p⟩ := opV_wp h
  have vx := rp.vw rx
  have vy := rp.vw ry
  unfold pPow at q
  split at q
  · next i j e1 e2 =>
    rw [e1] at vx; rw [e2] at vy
    split at q
    · next c =>
      cases q
      exact ⟨i, j, vx, vy, c, Post.now p rp (.int _)⟩
    · cases q
  · cases q
theorem se_pow {a b : Expr} {pos : Pos} {f g : Den} (ha : SE X B Wx a f) (hb : SE X B Wx b g) : SE X B Wx (.BinOp a .Pow b pos) (cBin (opV pPow) f g) := se_op op_pow ops_pow ha hb

def cLstRg (ds : List Den) : Den := fun sl S => (evs ds sl S).bind fun r => match pRg r.1 with
  | some q => .ok (.lst (rgW q.1 q.2), r.2)
  | none => .stuck
theorem rgW_vrs {e : Emb} {nx : Nat} {H : Hp} (lo : Int) (n : Nat) : VRs A e nx H (rgW lo n) ((List.range n).map fun i => V.int (lo + (i : Nat))) := by
  unfold rgW
  have : ∀ l : List Nat, VRs A e nx H (l.map fun i => W.int (lo + (i : Nat))) (l.map fun i => V.int (lo + (i : Nat))) := fun l => by
    induction l with
    | nil => exact .nil
    | cons x l ih => exact .cons (.int _) ih
  exact this _
theorem se_listRg1 {a : Expr} {f : Den} {p p2 pos pos2 : Pos} (d : Bd P w K mg base N sc k X Wx) (hl : mg "list" = none) (hr : mg "range" = none) (g1 : glOk sc "list" = true) (g2 : glOk sc "range" = true) (ha : SE X B Wx a f) (hs : starEach [a] X.env = (false, eval a X.env) :: starEach [] X.env := by rfl)
    (hs2 : starEach [.Call (.Name "range" p) [a] [] pos] X.env = (false, eval (.Call (.Name "range" p) [a] [] pos) X.env) :: starEach [] X.env := by rfl) : SE X B Wx (.Call (.Name "list" p2) [.Call (.Name "range" p) [a] [] pos] [] pos2) (cLstRg [f]) := by
  refine weakE (pe_listRg d.calm (d.gl g1) (d.fre hl) (prg_1 (d.gl g2) (d.fre hr) ha hs) hs2) fun sg H Q ⟨e, S, sl, rp, rs, h⟩ =>
    part (k := fun w S1 => match pRg [w] with
      | some q => .ok (W.lst (rgW q.1 q.2), S1)
      | none => .stuck) Ext.refl rp rs (by
        have h2 := h
        simp only [cLstRg, evs, wp_bind] at h2 ⊢
        exact wp_mono h2 (fun _ q => q) fun _ _ _ q => q) fun e1 S1 H1 w v x1 _ rp1 rs1 rv1 h1 => ?_
  cases rv1 with
  | int n =>
    by_cases c : n ≤ 16777216 ∧ -(2 ^ 62) ≤ n
    · have e0 : pRg [.int n] = some (0, n.toNat) := if_pos c
      simp only [e0] at h1
      refine ⟨n, rfl, ⟨by decide, by decide, c.2, by omega, by omega⟩, ?_⟩
      have e2 : rgV 0 n = (List.range n.toNat).map fun i => V.int (0 + (i : Nat)) := by unfold rgV; rw [Int.sub_zero]
      rw [e2]
      exact newL rp1 (by rw [sizeL]; simp; omega) (rgW_vrs 0 n.toNat) (Post.ext h1 x1)
    · have e0 : pRg [.int n] = none := if_neg c
      simp only [e0] at h1
      exact (show False from h1).elim
  | _ => exact (show False from h1).elim

def sPar2 (i j : Nat) (ds : List Den) : SDen := fun sl S => (evs ds sl S).bind fun r => match r.1 with
  | [u, v] => .ok ((.nx, (sl.set i (some u)).set j (some v)), r.2)
  | _ => .stuck
def isStar : Expr → Bool
  | .Starred .. => true
  | _ => false
def par2Ok (N : List Str) (sc : Scope) (i j : Nat) (x y : Str) (px py : Pos) (a b : Expr) : Bool :=
  ownOk N sc i x && (ownOk N sc j y && (decide (i ≠ j) && (decide (sc.kind = .function) && ((py.line == px.line) && (!(isStar a || isStar b) && (!(foldedForSure 8 a && foldedForSure 8 b) && (!(constantsAlone 8 a && constantsAlone 8 b) && !(x == y))))))))
theorem par2_hw {env : Env} {i j : Nat} {x y : Str} {px py pt pt2 : Pos} {kt k2 : Nat} {a b : Expr} (hs : env.scope = sc) (h : par2Ok N sc i j x y px py a b = true) :
    swappedStores [.Tuple [.Name x px, .Name y py] kt pt] (.Tuple [a, b] k2 pt2) env = pure (some [x, y]) := by
  subst hs
  simp only [par2Ok, ownOk, Bool.and_eq_true, decide_eq_true_eq, Bool.not_eq_true'] at h
  obtain ⟨⟨_, hx⟩, ⟨_, hy⟩, _, hk, hl, hst, hf, hc, hn⟩ := h
  have kx : env.kindOf x = some .local := hx
  have ky : env.kindOf y = some .local := hy
  have bk : env.blockKind = .function := by
    unfold Env.blockKind
    rw [hk]; rfl
  have n1 : (x == y) = false := hn
  have st1 : ([a, b].any fun e => match e with | .Starred .. => true | _ => false) = false := by
    cases a <;> cases b <;> first | rfl | (simp [isStar] at hst)
  unfold swappedStores
  have ff : [a, b].all (foldedForSure 8) = false := by simpa using hf
  have cc : [a, b].all (constantsAlone 8) = false := by simpa using hc
  have e1 : (px.line == px.line) = true := beq_self_eq_true _
  have ed : ([x, y].eraseDups).length = 2 := by
    have : (y == x) = false := by
      rw [Bool.eq_false_iff] at n1 ⊢
      intro z
      exact n1 (by simpa using (eq_of_beq z).symm)
    simp [List.eraseDups_cons, this]
  have kx' : (env.kindOf x == some NameKind.local) = true := by rw [kx]; rfl
  have ky' : (env.kindOf y == some NameKind.local) = true := by rw [ky]; rfl
  have bk' : (env.blockKind != ScopeKind.function) = false := by rw [bk]; rfl
  simp only [bk', List.length_cons, List.length_nil, List.filterMap_cons, List.filterMap_nil, List.head?_cons, Option.map_some, Option.getD_some, Expr.pos, kx', ky', e1, hl, Bool.and_self, if_true, ed, ff, cc]
  cases a <;> cases b <;> first | rfl | (simp [isStar] at hst)
theorem Bs.par2 (d : Bs P w K mg base N sc k X Wx) (i j : Nat) {x y : Str} {px py pt pt2 pos : Pos} {kt k2 : Nat} {a b : Expr} {ds : List Den} (ha : SA X B Wx [a, b] ds) (h : par2Ok N sc i j x y px py a b = true)
    (hs : swapsWithSole [.Tuple [.Name x px, .Name y py] kt pt] (.Tuple [a, b] k2 pt2) pos.line X.env = pure false := by rfl) : SS X B Wx (.Assign [.Tuple [.Name x px, .Name y py] kt pt] (.Tuple [a, b] k2 pt2) pos) (sPar2 i j ds) := by
  have h' := h
  simp only [par2Ok, ownOk, Bool.and_eq_true, decide_eq_true_eq] at h'
  obtain ⟨⟨nx, hx⟩, ⟨ny, hy⟩, nij, _⟩ := h'
  have lx : X.env.scope.names.lookup x = some .local := by rw [d.fr.s]; exact hx
  have ly : X.env.scope.names.lookup y = some .local := by rw [d.fr.s]; exact hy
  refine weakS (ps_par d.calm (by rw [d.fr.n]; exact d.nd) (by rw [d.fr.n]; exact nx) (by rw [d.fr.n]; exact ny) nij lx ly ha (par2_hw d.fr.s h) hs) fun D sg H ⟨e, S, sl, rp, rs, h⟩ =>
    partA (k := fun ws S1 => match ws with
      | [u, v] => .ok ((Out.nx, (sl.set i (some u)).set j (some v)), S1)
      | _ => .stuck) Ext.refl rp rs h fun e1 S1 H1 ws vs l x1 _ rp1 rs1 rv1 h1 => ?_
  match ws, h1 with
  | [u, v], h1 =>
    obtain ⟨v1, v2, rfl, r1, r2⟩ := rv1.two
    exact ⟨v1, v2, rfl, PostS.nx (PostS.ext h1 x1) rp1 ((rs1.set r1 i).set r2 j)⟩

def opAddM : W → W → M W := fun w u S => match vw S w, vw S u with
  | .lst a, .lst b => if a.length + b.length ≤ 16777216 then .ok (.ref S.nx, S.new (.lst (a ++ b))) else .stuck
  | _, _ => .stuck
theorem ops_addM : OpS A opAddM rCat := by
  intro e S H w u x y Q E rp rx ry h
  have vx := rp.vw rx
  have vy := rp.vw ry
  unfold opAddM at h
  split at h
  · next a b e1 e2 =>
    rw [e1] at vx; rw [e2] at vy
    split at h
    · next hz =>
      obtain ⟨p, xs, rfl, g1, z1, r1⟩ := vx
      obtain ⟨q, ys, rfl, g2, z2, r2⟩ := vy
      have hz' : xs.length + ys.length ≤ sizeLine := by rw [sizeL, ← r1.length, ← r2.length]; exact hz
      exact ⟨p, q, xs, ys, rfl, rfl, g1, g2, hz', newM rp (by rw [List.length_append]; exact hz') (r1.append r2) h⟩
    · exact h.elim
  · exact h.elim
theorem se_addM {a b : Expr} {pos : Pos} {f g : Den} (ha : SE X B Wx a f) (hb : SE X B Wx b g) : SE X B Wx (.BinOp a .Add b pos) (cBin opAddM f g) := se_op op_cat ops_addM ha hb
end HQ
namespace HQ
open PySem PySem.Spec PyProof.Rows L2
variable {X : L2.Cx} {B : Bm} {Wx : WX} {A : Am} {P : Program} {w : World} {K : PySem.W.Frag} {mg : Str → Option Value} {base : Heap} {N : List Str} {sc scope : Scope} {k : Nat}

open AutoSeq1 (wpAny_loadPart') in
set_option maxHeartbeats 4000000 in
theorem tup_mulSame (l : Addr) (items : Array Value) (n : Nat) (dd : Option Addr) (sl : Array (Option Value)) (x : Int) (u : Tok) (c0 : (decide (x < -(2 ^ 63)) || decide (x ≥ 2 ^ 63)) = false) (c1 : (items.isEmpty || x == 1) = true) :
    Meets (Builtin.«tuple.__mul__» ⟨[.ref l, .int x u], []⟩) (fun _ R s => s.heap.get? l = some { cls := .type "tuple", dict := dd, data := .seq items n, slots := sl } ∧ R (.ok (.ret (.ref l))) s) :=
  .of_wp fun prog w U R s hh => by
    obtain ⟨hp, g, d, tk, os⟩ := s
    obtain ⟨hl, hR⟩ := hh
    have ix := AutoSeq1.idx_int
    wp_walk using wpAny_loadPart' hl
    repeat (first
      | (refine wpAny_ite_false (decide_eq_false (by rw [c0]; exact Bool.false_ne_true)) ?_; wp_walk using wpAny_loadPart' hl)
      | (refine wpAny_ite_true (decide_eq_true c1) ?_; wp_walk using wpAny_loadPart' hl))
    exact ⟨_, rfl, hR⟩
def rRepS (K : PySem.W.Frag) : R2 := fun x y H Q => ∃ l k xs, x = .ref l ∧ y = .int k ∧ SqT K H l xs ∧ -(2 ^ 63) ≤ k ∧ k < 2 ^ 63 ∧ (xs = [] ∨ k = 1) ∧ Q (.ref l) H
theorem op_repS : OpR X (binaryOp .Mult) (rRepS X.K) := by
  intro pins s sg H x y v u Q I rx ry h
  obtain ⟨l, k, xs, rfl, rfl, hT, h1, h2, hc, q⟩ := h
  obtain rfl : v = Value.ref l := rx
  obtain ⟨t, rfl⟩ := ry
  obtain ⟨its, r, ⟨⟨cls, dd, data, sl⟩, ho, hcl, n, hd⟩, hs⟩ := I.tuple hT
  obtain rfl : cls = .type "tuple" := hcl
  obtain rfl : data = .seq its.toArray n := hd
  have c0 : (decide (k < -(2 ^ 63)) || decide (k ≥ 2 ^ 63)) = false := by rw [decide_eq_false (by omega), decide_eq_false (by omega)] <;> rfl
  have c1 : (its.toArray.isEmpty || k == 1) = true := by
    rcases hc with z | z
    · subst z
      cases r
      rfl
    · subst z
      rw [show ((1 : Int) == 1) = true from rfl, Bool.or_true]
  exact wpAny_binaryOp_repeat_ref (T := "tuple") (U := "int") (by decide) ⟨_, ho, rfl⟩ (fun s' => typeIs_int s' k t) noFill_tuple_mul F.fills_int_mul F.slot_int_rmul repeat_tuple F.slot_int_index.lookup
    (call_meets F.slot_int_rmul (typeIs_int s k t) F.entry_int_rmul (F.args_int_rmul_2 _ _) (int_rmul_tuple k t l its.toArray n dd sl)
      ⟨ho, rfl, ⟨_, ho, rfl⟩, call_meets F.slot_tuple_mul ⟨_, ho, rfl⟩ F.entry_tuple_mul (F.args_tuple_mul_2 _ _) (tup_mulSame l its.toArray n dd sl k t c0 c1) ⟨ho, .ref l, H, I, rfl, q⟩⟩)
def rpW (ws : List W) : Nat → List W
  | 0 => []
  | n + 1 => ws ++ rpW ws n
theorem rpW_flat (ws : List W) : ∀ n, rpW ws n = (List.replicate n ws).flatten
  | 0 => rfl
  | n + 1 => by rw [List.replicate_succ, List.flatten_cons, ← rpW_flat ws n]; rfl
def pMul : W → W → Option W
  | .int i, .int j => pMulI (.int i) (.int j)
  | .tup ws, .int j => if -(2 ^ 63) ≤ j ∧ j < 2 ^ 63 ∧ (ws.length = 0 ∨ j = 1) then some (.tup ws) else if 2 ≤ j ∧ j ≤ 1000 ∧ ws.length ≤ 1000 then some (.tup (rpW ws j.toNat)) else none
  | .lst ws, .int j => if -(2 ^ 63) ≤ j ∧ j < 2 ^ 63 ∧ ws.length * j.toNat ≤ 16777216 then some (.lst (rpW ws j.toNat)) else none
  | _, _ => none
theorem VRs.rep {e : Emb} {nx : Nat} {H : Hp} {ws : List W} {vs : List V} (r : VRs A e nx H ws vs) : ∀ n, VRs A e nx H (rpW ws n) (List.replicate n vs).flatten
  | 0 => .nil
  | n + 1 => by rw [List.replicate_succ, List.flatten_cons]; exact r.append (VRs.rep r n)
def rMulS (K : PySem.W.Frag) : R2 := fun x y H Q => rI CMul (fun i j => .int (i * j)) x y H Q ∨ (rRepS K x y H Q ∨ (rRepT K x y H Q ∨ rRep x y H Q))
theorem rep_len (vs : List V) : ∀ n, (List.replicate n vs).flatten.length = n * vs.length
  | 0 => by simp
  | n + 1 => by rw [List.replicate_succ, List.flatten_cons, List.length_append, rep_len vs n, Nat.succ_mul]; omega
theorem ops_mul : OpS A (opV pMul) (rMulS A.K) := by
  intro e S H w u x y Q E rp rx ry h
  obtain ⟨z, q, p⟩ := opV_wp h
  have vx := rp.vw rx
  have vy := rp.vw ry
  unfold pMul at q
  split at q
  · next i j e1 e2 =>
    rw [e1] at vx; rw [e2] at vy
    unfold pMulI pInt at q
    simp only at q
    split at q
    · next c =>
      cases q
      exact .inl ⟨i, j, vx, vy, of_decide_eq_true (p := (-(2 ^ 64) < i ∧ i < 2 ^ 64) ∨ (-(2 ^ 64) < j ∧ j < 2 ^ 64)) c, Post.now p rp (.int _)⟩
    · cases q
  · next ws j e1 e2 =>
    rw [e1] at vx; rw [e2] at vy
    obtain ⟨a, xs, rfl, g, zl, r⟩ := vx
    split at q
    · next c =>
      cases q
      refine .inr (.inl ⟨a, j, xs, rfl, vy, .of g, c.1, c.2.1, ?_, Post.now p rp (.tup g zl r)⟩)
      rcases c.2.2 with y1 | y1
      · exact .inl (List.eq_nil_of_length_eq_zero (by rw [← r.length]; exact y1))
      · exact .inr y1
    · next c1 =>
      split at q
      · next c =>
        cases q
        have hl := r.length
        refine .inr (.inr (.inl ⟨a, j, xs, rfl, vy, .of g, ?_, c.1, c.2.1, by rw [← hl]; exact c.2.2, newT rp ?_ (r.rep _) p⟩))
        · intro y1
          subst y1
          exact c1 ⟨by omega, by omega, .inl hl⟩
        · rw [rep_len, sizeL, ← hl]
          have : j.toNat * ws.length ≤ 1000 * 1000 := Nat.mul_le_mul (by omega) c.2.2
          omega
      · cases q
  · next ws j e1 e2 =>
    rw [e1] at vx; rw [e2] at vy
    obtain ⟨a, xs, rfl, g, zl, r⟩ := vx
    split at q
    · next c =>
      cases q
      have hl := r.length
      have hz : xs.length * j.toNat ≤ sizeLine := by rw [sizeL, ← hl]; exact c.2.2
      exact .inr (.inr (.inr ⟨a, j, xs, rfl, vy, g, c.1, c.2.1, hz, newL rp (by rw [rep_len, Nat.mul_comm]; exact hz) (r.rep _) p⟩))
    · cases q
  · cases q
theorem se_mul {a b : Expr} {pos : Pos} {f g : Den} (ha : SE X B Wx a f) (hb : SE X B Wx b g) : SE X B Wx (.BinOp a .Mult b pos) (cBin (opV pMul) f g) := se_op (op_mul.or (op_repS.or (op_repT.or op_rep))) ops_mul ha hb
end HQ
namespace HQ
open PySem PySem.Spec PyProof.Rows L2
variable {X : L2.Cx} {B : Bm} {Wx : WX} {A : Am}

section
variable {prog : Program} {w : World} {U : Around} {E : Value → Shared → Prop} {s : Shared}
theorem fm_congr {f g : Nat → Option Value} : ∀ (l : List Nat), (∀ k ∈ l, f k = g k) → l.filterMap f = l.filterMap g
  | [], _ => rfl
  | a :: l, h => by
    rw [List.filterMap_cons, List.filterMap_cons, h a List.mem_cons_self, fm_congr l fun k hk => h k (List.mem_cons_of_mem _ hk)]
theorem pick_rev (xs : Array Value) : ((List.range xs.size).filterMap fun (k : Nat) => xs[(((xs.size : Nat) : Int) - 1 + (k : Int) * (-1)).toNat]?).toArray = xs.toList.reverse.toArray := by
  congr 1
  have e : ∀ k ∈ List.range xs.size, xs[(((xs.size : Nat) : Int) - 1 + (k : Int) * (-1)).toNat]? = xs.toList.reverse[k]? := fun k hk => by
    have hk' : k < xs.size := List.mem_range.mp hk
    rw [List.getElem?_reverse (by simpa using hk'), Array.length_toList, Array.getElem?_toList]
    congr 1
    omega
  rw [fm_congr _ e]
  have all : ∀ l : List Value, (List.range l.length).filterMap (fun k => l[k]?) = l := fun l => by
    induction l with
    | nil => rfl
    | cons x l ih =>
      rw [List.length_cons, List.range_succ_eq_map, List.filterMap_cons]
      simp only [List.getElem?_cons_zero, List.filterMap_map]
      congr 1
  have := all xs.toList.reverse
  rwa [List.length_reverse, Array.length_toList] at this
theorem applied_rev {sl : Addr} {vs : Value} {n : Nat} {Q : Int × Int × Nat → Shared → Prop} (hs : s.heap.IsSliceOf sl .none .none vs) (pv : IsPart vs (some (-1))) (h : Q (((n : Nat) : Int) - 1, -1, n) s) : wpAny (model prog w) U (Builtin.Slice.sliceApplied (.ref sl) (pure (n : Int))) Q E s := by
  obtain ⟨os, hos, hcs, hds⟩ := id hs
  unfold Builtin.Slice.sliceApplied Builtin.Slice.sliceFields
  refine wpAny_bind (wpAny_bind (wpAny_field hos hds (x := .none) rfl (wpAny_bind (wpAny_field hos hds (x := .none) rfl (wpAny_bind (wpAny_field hos hds (x := vs) rfl (wpAny_pure ?_)))))))
  refine wpAny_bind (HT.slicePart_ pv ?_)
  show wpAny _ _ (if ((-1 : Int) == 0) = true then _ else _) _ _ s
  rw [if_neg (by decide)]
  refine wpAny_bind (slicePart_none (wpAny_bind (slicePart_none (wpAny_bind (wpAny_pure ?_)))))
  have e1 : Builtin.Slice.sliceAdjust none none (-1) (n : Int) = (((n : Nat) : Int) - 1, -1) := rfl
  show wpAny _ _ (match Builtin.Slice.sliceAdjust none none (-1) (n : Int) with | (lo, hi) => pure (lo, (-1 : Int), Builtin.Slice.slicePlaces lo hi (-1))) _ _ s
  rw [e1]
  have e2 : Builtin.Slice.slicePlaces (((n : Nat) : Int) - 1) (-1) (-1) = n := by
    unfold Builtin.Slice.slicePlaces
    simp only [show ¬ ((-1 : Int) > 0) by omega, if_false, Int.neg_neg, Int.ediv_one]
    split <;> omega
  show wpAny _ _ (pure (((n : Nat) : Int) - 1, (-1 : Int), Builtin.Slice.slicePlaces (((n : Nat) : Int) - 1) (-1) (-1))) _ _ s
  rw [e2]
  exact wpAny_pure h
theorem getItem_tupRev {t sl : Addr} {its : Array Value} {vs : Value} {Q : Value → Shared → Prop} (ht : IsTup s.heap t its) (hs : s.heap.IsSliceOf sl .none .none vs) (pv : IsPart vs (some (-1))) (hz : its.size ≤ sizeLine)
    (h : Q (.ref s.heap.objs.size) { s with heap := s.heap.push { cls := .type "tuple", data := .seq its.toList.reverse.toArray } }) : wpAny (model prog w) U (getItem (.ref t) (.ref sl)) Q E s := by
  have room : sizeOk (.seq its.toList.reverse.toArray) := by
    show its.toList.reverse.toArray.size ≤ sizeLine
    rw [List.size_toArray, List.length_reverse, Array.length_toList]
    exact hz
  obtain ⟨os, hos, hcs, hds⟩ := id hs
  have hT : s.TypeIs (.ref sl) "slice" := ⟨os, hos, hcs⟩
  unfold getItem
  try with_reducible refine wpAny_holding ?_
  first | refine wpAny_bind (wpAny_pure ?_) | skip
  refine wpAny_bind (wpAny_sequenceKey ht.typeIs (by decide) ?_)
  refine wpAny_bind (wpAny_callSpecial?_slot (name := Str.ofString "__getitem__") ht.typeIs PyProof.Rows.slot_tuple_getitem (wpAny_call_entry PyProof.Rows.slot_tuple_getitem ht.typeIs entry_tuple_getitem ?_ (args_tuple_getitem _ _)))
  show wpAny _ _ (Builtin.Tuple.tupleItemsOf (.ref t) >>= _) _ _ s
  refine wpAny_bind (tupleItemsOf_ ht (wpAny_bind (wpAny_typeOf hT ?_)))
  rw [if_pos (by decide)]
  refine wpAny_bind (applied_rev hs pv ?_)
  have hno : ¬ (((((its.size : Nat) : Int) - 1 == 0) && ((-1 : Int) == 1) && (its.size == its.size)) = true) := by simp
  show wpAny _ _ (if ((((its.size : Nat) : Int) - 1 == 0) && ((-1 : Int) == 1) && (its.size == its.size)) = true then _ else _) _ _ s
  rw [if_neg hno, pick_rev]
  first
    | exact wpAny_bind (m := Builtin.Tuple.tupleExact _) (wpAny_newObj_type (wpAny_pure ⟨_, rfl, wpAny_pure h⟩) room)
    | exact wpAny_bind (m := Builtin.Tuple.tupleExact _) (wpAny_newObj_type (wpAny_bind (wpAny_pure (wpAny_pure ⟨_, rfl, wpAny_pure h⟩))) room)
    | exact wpAny_bind (wpAny_bind (m := Builtin.Tuple.tupleExact _) (wpAny_newObj_type (wpAny_pure (wpAny_pure ⟨_, rfl, wpAny_pure h⟩)) room))
    | exact wpAny_bind (wpAny_bind (m := Builtin.Tuple.tupleExact _) (wpAny_newObj_type (wpAny_pure ⟨_, rfl, wpAny_pure h⟩) room))
end
def tRevA (K : PySem.W.Frag) (te : TE) : TE := fun sg H Q => te sg H fun x H1 => ∃ a xs, x = .ref a ∧ ((SqL K H1 a xs ∧ ∀ p, H1 p = none → Q (.ref p) (upd H1 p (.lst xs.reverse))) ∨ (SqT K H1 a xs ∧ ∀ p, H1 p = none → Q (.ref p) (upd H1 p (.tup xs.reverse))))
theorem pe_revA {e : Expr} {te : TE} {k : Nat} {p1 p2 p3 pos : Pos} (he : PE X e te) : PE X (.Subscript e (.Slice none none (some (.UnaryOp .USub (.Constant (.int 1) k p1) p2)) p3) pos) (tRevA X.K te) := by
  refine ⟨fun pins s sg H Q I h => ?_⟩
  refine Subscript_ (thn (he.run pins s sg H _ I h) fun v s1 ⟨x, H1, I1, r1, a, xs, ex, q⟩ => ?_)
  subst ex
  obtain rfl : v = Value.ref a := r1
  have pst : PO X (some (.UnaryOp .USub (.Constant (.int 1) k p1) p2)) (tPart (tUn (rU fun i => .int (-i)) (tC (.int 1)))) := po_some (pe_un un_neg pe_int)
  refine wpAny_Slice (thn (po_none.run pins s1 sg H1 (fun o H2 => o = none ∧ H2 = H1) I1 ⟨rfl, rfl⟩) fun vl s2 ⟨l, H2, I2, pl, el, e2⟩ => ?_)
  obtain rfl : l = none := el
  obtain rfl : H2 = H1 := e2
  refine thn (po_none.run pins s2 sg H2 (fun o H3 => o = none ∧ H3 = H2) I2 ⟨rfl, rfl⟩) fun vu s3 ⟨u, H3, I3, pu, eu, e3⟩ => ?_
  obtain rfl : u = none := eu
  obtain rfl : H3 = H2 := e3
  refine thn (pst.run pins s3 sg H3 (fun o H4 => o = some (-1) ∧ H4 = H3) I3 ⟨1, rfl, -1, rfl, rfl, rfl⟩) fun vs s4 ⟨o, H4, I4, ps, eo, e4⟩ => ?_
  obtain rfl : o = some (-1) := eo
  obtain rfl : H4 = H3 := e4
  have vlN : vl = .none := by cases pl; rfl
  have vuN : vu = .none := by cases pu; rfl
  subst vlN vuN
  have I5 : Inv X pins sg H4 { s4 with heap := s4.heap.push { cls := .type "slice", data := .fields #[.none, .none, vs] } } := I4.kept (t' := s4.toks) fun b ob z => Heap.get?_push_of_some _ z
  show wpAny (model X.prog X.w) X.A (subscriptTail e (.Slice none none (some (.UnaryOp .USub (.Constant (.int 1) k p1) p2)) p3) (.ref a) (.ref s4.heap.objs.size)) (EP X pins sg Q) X.xe { s4 with heap := s4.heap.push { cls := .type "slice", data := .fields #[.none, .none, vs] } }
  rcases q with ⟨hx, q⟩ | ⟨hx, q⟩
  · obtain ⟨its, r, ht, hz⟩ := I5.list hx
    refine tail_any (ops := [.ref a, .ref s4.heap.objs.size]) ht.isList.typeIs PySem.slot_list_getitem.lookup ?_ (by with_unfolding_all rfl)
    refine wpAny_getItem_list_slice ht.isList (Heap.IsSliceOf.new _ .none .none vs) .none .none ps (by decide) ?_ (by rw [List.size_toArray, ← r.length]; exact hz)
    rw [PySem.W.krv_pick]
    refine ⟨.ref _, _, I5.laid (t' := s4.toks) (o := .lst xs.reverse) (fun b ob z => Heap.get?_push_of_some _ z) (Nat.le_refl _) ?_, rfl, q _ (I5.hok.fresh (Nat.le_refl _))⟩
    exact ⟨by rw [List.length_reverse]; exact hz, _, 0, r.reverse, Heap.get?_push_size _ rfl⟩
  · obtain ⟨its, r, ht, hz⟩ := I5.tuple hx
    refine tail_any (ops := [.ref a, .ref s4.heap.objs.size]) ht.typeIs PyProof.Rows.slot_tuple_getitem.lookup ?_ (by with_unfolding_all rfl)
    refine getItem_tupRev ht (Heap.IsSliceOf.new _ .none .none vs) ps (by rw [List.size_toArray, ← r.length]; exact hz) ?_
    refine ⟨.ref _, _, I5.laid (t' := s4.toks) (o := .tup xs.reverse) (fun b ob z => Heap.get?_push_of_some _ z) (Nat.le_refl _) ?_, rfl, q _ (I5.hok.fresh (Nat.le_refl _))⟩
    exact ⟨by rw [List.length_reverse]; exact hz, _, r.reverse, IsTup.new _ _⟩
def rvW (ws : List W) : List W := ws.foldl (fun r w => w :: r) []
theorem rvW_eq (ws : List W) : rvW ws = ws.reverse := by
  unfold rvW
  have : ∀ (l acc : List W), l.foldl (fun r w => w :: r) acc = l.reverse ++ acc := fun l => by
    induction l with
    | nil => intro acc; rfl
    | cons x l ih => intro acc; rw [List.foldl_cons, ih, List.reverse_cons, List.append_assoc]; rfl
  rw [this, List.append_nil]
theorem VRs.rev {e : Emb} {nx : Nat} {H : Hp} : ∀ {ws : List W} {vs : List V}, VRs A e nx H ws vs → VRs A e nx H ws.reverse vs.reverse
  | _, _, .nil => .nil
  | _, _, .cons a r => by
    rw [List.reverse_cons, List.reverse_cons]
    exact (VRs.rev r).append (.cons a .nil)
def cRev (f : Den) : Den := fun sl S => (f sl S).bind fun r => match vw r.2 r.1 with
  | .lst ws => .ok (.lst (rvW ws), r.2)
  | .tup ws => .ok (.tup (rvW ws), r.2)
  | _ => .stuck
theorem se_rev {a : Expr} {f : Den} {k : Nat} {p1 p2 p3 pos : Pos} (ha : SE X B Wx a f) : SE X B Wx (.Subscript a (.Slice none none (some (.UnaryOp .USub (.Constant (.int 1) k p1) p2)) p3) pos) (cRev f) :=
  weakE (pe_revA ha) fun sg H Q ⟨e, S, sl, rp, rs, h⟩ =>
    part (k := fun w S1 => match vw S1 w with
      | .lst ws => .ok (W.lst (rvW ws), S1)
      | .tup ws => .ok (W.tup (rvW ws), S1)
      | _ => .stuck) Ext.refl rp rs h fun e1 S1 H1 w v x1 _ rp1 rs1 rv1 h1 => by
      have vx := rp1.vw rv1
      cases q : vw S1 w with
      | lst ws =>
        simp only [q, rvW_eq] at h1
        rw [q] at vx
        obtain ⟨a, xs, rfl, g, z, r⟩ := vx
        exact ⟨a, xs, rfl, .inl ⟨.of g, newL rp1 (by rw [List.length_reverse]; exact z) r.rev (Post.ext h1 x1)⟩⟩
      | tup ws =>
        simp only [q, rvW_eq] at h1
        rw [q] at vx
        obtain ⟨a, xs, rfl, g, z, r⟩ := vx
        exact ⟨a, xs, rfl, .inr ⟨.of g, newT rp1 (by rw [List.length_reverse]; exact z) r.rev (Post.ext h1 x1)⟩⟩
      | _ => simp only [q] at h1; exact (show False from h1).elim
end HQ
namespace HQ
open PySem PySem.Spec PyProof.Rows L2
variable {X : L2.Cx} {B : Bm} {Wx : WX} {A : Am} {P : Program} {w : World} {K : PySem.W.Frag} {mg : Str → Option Value} {base : Heap} {N : List Str} {sc scope : Scope} {k : Nat}

mutual
def rpD : Nat → W → Bool
  | _, .non => true
  | _, .bl _ => true
  | _, .int i => decide (i.natAbs < 10 ^ 30)
  | _, .str _ => true
  | n + 1, .tup ws => rpDs n ws
  | n + 1, .lst ws => rpDs n ws
  | n + 1, .dic _ kvs => rpDk n kvs
  | _, _ => false
def rpDs : Nat → List W → Bool
  | _, [] => true
  | n, w :: r => rpD n w && rpDs n r
def rpDk : Nat → List (W × W) → Bool
  | _, [] => true
  | n, (k, w) :: r => rpD n k && (rpD n w && rpDk n r)
end
mutual
def bkW : W → Nat
  | .str n => (dec n).cps.size
  | .tup ws => bkWs ws
  | .lst ws => bkWs ws
  | .dic _ kvs => bkWk kvs
  | _ => 0
def bkWs : List W → Nat
  | [] => 0
  | w :: r => bkW w + 1 + bkWs r
def bkWk : List (W × W) → Nat
  | [] => 0
  | (k, w) :: r => bkW k + bkW w + 2 + bkWk r
end
mutual
theorem bk_toD : ∀ {n : Nat} {w : W}, rpD n w = true → (toD w).bulk = bkW w
  | _, .non, _ => by simp [toD, PyData.bulk, bkW]
  | _, .bl _, _ => by simp [toD, PyData.bulk, bkW]
  | _, .int _, _ => by simp [toD, PyData.bulk, bkW]
  | _, .str _, _ => by simp [toD, PyData.bulk, bkW]
  | 0, .tup _, h => by simp [rpD] at h
  | n + 1, .tup ws, h => by simp only [toD, PyData.bulk, bkW]; exact bks_toD (n := n) (by simpa only [rpD] using h)
  | 0, .lst _, h => by simp [rpD] at h
  | n + 1, .lst ws, h => by simp only [toD, PyData.bulk, bkW]; exact bks_toD (n := n) (by simpa only [rpD] using h)
  | 0, .dic _ _, h => by simp [rpD] at h
  | n + 1, .dic _ kvs, h => by simp only [toD, PyData.bulk, bkW]; exact bkk_toD (n := n) (by simpa only [rpD] using h)
  | _, .ins _ _, h => by simp [rpD] at h
  | _, .ref _, h => by simp [rpD] at h
  | _, .pen, h => by simp [rpD] at h
  | _, .rep _, h => by simp [rpD] at h
  | _, .sym _ _, h => by simp [rpD] at h
  | _, .exc _, h => by simp [rpD] at h
theorem bks_toD : ∀ {n : Nat} {ws : List W}, rpDs n ws = true → PyData.bulkAll (toDs ws) = bkWs ws
  | _, [], _ => by simp [toDs, PyData.bulkAll, bkWs]
  | n, w :: r, h => by
    have h' := Bool.and_eq_true_iff.mp (show (rpD n w && rpDs n r) = true by simpa only [rpDs] using h)
    simp only [toDs, PyData.bulkAll, bkWs, bk_toD h'.1, bks_toD h'.2]
theorem bkk_toD : ∀ {n : Nat} {kvs : List (W × W)}, rpDk n kvs = true → PyData.bulkKv (toKv kvs) = bkWk kvs
  | _, [], _ => by simp [toKv, PyData.bulkKv, bkWk]
  | n, (k, w) :: r, h => by
    have h' : rpD n k = true ∧ rpD n w = true ∧ rpDk n r = true := by simpa only [rpDk, Bool.and_eq_true] using h
    simp only [toKv, PyData.bulkKv, bkWk, bk_toD h'.1, bk_toD h'.2.1, bkk_toD h'.2.2]
end
theorem int_short {i : Int} (h : i.natAbs < 10 ^ 30) : (PyData.shown (.int i)).length ≤ 32 := by
  have e := int_text_length_le10 (k := 30) (by decide) h
  simp only [PyData.shown]
  have z : (Str.ofString (toString i)).length = (toString i).length := PySem.ofString_length _
  omega
theorem log_small {i : Int} (h : i.natAbs < 10 ^ 30) : i.natAbs.log2 < 1920 := by
  by_cases z : i.natAbs = 0
  · rw [z]; decide
  · rw [Nat.log2_lt z]
    exact Nat.lt_of_lt_of_le h (by decide +kernel)
theorem dec_short (n : Nat) : ∀ c ∈ (dec n).cps.toList, c < 16 ^ 8 := by
  intro c hc
  have h := strOk_dec n
  unfold PyData.strOk at h
  have := Array.all_eq_true_iff_forall_mem.mp h c (by simpa using hc)
  have h2 : c < 0x110000 := by simpa using this
  omega
mutual
theorem sh_toD : ∀ {n : Nat} {w : W}, rpD n w = true → (toD w).showable = true ∧ (toD w).leavesShort 32 = true ∧ (toD w).depth ≤ n
  | _, .non, _ => by simp [toD, PyData.showable, PyData.leavesShort, PyData.depth]
  | _, .bl _, _ => by simp [toD, PyData.showable, PyData.leavesShort, PyData.depth]
  | _, .int i, h => by
    have h' : i.natAbs < 10 ^ 30 := of_decide_eq_true (by simpa only [rpD] using h)
    simp only [toD, PyData.showable, PyData.leavesShort, PyData.depth]
    exact ⟨decide_eq_true (log_small h'), decide_eq_true (int_short h'), Nat.zero_le _⟩
  | _, .str m, _ => by
    simp only [toD, PyData.showable, PyData.leavesShort, PyData.depth]
    exact ⟨trivial, List.all_eq_true.mpr fun c hc => decide_eq_true (dec_short m c hc), Nat.zero_le _⟩
  | 0, .tup _, h => by simp [rpD] at h
  | n + 1, .tup ws, h => by
    obtain ⟨h1, h2, h3⟩ := shs_toD (n := n) (ws := ws) (by simpa only [rpD] using h)
    simp only [toD, PyData.showable, PyData.leavesShort, PyData.depth]
    exact ⟨h1, h2, Nat.succ_le_succ h3⟩
  | 0, .lst _, h => by simp [rpD] at h
  | n + 1, .lst ws, h => by
    obtain ⟨h1, h2, h3⟩ := shs_toD (n := n) (ws := ws) (by simpa only [rpD] using h)
    simp only [toD, PyData.showable, PyData.leavesShort, PyData.depth]
    exact ⟨h1, h2, Nat.succ_le_succ h3⟩
  | 0, .dic _ _, h => by simp [rpD] at h
  | n + 1, .dic _ kvs, h => by
    obtain ⟨h1, h2, h3⟩ := shk_toD (n := n) (kvs := kvs) (by simpa only [rpD] using h)
    simp only [toD, PyData.showable, PyData.leavesShort, PyData.depth]
    exact ⟨h1, h2, Nat.succ_le_succ h3⟩
  | _, .ins _ _, h => by simp [rpD] at h
  | _, .ref _, h => by simp [rpD] at h
  | _, .pen, h => by simp [rpD] at h
  | _, .rep _, h => by simp [rpD] at h
  | _, .sym _ _, h => by simp [rpD] at h
  | _, .exc _, h => by simp [rpD] at h
theorem shs_toD : ∀ {n : Nat} {ws : List W}, rpDs n ws = true → PyData.showableAll (toDs ws) = true ∧ PyData.leavesShortAll 32 (toDs ws) = true ∧ PyData.depthAll (toDs ws) ≤ n
  | _, [], _ => by simp [toDs, PyData.showableAll, PyData.leavesShortAll, PyData.depthAll]
  | n, w :: r, h => by
    have h' := Bool.and_eq_true_iff.mp (show (rpD n w && rpDs n r) = true by simpa only [rpDs] using h)
    obtain ⟨a1, a2, a3⟩ := sh_toD h'.1
    obtain ⟨b1, b2, b3⟩ := shs_toD h'.2
    simp only [toDs, PyData.showableAll, PyData.leavesShortAll, PyData.depthAll, a1, a2, b1, b2]
    exact ⟨rfl, rfl, Nat.max_le.mpr ⟨a3, b3⟩⟩
theorem shk_toD : ∀ {n : Nat} {kvs : List (W × W)}, rpDk n kvs = true → PyData.showableKv (toKv kvs) = true ∧ PyData.leavesShortKv 32 (toKv kvs) = true ∧ PyData.depthKv (toKv kvs) ≤ n
  | _, [], _ => by simp [toKv, PyData.showableKv, PyData.leavesShortKv, PyData.depthKv]
  | n, (k, w) :: r, h => by
    have h' : rpD n k = true ∧ rpD n w = true ∧ rpDk n r = true := by simpa only [rpDk, Bool.and_eq_true] using h
    obtain ⟨a1, a2, a3⟩ := sh_toD h'.1
    obtain ⟨c1, c2, c3⟩ := sh_toD h'.2.1
    obtain ⟨b1, b2, b3⟩ := shk_toD h'.2.2
    simp only [toKv, PyData.showableKv, PyData.leavesShortKv, PyData.depthKv, a1, a2, b1, b2, c1, c2]
    exact ⟨rfl, rfl, Nat.max_le.mpr ⟨Nat.max_le.mpr ⟨a3, c3⟩, b3⟩⟩
end
def okRp (w : W) : Bool := rpD 60 w && decide (bkW w ≤ 480000)
theorem okRp_len {w : W} (h : okRp w = true) : (shW w).length ≤ sizeLine := by
  obtain ⟨h1, h2⟩ := Bool.and_eq_true_iff.mp h
  have := PyData.shown_le_bulk 32 (by decide) (toD w) (sh_toD h1).2.1
  rw [bk_toD h1] at this
  have h3 : bkW w ≤ 480000 := of_decide_eq_true h2
  unfold shW
  rw [sizeL]
  omega

abbrev Away (as : List Addr) : Prop := sysModules ∉ as
theorem away_lst {pins : List (Addr × Obj)} {sg : L2.St} {H : Hp} {s : Shared} (sm : SmR X.K) (I : Inv X pins sg H s) {a : Addr} {o : Obj} (h : s.heap.get? a = some o) (hc : o.cls = .type "list") : a ≠ sysModules := fun z => by
  obtain ⟨u, l, c⟩ := sm
  have := I.kIn _ _ l
  rw [← z, h] at this
  cases this
  rw [hc] at c
  exact absurd c (by decide)
theorem away_cons {a : Addr} {as : List Addr} (h : a ≠ sysModules) (r : Away as) : Away (a :: as) := fun z => by
  rcases List.mem_cons.mp z with q | q
  · exact h q.symm
  · exact r q
theorem away_app {as bs : List Addr} (h : Away as) (r : Away bs) : Away (as ++ bs) := fun z => by
  rcases List.mem_append.mp z with q | q
  · exact h q
  · exact r q
theorem key_reads {h : Heap} {w : W} {k : Key} {u : Value} (r : KeyR w k) (q : keyIs k u = true) : Reads h u (toD w) [] := by
  rcases keyIs_shape q with ⟨i, t, rfl, rfl⟩ | ⟨x, t, rfl, rfl⟩
  · cases r with
    | int => simp only [toD]; exact .int _ _
  · cases r with
    | str => simp only [toD]; exact .str _ _
theorem relKey : ∀ {k : Key} {u : Value}, RelV (kV k) u → keyIs k u = true
  | .inl i, u, r => by
    obtain ⟨t, rfl⟩ := (show ∃ t, u = Value.int i t from r)
    exact keyIs_int i t
  | .inr x, u, r => by
    obtain ⟨t, rfl⟩ := (show ∃ t, u = Value.str x t from r)
    exact keyIs_str x t
theorem rpDk_cons {n : Nat} {k w : W} {r : List (W × W)} (h : rpDk n ((k, w) :: r) = true) : rpD n k = true ∧ rpD n w = true ∧ rpDk n r = true := by simpa only [rpDk, Bool.and_eq_true] using h
theorem keys_reads {h : Heap} : ∀ {ws : List W} {ks : List Key} {us : List Value}, KeysR ws ks → Vals (ks.map kV) us → ReadsAll h us (toDs ws) []
  | _, _, _, .nil, r => by
    cases r
    simp only [toDs]
    exact .nil
  | _, _, _, .cons k ks, r => by
    cases r with
    | cons r1 r2 =>
      simp only [toDs]
      have a := key_reads (h := h) k (relKey r1)
      exact ReadsAll.cons (as := []) (bs := []) a (keys_reads ks r2)
section
variable {pins : List (Addr × Obj)} {sg : L2.St} {H : Hp} {s : Shared} {e : Emb} {nx : Nat}
mutual
theorem vr_reads (sm : SmR X.K) (I : Inv X pins sg H s) : ∀ {n : Nat} {w : W} {v : V} {u : Value}, VR A e nx H w v → RelV v u → rpD n w = true → ∃ as, Reads s.heap u (toD w) as ∧ Away as
  | _, _, _, _, .non, r, _ => by
    obtain rfl := r
    simp only [toD]
    exact ⟨_, .none, List.not_mem_nil⟩
  | _, _, _, _, .bl b, r, _ => by
    obtain rfl := r
    simp only [toD]
    exact ⟨_, .bool b, List.not_mem_nil⟩
  | _, _, _, _, .int i, r, _ => by
    obtain ⟨t, rfl⟩ := r
    simp only [toD]
    exact ⟨_, .int i t, List.not_mem_nil⟩
  | _, _, _, _, .str m, r, _ => by
    obtain ⟨t, rfl⟩ := r
    simp only [toD]
    exact ⟨_, .str _ t, List.not_mem_nil⟩
  | 0, _, _, _, .tup _ _ _, _, h => by simp [rpD] at h
  | n + 1, _, _, _, .tup g z r, ru, h => by
    obtain rfl := ru
    obtain ⟨_, its, rv, o, h1, h2, m, h3⟩ := (show ObjOk X.prog X.w H s.heap _ (.tup _) from I.hok _ _ g)
    obtain ⟨as, q, aw⟩ := vrs_reads sm I (n := n) r rv (by simpa only [rpD] using h)
    simp only [toD]
    exact ⟨as, Reads.tuple h1 h2 h3 (by simpa using q), aw⟩
  | 0, _, _, _, .lst _ _ _ _, _, h => by simp [rpD] at h
  | n + 1, _, _, _, .lst f g z r, ru, h => by
    obtain rfl := ru
    obtain ⟨_, its, m, rv, h1⟩ := (show ObjOk X.prog X.w H s.heap _ (.lst _) from I.hok _ _ g)
    obtain ⟨as, q, aw⟩ := vrs_reads sm I (n := n) r rv (by simpa only [rpD] using h)
    simp only [toD]
    exact ⟨_, Reads.list h1 rfl rfl (by simpa using q), away_cons (away_lst sm I h1 rfl) aw⟩
  | 0, _, _, _, .dK _ _ _, _, h => by simp [rpD] at h
  | n + 1, _, _, _, .dK f g r, ru, h => by
    obtain rfl := ru
    obtain ⟨_, ns, vs, kv, o, es, ep, h1, h2, h3, h4, h5, h6⟩ := (show ObjOk X.prog X.w H s.heap _ (.dK _) from I.hok _ _ g)
    obtain ⟨as, bs, q1, q2, a1, a2⟩ := vrk_reads sm I (n := n) r kv h5 (by simpa only [rpD] using h)
    simp only [toD]
    exact ⟨_, Reads.dict h1 h2.1 h3 q1 q2, away_app (away_cons (beq_eq_false_iff_ne.mp ns) a1) a2⟩
  | 0, _, _, _, .dT _ _ _, _, h => by simp [rpD] at h
  | n + 1, _, _, _, .dT f g r, ru, h => by
    obtain rfl := ru
    obtain ⟨_, ns, xs, pr, o, es, ep, h1, h2, h3, h4, h5⟩ := (show ObjOk X.prog X.w H s.heap _ (.dT _) from I.hok _ _ g)
    obtain ⟨as, bs, q1, q2, a1, a2⟩ := vrt_reads sm I (n := n) r pr (by simpa only [rpD] using h)
    simp only [toD]
    rw [← h4] at q1 q2
    exact ⟨_, Reads.dict h1 h2.1 h3 q1 q2, away_app (away_cons (beq_eq_false_iff_ne.mp ns) a1) a2⟩
  | _, _, _, _, .ins _ _ _, _, h => by simp [rpD] at h
  | _, _, _, _, .ref _, _, h => by simp [rpD] at h
  | _, _, _, _, .pen, _, h => by simp [rpD] at h
  | _, _, _, _, .rep _, _, h => by simp [rpD] at h
  | _, _, _, _, .exc _ _, _, h => by simp [rpD] at h
theorem vrs_reads (sm : SmR X.K) (I : Inv X pins sg H s) : ∀ {n : Nat} {ws : List W} {vs : List V} {us : List Value}, VRs A e nx H ws vs → Vals vs us → rpDs n ws = true → ∃ as, ReadsAll s.heap us (toDs ws) as ∧ Away as
  | _, _, _, _, .nil, r, _ => by
    cases r
    simp only [toDs]
    exact ⟨_, .nil, List.not_mem_nil⟩
  | n, _, _, _, .cons a r, ru, h => by
    cases ru with
    | cons r1 r2 =>
      have h' := Bool.and_eq_true_iff.mp (show (rpD n _ && rpDs n _) = true by simpa only [rpDs] using h)
      obtain ⟨as, q1, a1⟩ := vr_reads sm I a r1 h'.1
      obtain ⟨bs, q2, a2⟩ := vrs_reads sm I r r2 h'.2
      simp only [toDs]
      exact ⟨_, .cons q1 q2, away_app a1 a2⟩
theorem vrk_reads (sm : SmR X.K) (I : Inv X pins sg H s) : ∀ {n : Nat} {kvs : List (W × W)} {ks : List (Key × V)} {vs : List (Key × Value)} {es : List DictEntry}, VRK A e nx H kvs ks → KV ks vs → Pairs (mixKind X.prog X.w) es vs → rpDk n kvs = true →
    ∃ as bs, ReadsAll s.heap (es.map (·.key)) ((toKv kvs).map (·.1)) as ∧ ReadsAll s.heap (es.map (·.val)) ((toKv kvs).map (·.2)) bs ∧ Away as ∧ Away bs
  | _, _, _, _, _, .nil, r, p, _ => by
    cases r
    cases p
    simp only [toKv]
    exact ⟨[], [], .nil, .nil, List.not_mem_nil, List.not_mem_nil⟩
  | n, _, _, _, _, .cons k a r, kv, p, h => by
    cases kv with
    | cons r1 r2 =>
      cases p with
      | cons p1 p2 p3 =>
        have h' := rpDk_cons h
        obtain ⟨e1, e2⟩ := r1
        obtain ⟨cs, q0, a0⟩ := vr_reads sm I a e2 h'.2.1
        rw [← p2] at q0
        obtain ⟨as, bs, q1, q2, a1, a2⟩ := vrk_reads sm I r r2 p3 h'.2.2
        have p1' := p1
        rw [← e1] at p1'
        have kr := key_reads (h := s.heap) k p1'
        simp only [toKv, List.map_cons]
        exact ⟨_, _, ReadsAll.cons (as := []) kr q1, ReadsAll.cons q0 q2, a1, away_app a0 a2⟩
theorem vrt_reads (sm : SmR X.K) (I : Inv X pins sg H s) : ∀ {n : Nat} {kvs : List (W × W)} {ks : List (List Key × V)} {xs : List (List Key × Addr × Value)}, VRT A e nx H kvs ks →
    Paired (fun (p : List Key × V) (q : List Key × Addr × Value) => p.1 = q.1 ∧ H q.2.1 = some (.tup (p.1.map kV)) ∧ RelV p.2 q.2.2) ks xs → rpDk n kvs = true →
    ∃ as bs, ReadsAll s.heap ((xs.map (entryOfKey (tupleKind (mixKind X.prog X.w)))).map (·.key)) ((toKv kvs).map (·.1)) as ∧ ReadsAll s.heap ((xs.map (entryOfKey (tupleKind (mixKind X.prog X.w)))).map (·.val)) ((toKv kvs).map (·.2)) bs ∧ Away as ∧ Away bs
  | _, _, _, _, .nil, r, _ => by
    cases r
    simp only [toKv]
    exact ⟨[], [], .nil, .nil, List.not_mem_nil, List.not_mem_nil⟩
  | n, _, _, _, .cons k a r, kv, h => by
    cases kv with
    | cons r1 r2 =>
      have h' := rpDk_cons h
      obtain ⟨e1, e2, e3⟩ := r1
      obtain ⟨cs, q0, a0⟩ := vr_reads sm I a e3 h'.2.1
      obtain ⟨as, bs, q1, q2, a1, a2⟩ := vrt_reads sm I r r2 h'.2.2
      obtain ⟨_, its, rv, o, g1, g2, m, g3⟩ := (show ObjOk X.prog X.w H s.heap _ (.tup _) from I.hok _ _ e2)
      simp only [toKv, List.map_cons, toD, entryOfKey]
      exact ⟨_, _, ReadsAll.cons (as := []) (Reads.tuple g1 g2 g3 (by simpa using keys_reads k rv)) q1, ReadsAll.cons q0 q2, a1, away_app a0 a2⟩
end
end

theorem exAll {e : Emb} {nx : Nat} {H : Hp} : ExV A e nx H ⟨e.rho, fun _ => True, e.hd⟩ nx H := ⟨Nat.le_refl nx, fun _ _ => rfl, fun _ _ => trivial, fun _ _ => rfl, fun _ _ h => h⟩
theorem vv_reads {pins : List (Addr × Obj)} {sg : L2.St} {H : Hp} {s : Shared} {e : Emb} {nx : Nat} (sm : SmR X.K) (I : Inv X pins sg H s) {n : Nat} {w : W} {v : V} {u : Value} (h : VV A e nx H w v) (ru : RelV v u) (k : rpD (n + 1) w = true) : ∃ as, Reads s.heap u (toD w) as ∧ Away as := by
  cases w with
  | non => obtain rfl := h; exact vr_reads (A := A) (e := e) (nx := nx) sm I .non ru k
  | bl b => obtain rfl := h; exact vr_reads (A := A) (e := e) (nx := nx) sm I (.bl b) ru k
  | int i => obtain rfl := h; exact vr_reads (A := A) (e := e) (nx := nx) sm I (.int i) ru k
  | str m => obtain rfl := h; exact vr_reads (A := A) (e := e) (nx := nx) sm I (.str m) ru k
  | tup ws =>
    obtain ⟨a, xs, rfl, g, z, r⟩ := h
    exact vr_reads sm I (.tup g z r) ru k
  | lst ws =>
    obtain ⟨a, xs, rfl, g, z, r⟩ := h
    exact vr_reads (A := A) (nx := nx) (e := ⟨e.rho, fun _ => True, e.hd⟩) sm I (.lst trivial g z (r.extV (exAll (A := A) (e := e) (nx := nx) (H := H)))) ru k
  | dic t kvs =>
    obtain ⟨a, rfl, ⟨rfl, ks, g, r⟩ | ⟨rfl, ks, g, r⟩⟩ := h
    · exact vr_reads (A := A) (nx := nx) (e := ⟨e.rho, fun _ => True, e.hd⟩) sm I (.dK trivial g (r.extV (exAll (A := A) (e := e) (nx := nx) (H := H)))) ru k
    · exact vr_reads (A := A) (nx := nx) (e := ⟨e.rho, fun _ => True, e.hd⟩) sm I (.dT trivial g (r.extV (exAll (A := A) (e := e) (nx := nx) (H := H)))) ru k
  | _ => simp [rpD] at k
def rRepr (A : Am) : List V → Hp → VK → Prop := fun xs H Q => ∃ e nx w v, xs = [v] ∧ VV A e nx H w v ∧ okRp w = true ∧ Q (.str (shW w)) H
theorem call_repr (hg : X.A.guards = some []) (hr : Room k X.A) (sm : SmR X.K) : CallR X (.builtin "repr") (rRepr (am X B)) := by
  intro pins s sg H xs us Q I r h
  obtain ⟨e, nx, w, v, rfl, hv, ok, q⟩ := h
  obtain ⟨u, rfl, ru⟩ := vals1 r
  obtain ⟨k1, k2⟩ := Bool.and_eq_true_iff.mp ok
  obtain ⟨as, rd, aw⟩ := vv_reads (n := 59) sm I hv ru k1
  obtain ⟨s1, s2, s3⟩ := sh_toD k1
  have hlen := okRp_len ok
  have un := hr.un
  have done : ∀ (h' : Heap) (t : Tok) (tk : Tok), (∀ b o, s.heap.get? b = some o → h'.get? b = some o) → EP X pins sg Q (.str (shW w) t) { s with heap := h', toks := tk } := fun h' t tk hk => ⟨.str _, H, I.kept (t' := tk) hk, ⟨t, rfl⟩, q⟩
  have same : ∀ (b : Addr) (o : Obj), s.heap.get? b = some o → s.heap.get? b = some o := fun _ _ z => z
  cases w with
  | non =>
    obtain rfl := hv
    obtain rfl := ru
    exact PySem.P.repr_of_none (done _ _ _ same)
  | bl b =>
    obtain rfl := hv
    obtain rfl := ru
    exact PySem.P.repr_of_bool (done _ _ _ same)
  | int i =>
    obtain rfl := hv
    obtain ⟨t, rfl⟩ := ru
    exact PySem.P.repr_of_int (log_small (of_decide_eq_true (by simpa only [rpD] using k1))) (done _ _ _ same)
  | str m =>
    obtain rfl := hv
    obtain ⟨t, rfl⟩ := ru
    exact PySem.P.repr_of_str (done _ _ _ same) hlen
  | tup ws =>
    obtain ⟨a, xs, rfl, g, z, r⟩ := hv
    obtain rfl := ru
    exact repr_of_reads' rd s1 (fun _ => aw) hg (by omega) (fun _ _ z => z) done hlen
  | lst ws =>
    obtain ⟨a, xs, rfl, g, z, r⟩ := hv
    obtain rfl := ru
    exact repr_of_reads' rd s1 (fun _ => aw) hg (by omega) (fun _ _ z => z) done hlen
  | dic t kvs =>
    obtain ⟨a, rfl, _⟩ := hv
    obtain rfl := ru
    exact repr_of_reads' rd s1 (fun _ => aw) hg (by omega) (fun _ _ z => z) done hlen
  | _ => simp [rpD] at k1
def oRepr : List W → M W := fun ws S => match ws with
  | [w] => if okRp (vw S w) then .ok (.rep (vw S w), S) else .stuck
  | _ => .stuck
theorem cs_repr : CS A oRepr (rRepr A) := by
  intro e S H ws vs Q E rp rv h
  match ws, h with
  | [w], h =>
    obtain ⟨v, rfl, r1⟩ := rv.one
    simp only [oRepr] at h
    split at h
    · next k => exact ⟨e, S.nx, vw S w, v, rfl, rp.vw r1, k, Post.now h rp (.rep _)⟩
    · exact (show False from h).elim
theorem se_repr {e : Expr} {ds : List Den} {p pos : Pos} (d : Bd P w K mg base N sc k X Wx) (sm : SmR K) (hg : Gl X "repr") (hm : X.mg "repr" = none) (ha : SA X B Wx [e] ds) (he : starEach [e] X.env = (false, eval e X.env) :: starEach [] X.env := by rfl) : SE X B Wx (.Call (.Name "repr" p) [e] [] pos) (cCB oRepr ds) :=
  se_cb (call_repr (B := B) d.gd d.room (by rw [d.K]; exact sm)) cs_repr hg hm PyProof.Rows.boot_repr ha (by decide) (by decide) he
end HQ
namespace HQ
open PySem PySem.Spec PyProof.Rows L2
variable {X : L2.Cx} {B : Bm} {Wx : WX} {A : Am} {P : Program} {w : World} {K : PySem.W.Frag} {mg : Str → Option Value} {base : Heap} {N : List Str} {sc scope : Scope} {k : Nat}

def dPut (t : Nat) (kvs : List (W × W)) (k v : W) : List (W × W) := if kvs.any (fun kv => kEq t kv.1 k) then kvs.map (fun kv => if kEq t kv.1 k then (kv.1, v) else kv) else kvs ++ [(k, v)]
def dMrg (kvs more : List (W × W)) : List (W × W) := more.foldl (fun acc kv => dPut 0 acc kv.1 kv.2) kvs
section
variable {e : Emb} {nx : Nat} {H : Hp}
theorem VRK.len : ∀ {kvs : List (W × W)} {ks : List (Key × V)}, VRK A e nx H kvs ks → kvs.length = ks.length
  | _, _, .nil => rfl
  | _, _, .cons _ _ r => by simp [VRK.len r]
theorem VRT.len : ∀ {kvs : List (W × W)} {ks : List (List Key × V)}, VRT A e nx H kvs ks → kvs.length = ks.length
  | _, _, .nil => rfl
  | _, _, .cons _ _ r => by simp [VRT.len r]
theorem VRK.snoc {k : W} {q : Key} {w : W} {v : V} (hk : KeyR k q) (hw : VR A e nx H w v) : ∀ {kvs : List (W × W)} {ks : List (Key × V)}, VRK A e nx H kvs ks → VRK A e nx H (kvs ++ [(k, w)]) (ks ++ [(q, v)])
  | _, _, .nil => .cons hk hw .nil
  | _, _, .cons a b r => .cons a b (VRK.snoc hk hw r)
theorem VRT.snoc {k : List W} {q : List Key} {w : W} {v : V} (hk : KeysR k q) (hw : VR A e nx H w v) : ∀ {kvs : List (W × W)} {ks : List (List Key × V)}, VRT A e nx H kvs ks → VRT A e nx H (kvs ++ [(.tup k, w)]) (ks ++ [(q, v)])
  | _, _, .nil => .cons hk hw .nil
  | _, _, .cons a b r => .cons a b (VRT.snoc hk hw r)
theorem VRK.any {k : W} {q : Key} (hk : KeyR k q) : ∀ {kvs : List (W × W)} {ks : List (Key × V)}, VRK A e nx H kvs ks → (kvs.any fun kv => kEq 0 kv.1 k) = ks.any fun kv => decide (kv.1 = q)
  | _, _, .nil => rfl
  | _, _, .cons a b r => by
    simp only [List.any_cons, VRK.any hk r]
    rw [keyR_eq a hk]; rfl
theorem VRT.any {k : List W} {q : List Key} (hk : KeysR k q) : ∀ {kvs : List (W × W)} {ks : List (List Key × V)}, VRT A e nx H kvs ks → (kvs.any fun kv => kEq 1 kv.1 (.tup k)) = ks.any fun kv => decide (kv.1 = q)
  | _, _, .nil => rfl
  | _, _, .cons a b r => by
    simp only [List.any_cons, VRT.any hk r]
    rw [keysR_eq a hk]; rfl
theorem VRK.map {k : W} {q : Key} {w : W} {v : V} (hk : KeyR k q) (hw : VR A e nx H w v) : ∀ {kvs : List (W × W)} {ks : List (Key × V)}, VRK A e nx H kvs ks → VRK A e nx H (kvs.map fun kv => if kEq 0 kv.1 k then (kv.1, w) else kv) (ks.map fun kv => if kv.1 = q then (kv.1, v) else kv)
  | _, _, .nil => .nil
  | _, _, .cons (k := k1) (k' := q1) a b r => by
    simp only [List.map_cons]
    have z := keyR_eq a hk
    by_cases c : q1 = q
    · have z1 : kEq 0 k1 k = true := by show keyEq k1 k = true; rw [← z]; exact decide_eq_true c
      rw [if_pos z1, if_pos c]
      exact .cons a hw (VRK.map hk hw r)
    · have z1 : kEq 0 k1 k = false := by show keyEq k1 k = false; rw [← z]; exact decide_eq_false c
      rw [z1, if_neg Bool.false_ne_true, if_neg c]
      exact .cons a b (VRK.map hk hw r)
theorem VRT.map {k : List W} {q : List Key} {w : W} {v : V} (hk : KeysR k q) (hw : VR A e nx H w v) : ∀ {kvs : List (W × W)} {ks : List (List Key × V)}, VRT A e nx H kvs ks → VRT A e nx H (kvs.map fun kv => if kEq 1 kv.1 (.tup k) then (kv.1, w) else kv) (ks.map fun kv => if kv.1 = q then (kv.1, v) else kv)
  | _, _, .nil => .nil
  | _, _, .cons (k := k1) (k' := q1) a b r => by
    simp only [List.map_cons]
    have z := keysR_eq a hk
    by_cases c : q1 = q
    · have z1 : kEq 1 (.tup k1) (.tup k) = true := by show keysEq k1 k = true; rw [← z]; exact decide_eq_true c
      rw [if_pos z1, if_pos c]
      exact .cons a hw (VRT.map hk hw r)
    · have z1 : kEq 1 (.tup k1) (.tup k) = false := by show keysEq k1 k = false; rw [← z]; exact decide_eq_false c
      rw [z1, if_neg Bool.false_ne_true, if_neg c]
      exact .cons a b (VRT.map hk hw r)
theorem VRK.put {k : W} {q : Key} {w : W} {v : V} (hk : KeyR k q) (hw : VR A e nx H w v) {kvs : List (W × W)} {ks : List (Key × V)} (r : VRK A e nx H kvs ks) : VRK A e nx H (dPut 0 kvs k w) (putK ks q v) := by
  unfold dPut putK
  rw [VRK.any hk r]
  split
  · exact VRK.map hk hw r
  · exact VRK.snoc hk hw r
theorem VRT.put {k : List W} {q : List Key} {w : W} {v : V} (hk : KeysR k q) (hw : VR A e nx H w v) {kvs : List (W × W)} {ks : List (List Key × V)} (r : VRT A e nx H kvs ks) : VRT A e nx H (dPut 1 kvs (.tup k) w) (putK ks q v) := by
  unfold dPut putK
  rw [VRT.any hk r]
  split
  · exact VRT.map hk hw r
  · exact VRT.snoc hk hw r
theorem VRK.merge : ∀ {more : List (W × W)} {ms : List (Key × V)} {kvs : List (W × W)} {ks : List (Key × V)}, VRK A e nx H more ms → VRK A e nx H kvs ks → VRK A e nx H (dMrg kvs more) (mergeK ks ms)
  | _, _, _, _, .nil, r => r
  | _, _, kvs, ks, .cons a b s, r => by
    have z := VRK.merge s (VRK.put a b r)
    exact z
end

structure KC (X : L2.Cx) (e : Expr) (w : W) : Prop where
  ex : ∃ v, PE X e (tC v) ∧ ∀ (A : Am) (m : Emb) (nx : Nat) (H : Hp), VR A m nx H w v
theorem kc_int {i : Int} {j : Nat} {pos : Pos} : KC X (.Constant (.int i) j pos) (.int i) := ⟨_, pe_int, fun _ _ _ _ => .int i⟩
theorem kc_bl {b : Bool} {j : Nat} {pos : Pos} : KC X (.Constant (.bool b) j pos) (.bl b) := ⟨_, pe_bl, fun _ _ _ _ => .bl b⟩
theorem kc_non {j : Nat} {pos : Pos} : KC X (.Constant .none j pos) .non := ⟨_, pe_non, fun _ _ _ _ => .non⟩
theorem kc_str {x : Str} {j : Nat} {pos : Pos} (n : Nat) (h : dec n = x := by decide +kernel) : KC X (.Constant (.str x) j pos) (.str n) := by
  subst h
  exact ⟨_, pe_str, fun _ _ _ _ => .str n⟩
def KCs (X : L2.Cx) : List (Option Expr) → List Expr → List (W × W) → Prop
  | [], [], [] => True
  | some k :: ks, v :: vs, (a, b) :: r => KC X k a ∧ (isKey a = true ∧ (KC X v b ∧ KCs X ks vs r))
  | _, _, _ => False
theorem kcs_nil : KCs X [] [] [] := trivial
theorem kcs_cons {a b : Expr} {ks : List (Option Expr)} {vs : List Expr} {x y : W} {r : List (W × W)} (h1 : KC X a x) (h2 : KC X b y) (h : KCs X ks vs r) (hk : isKey x = true := by rfl) : KCs X (some a :: ks) (b :: vs) ((x, y) :: r) := ⟨h1, hk, h2, h⟩
theorem kcs_pps {pos : Pos} : ∀ {ks : List (Option Expr)} {vs : List Expr} {kvs : List (W × W)}, KCs X ks vs kvs →
    ∃ qs : List (Key × V), PPs X pos ks vs (qs.map fun p => (tC (kV p.1), tC p.2)) ∧ (∀ (A : Am) (m : Emb) (nx : Nat) (H : Hp), VRK A m nx H kvs qs) ∧ qs.length = kvs.length ∧ ks.all (·.isSome) = true ∧ ks.length = vs.length ∧ ks.length = kvs.length
  | [], [], [], _ => ⟨[], pps_nil, fun _ _ _ _ => .nil, rfl, rfl, rfl, rfl⟩
  | some k :: ks, v :: vs, (a, b) :: r, h => by
    obtain ⟨⟨x, p1, r1⟩, hk, ⟨y, p2, r2⟩, h4⟩ := h
    obtain ⟨qs, q1, q2, q3, q4, q5, q6⟩ := kcs_pps (pos := pos) h4
    obtain ⟨q, kr, ev⟩ := keyR_of (r1 ⟨X.K, fun _ => 0, 0, 0⟩ ⟨fun _ => 0, fun _ => True, fun _ => True⟩ 0 (fun _ => none)) hk
    subst ev
    exact ⟨(q, y) :: qs, pps_cons p1 p2 q1, fun A m nx H => .cons kr (r2 A m nx H) (q2 A m nx H), by simp [q3], by simpa using q4, by simp [q5], by simp [q6]⟩
theorem pairs_const {sg : L2.St} : ∀ {qs : List (Key × V)} {H : Hp} {Q : List (V × V) → Hp → Prop}, Q (qs.map fun p => (kV p.1, p.2)) H → tPairs (qs.map fun p => (tC (kV p.1), tC p.2)) sg H Q
  | [], _, _, h => h
  | _ :: qs, H, Q, h => pairs_const (qs := qs) (H := H) (Q := fun ps H3 => Q (_ :: ps) H3) h
def cDic (kvs : List (W × W)) : Den := fun _ S => .ok (.dic 0 (dMrg [] kvs), S)
def cDicM (kvs : List (W × W)) : Den := fun _ S => .ok (.ref S.nx, S.new (.dic 0 (dMrg [] kvs)))
theorem newDf {e : Emb} {S : Hs} {H : Hp} {kvs : List (W × W)} {ks : List (Key × V)} {Q : VK} (rp : Rep A e S H) (r : VRK A e S.nx H kvs ks) (p : Post A e S.nx H (.dic 0 kvs) S Q) : ∀ a, H a = none → Q (.ref a) (upd H a (.dK ks)) := fun a n =>
  have x := Ext.new (o := .dK ks) rp n (fun b => e.fz b ∨ b = a) fun _ h => .inl h
  p _ _ _ x (Rep.new rp n _ (fun _ h => .inl h) fun _ h => h) (.dK (.inr rfl) upd_same (r.ext x))
theorem newDm {e : Emb} {S : Hs} {H : Hp} {kvs : List (W × W)} {ks : List (Key × V)} {Q : VK} (rp : Rep A e S H) (r : VRK A e S.nx H kvs ks) (p : Post A e S.nx H (.ref S.nx) (S.new (.dic 0 kvs)) Q) : ∀ a, H a = none → Q (.ref a) (upd H a (.dK ks)) := fun a n => by
  have x : Ext A e S.nx H (e.add S.nx a) (S.nx + 1) (upd H a (.dK ks)) := Ext.fresh rp n
  have er : (e.add S.nx a).rho S.nx = a := if_pos rfl
  have this := VR.ref (A := A) (e := e.add S.nx a) (H := upd H a (.dK ks)) (Nat.lt_succ_self S.nx)
  rw [er] at this
  exact p _ _ _ x (Rep.mk' rp n (.dK (r.ext x))) this
section
variable {pos : Pos} {ks : List (Option Expr)} {vs : List Expr} {kvs : List (W × W)}
theorem se_dic0 : SE X B Wx (.Dict [] [] pos) (cDic []) := weakE pe_dnewK fun sg H Q ⟨e, S, sl, rp, rs, h⟩ => newDf rp .nil h
theorem se_dic0M : SE X B Wx (.Dict [] [] pos) (cDicM []) := weakE pe_dnewK fun sg H Q ⟨e, S, sl, rp, rs, h⟩ => newDm rp .nil h
theorem se_dic (h : KCs X ks vs kvs) (h0 : ks ≠ [] := by simp) (h15 : kvs.length ≤ 15 := by decide) : SE X B Wx (.Dict ks vs pos) (cDic kvs) := by
  obtain ⟨qs, q1, q2, q3, q4, q5, q6⟩ := kcs_pps (pos := pos) h
  refine weakE (pe_disp q1 q4 q5 h0 (by omega)) fun sg H Q ⟨e, S, sl, rp, rs, hp⟩ a n => pairs_const ⟨upd_same, qs, rfl, by omega, ?_⟩
  rw [upd_upd]
  exact newDf rp (VRK.merge (q2 _ _ _ _) .nil) hp a n
theorem se_dicM (h : KCs X ks vs kvs) (h0 : ks ≠ [] := by simp) (h15 : kvs.length ≤ 15 := by decide) : SE X B Wx (.Dict ks vs pos) (cDicM kvs) := by
  obtain ⟨qs, q1, q2, q3, q4, q5, q6⟩ := kcs_pps (pos := pos) h
  refine weakE (pe_disp q1 q4 q5 h0 (by omega)) fun sg H Q ⟨e, S, sl, rp, rs, hp⟩ a n => pairs_const ⟨upd_same, qs, rfl, by omega, ?_⟩
  rw [upd_upd]
  exact newDm rp (VRK.merge (q2 _ _ _ _) .nil) hp a n
end

def isDicW (S : Hs) (w : W) : Bool := match vw S w with
  | .dic _ _ => true
  | _ => false
theorem isDic_of {e : Emb} {S : Hs} {H : Hp} {w : W} {v : V} (rp : Rep A e S H) (r : VR A e S.nx H w v) (h : isDicW S w = true) : ∃ a, v = .ref a ∧ IsD H a ∧ tyV A.K "dict" v H := by
  have vx := rp.vw r
  unfold isDicW at h
  split at h
  · next t kvs q =>
    rw [q] at vx
    obtain ⟨a, rfl, ⟨rfl, ks, g, _⟩ | ⟨rfl, ks, g, _⟩⟩ := vx
    · exact ⟨a, rfl, .inl ⟨ks, .inl g⟩, .inr (.inr (.inl ⟨rfl, .inl ⟨ks, g⟩⟩))⟩
    · exact ⟨a, rfl, .inr ⟨ks, .inl g⟩, .inr (.inr (.inl ⟨rfl, .inr ⟨ks, g⟩⟩))⟩
  · cases h
def gGet (S : Hs) (w k : W) (d : W) : Option W := match vw S w with
  | .dic t kvs => if fitsK t k then some ((dFind t kvs k).getD d) else none
  | _ => none
def cDGet1 (d f : Den) : Den := fun sl S => (d sl S).bind fun r => if isDicW r.2 r.1 then (f sl r.2).bind fun q => (match gGet q.2 r.1 q.1 .non with
  | some z => .ok (z, q.2)
  | none => .stuck) else .stuck
theorem gGet_ok {e : Emb} {S : Hs} {H : Hp} {w k dv z : W} {v y u : V} (rp : Rep A e S H) (rw' : VR A e S.nx H w v) (rk : VR A e S.nx H k y) (rd : VR A e S.nx H dv u) (h : gGet S w k dv = some z) : ∃ a o, v = .ref a ∧ DGet H a y o ∧ VR A e S.nx H z (o.getD u) := by
  have vx := rp.vw rw'
  unfold gGet at h
  split at h
  · next t kvs q =>
    rw [q] at vx
    split at h
    · next f =>
      cases h
      obtain ⟨a, o, e1, g, ⟨z1, z2⟩ | ⟨w1, u1, z1, z2, z3⟩⟩ := dc_get vx rk f
      · exact ⟨a, o, e1, g, by rw [z1, z2]; exact rd⟩
      · exact ⟨a, o, e1, g, by rw [z1, z2]; exact z3⟩
    · cases h
  · cases h
theorem se_get1 {o a : Expr} {d f : Den} {pos apos : Pos} (hr : Room k X.A) (ho : SE X B Wx o d) (ha : SE X B Wx a f) (m : M1 X o "get" apos a pos := by exact ⟨rfl, rfl, rfl, rfl⟩) : SE X B Wx (.Call (.Attribute o "get" apos) [a] [] pos) (cDGet1 d f) :=
  weakE (pe_dget1 (hu_of hr) ho ha m) fun sg H Q ⟨e, S, sl, rp, rs, h⟩ =>
    part (k := fun w S1 => if isDicW S1 w then (f sl S1).bind fun q => (match gGet q.2 w q.1 .non with
      | some z => .ok (z, q.2)
      | none => .stuck) else .stuck) Ext.refl rp rs h fun e1 S1 H1 w v x1 _ rp1 rs1 rv1 h1 => by
      cases q : isDicW S1 w with
      | false => rw [q, if_neg Bool.false_ne_true] at h1; exact (show False from h1).elim
      | true =>
        rw [q, if_pos rfl] at h1
        obtain ⟨a1, e2, id, _⟩ := isDic_of rp1 rv1 q
        refine ⟨a1, e2, id, part (k := fun u S2 => match gGet S2 w u .non with
          | some z => .ok (z, S2)
          | none => .stuck) x1 rp1 rs1 h1 fun e3 S3 H3 u y x3 y3 rp3 rs3 rv3 h3 => ?_⟩
        cases z : gGet S3 w u .non with
        | none => simp only [z] at h3; exact (show False from h3).elim
        | some c =>
          simp only [z] at h3
          obtain ⟨a2, o2, e4, g, rz⟩ := gGet_ok rp3 (rv1.ext y3) rv3 .non z
          rw [e2] at e4
          cases e4
          exact ⟨o2, g, Post.now (Post.ext h3 x3) rp3 rz⟩

def rUpd : V → List V → Hp → VK → Prop := fun x vs H Q => ∃ a b ks ms, x = .ref a ∧ vs = [.ref b] ∧ a ≠ b ∧ H a = some (.dK ks) ∧ H b = some (.dK ms) ∧ ks.length + ms.length ≤ sizeLine ∧ Q .non (upd H a (.dK (mergeK ks ms)))
theorem mt_update : MtM X "dict.update" rUpd := by
  intro pins s sg H x vs v us Q I rx rv h
  obtain ⟨a, b, ks, ms, rfl, rfl, ne, ha, hb, hz, q⟩ := h
  obtain rfl : v = Value.ref a := rx
  obtain ⟨u, rfl, ru⟩ := vals1 rv
  obtain rfl : u = Value.ref b := ru
  obtain ⟨z1, s1, vs1, r1, d1⟩ := dk_of I.hok ha
  obtain ⟨z2, s2, vs2, r2, d2⟩ := dk_of I.hok hb
  refine call_meetsIn PySem.F.slot_dict_update d1.typeIs PySem.F.entry_dict_update (PySem.F.args_dict_update_2 _ _) (meets_dict_update (mixKind X.prog X.w) a b ne s2) ⟨vs1, vs2, d1, d2, by rw [← r1.length, ← r2.length]; exact hz, fun h' dd _ hs => ?_⟩
  have hl : (mergeK ks ms).length ≤ sizeLine := Nat.le_trans (length_mergeK ms ks) hz
  have he : ∃ q, h'.get? a = some q := let ⟨q, _, _, hq, _⟩ := dd; ⟨q, hq⟩
  exact ⟨.non, _, d_write (t' := s.toks) I (by rw [ha]; exact True.intro) hs he (dk_new hl s1 (r2.merge r1) dd), rfl, q⟩
def oUpd : W → List W → M W := fun w us S => match w, us with
  | .ref i, [.dic 0 more] => (match S.ob i with
    | some (.dic 0 kvs) => if kvs.length + more.length ≤ 16777216 then .ok (.non, S.put i (.dic 0 (dMrg kvs more))) else .stuck
    | _ => .stuck)
  | _, _ => .stuck
def MSD (A : Am) (o : W → List W → M W) (r : V → List V → Hp → VK → Prop) : Prop := ∀ (e : Emb) (S : Hs) (H : Hp) (w : W) (x : V) (ws : List W) (vs : List V) (Q : VK) (E : XP), Rep A e S H → VR A e S.nx H w x → VRs A e S.nx H ws vs → wp (o w ws S) (fun r => Post A e S.nx H r.1 r.2 Q) E → r x vs H Q
theorem ms_upd : MSD A oUpd rUpd := by
  intro e S H w x ws vs Q E rp rx rv h
  unfold oUpd at h
  split at h
  · next i more =>
    cases rx with
    | ref hi =>
      obtain ⟨v, rfl, r1⟩ := rv.one
      cases q : S.ob i with
      | none => simp only [q] at h; exact (show False from h).elim
      | some ob =>
        obtain ⟨_, ⟨hn, _⟩, _, _, ho, h5, h6⟩ := rp.ob i ob q
        cases h6 with
        | @dK kvs ks r =>
          simp only [q] at h
          cases r1 with
          | @dK _ _ ms f g rm =>
            split at h
            · next hl =>
              have xx : Ext A e S.nx H e S.nx (upd H (e.rho i) (.dK (mergeK ks ms))) := Ext.put rp q
              refine ⟨_, _, ks, ms, rfl, rfl, fun z => hn (by rw [z]; exact f), h5, g, by rw [sizeL, ← r.len, ← rm.len]; exact hl, ?_⟩
              exact h e _ .non xx (rp.put q (.dK (VRK.merge (rm.ext xx) (r.ext xx)))) .non
            · exact (show False from h).elim
        | _ => simp only [q] at h; exact (show False from h).elim
  · exact (show False from h).elim
def cDm (o : W → List W → M W) (d : Den) (ds : List Den) : Den := fun sl S => (d sl S).bind fun r => if isDicW r.2 r.1 then (evs ds sl r.2).bind fun q => o r.1 q.1 q.2 else .stuck
theorem rd_dm {o : W → List W → M W} {r : V → List V → Hp → VK → Prop} {d : Den} {ds : List Den} (ho : MSD A o r) : ∀ sg H Q, rdE A Wx (cDm o d ds) sg H Q → tBM A.K "dict" r (rdE A Wx d) (rdA A Wx ds) sg H Q := fun sg H Q ⟨e, S, sl, rp, rs, h⟩ =>
  part (k := fun w S1 => if isDicW S1 w then (evs ds sl S1).bind fun q => o w q.1 q.2 else .stuck) Ext.refl rp rs h fun e1 S1 H1 w v x1 _ rp1 rs1 rv1 h1 => by
    cases q : isDicW S1 w with
    | false => rw [q, if_neg Bool.false_ne_true] at h1; exact (show False from h1).elim
    | true =>
      rw [q, if_pos rfl] at h1
      obtain ⟨_, _, _, ty⟩ := isDic_of rp1 rv1 q
      exact ⟨ty, partA (k := fun ws S2 => o w ws S2) x1 rp1 rs1 h1 fun e2 S2 H2 ws vs l x2 y2 rp2 rs2 rv2 h2 =>
        ho e2 S2 H2 w v ws vs Q _ rp2 (rv1.ext y2) rv2 (wp_mono h2 (fun _ p => p.ext x2) fun _ _ _ q => q)⟩
theorem se_upd {o a : Expr} {d f : Den} {pos apos : Pos} (ho : SE X B Wx o d) (ha : SE X B Wx a f) (hbase : attributeBase o "update" X.env (eval o X.env) = eval o X.env := by rfl)
    (hfew : ((backTo pos (starEach [a] X.env)).all (fun x => !x.1) && (backToKw pos (keywordEach [] X.env)).all (fun x => x.1.isSome) && decide (([a] : List Expr).length + ([] : List Keyword).length + (if ([] : List Keyword).isEmpty then 0 else 1) < 30)) = true := by rfl)
    (hline : (apos.endLine == pos.line) = true := by rfl) (hs : starEach [a] X.env = (false, eval a X.env) :: starEach [] X.env := by rfl) : SE X B Wx (.Call (.Attribute o "update" apos) [a] [] pos) (cDm oUpd d [f]) :=
  weakE (pe_bm PySem.F.plainAttrs_dict PySem.F.slot_dict_update PySem.F.type_dict_update mt_update ho (sa_cons ha sa_nil hs) hbase hfew hline hs rfl) (rd_dm (A := am X B) ms_upd)
end HQ
namespace HQ
open PySem PySem.Spec PyProof.Rows L2
/-- a number below n, whatever it is; each take uses up one of the heap's takes -/
def F__law_take : Fn := fun ws S => match ws with
  | [.pen, .int n] => if 0 < n ∧ n < 2 ^ 30 ∧ 0 < S.tk then .pick n.toNat fun v => .ok (v, { S with tk := S.tk - 1 }) else .stuck
  | _ => .stuck
end HQ
namespace HQ
open PySem PySem.Spec PyProof.Rows L2
mutual
theorem wsame_rp : ∀ {n : Nat} {w : W}, rpD n w = true → wsame w w = true
  | _, .non, _ => by simp [wsame]
  | _, .bl b, _ => by simp [wsame]
  | _, .int i, _ => by simp [wsame]
  | _, .str n, _ => by simp [wsame]
  | 0, .tup ws, h => by simp [rpD] at h
  | n + 1, .tup ws, h => by
    simp only [wsame]; exact wsame_rps (n := n) (by simpa only [rpD] using h)
  | 0, .lst ws, h => by simp [rpD] at h
  | n + 1, .lst ws, h => by
    simp only [wsame]; exact wsame_rps (n := n) (by simpa only [rpD] using h)
  | 0, .dic _ ws, h => by simp [rpD] at h
  | n + 1, .dic t ws, h => by
    simp only [wsame, beq_self_eq_true, Bool.true_and]; exact wsame_rpk (n := n) (by simpa only [rpD] using h)
  | _, .ins _ _, h => by simp [rpD] at h
  | _, .ref _, h => by simp [rpD] at h
  | _, .pen, h => by simp [rpD] at h
  | _, .rep _, h => by simp [rpD] at h
  | _, .sym _ _, h => by simp [rpD] at h
  | _, .exc _, h => by simp [rpD] at h
theorem wsame_rps : ∀ {n : Nat} {ws : List W}, rpDs n ws = true → wsames ws ws = true
  | _, [], _ => by simp [wsames]
  | n, w :: r, h => by
    have h' := Bool.and_eq_true_iff.mp (show (rpD n w && rpDs n r) = true by simpa only [rpDs] using h)
    simp only [wsames, wsame_rp h'.1, wsame_rps h'.2, Bool.and_self]
theorem wsame_rpk : ∀ {n : Nat} {ws : List (W × W)}, rpDk n ws = true → wsamek ws ws = true
  | _, [], _ => by simp [wsamek]
  | n, (k, w) :: r, h => by
    have h' := Bool.and_eq_true_iff.mp (show (rpD n k && (rpD n w && rpDk n r)) = true by simpa only [rpDk] using h)
    have h2 := Bool.and_eq_true_iff.mp h'.2
    simp only [wsamek, wsame_rp h'.1, wsame_rp h2.1, wsame_rpk h2.2, Bool.and_self]
end
theorem wsame_ok {x : W} (h : okRp x = true) : wsame x x = true := by
  unfold okRp at h
  exact wsame_rp (Bool.and_eq_true_iff.mp h).1
section
variable {α β γ : Type}
@[simp] theorem R.bind_ok {a : α} {f : α → R β} : R.bind (.ok a) f = f a := of_eq_true (eq_self _)
@[simp] theorem R.bind_stuck {f : α → R β} : R.bind .stuck f = .stuck := of_eq_true (eq_self _)
@[simp] theorem R.bind_pick {n : Nat} {k : W → R α} {f : α → R β} : R.bind (.pick n k) f = .pick n fun v => (k v).bind f := by
  unfold R.bind
  simp only [R.bindC_eq]
  rfl
@[simp] theorem R.bind_exn {c : Nat} {sl : Sl} {S : Hs} {f : α → R β} : R.bind (.exn c sl S) f = .exn c sl S := of_eq_true (eq_self _)
theorem R.bind_bind {m : R α} {f : α → R β} {g : β → R γ} : (m.bind f).bind g = m.bind fun a => (f a).bind g := by
  induction m with
  | pick n k ih => simp only [R.bind_pick]; congr; funext v; exact ih v
  | _ => rfl
@[simp] theorem wp_ok {a : α} {Q : α → Prop} {E : XP} : wp (.ok a) Q E ↔ Q a := Iff.rfl
@[simp] theorem wp_stuck {Q : α → Prop} {E : XP} : wp .stuck Q E ↔ False := Iff.rfl
@[simp] theorem wp_exn {Q : α → Prop} {E : XP} {c : Nat} {sl : Sl} {S : Hs} : wp (.exn c sl S) Q E ↔ E c sl S := Iff.rfl
@[simp] theorem wp_pick {n : Nat} {k : W → R α} {Q : α → Prop} {E : XP} : wp (.pick n k) Q E ↔ ∀ v : Nat, v < n → wp (k (.int v)) Q E := Iff.rfl
@[simp] theorem reSl_ok {sl : Sl} {a : α} : R.reSl sl (.ok a) = .ok a := of_eq_true (eq_self _)
@[simp] theorem reSl_stuck {sl : Sl} : R.reSl sl (.stuck : R α) = .stuck := of_eq_true (eq_self _)
@[simp] theorem reSl_exn {sl sl' : Sl} {c : Nat} {S : Hs} : R.reSl sl (.exn c sl' S : R α) = .exn c sl S := of_eq_true (eq_self _)
@[simp] theorem reSl_pick {sl : Sl} {n : Nat} {k : W → R α} : R.reSl sl (.pick n k) = .pick n fun v => (k v).reSl sl := by
  simp only [R.reSl_eq]
  rfl
@[simp] theorem noX_ok {a : α} : R.noX (.ok a) = .ok a := of_eq_true (eq_self _)
@[simp] theorem noX_stuck : R.noX (.stuck : R α) = .stuck := of_eq_true (eq_self _)
@[simp] theorem noX_pick {n : Nat} {k : W → R α} : R.noX (.pick n k) = .pick n fun v => (k v).noX := by
  simp only [R.noX_eq]
  rfl
end
section
variable {sl : Sl} {S : Hs} {f g d : Den} {t : DenB} {w u : W} {i j n : Nat} {ds : List Den} {b c : SDen} {F : Fn}
@[simp] theorem vw_non : vw S .non = .non := of_eq_true (eq_self _)
@[simp] theorem vw_bl {x : Bool} : vw S (.bl x) = .bl x := of_eq_true (eq_self _)
@[simp] theorem vw_int {x : Int} : vw S (.int x) = .int x := of_eq_true (eq_self _)
@[simp] theorem vw_str : vw S (.str n) = .str n := of_eq_true (eq_self _)
@[simp] theorem vw_tup {x : List W} : vw S (.tup x) = .tup x := of_eq_true (eq_self _)
@[simp] theorem vw_lst {x : List W} : vw S (.lst x) = .lst x := of_eq_true (eq_self _)
@[simp] theorem vw_dic {x : List (W × W)} : vw S (.dic n x) = .dic n x := of_eq_true (eq_self _)
@[simp] theorem vw_ins {x : List (Nat × W)} : vw S (.ins n x) = .ins n x := of_eq_true (eq_self _)
@[simp] theorem vw_pen : vw S .pen = .pen := of_eq_true (eq_self _)
@[simp] theorem vw_rep : vw S (.rep w) = .rep w := of_eq_true (eq_self _)
theorem vw_ref_lst {ws : List W} (h : S.ob i = some (.lst ws)) : vw S (.ref i) = .lst ws := by simp only [vw, h]
theorem vw_ref_dic {ws : List (W × W)} {t : Nat} (h : S.ob i = some (.dic t ws)) : vw S (.ref i) = .dic t ws := by simp only [vw, h]
theorem vw_ref_ins {c : Nat} {fs : List (Nat × W)} (h : S.ob i = some (.ins c fs)) : vw S (.ref i) = .ins c fs := by simp only [vw, h]
@[simp] theorem slGet_z {o : Option W} : slGet (o :: sl) 0 = o := by cases o <;> rfl
@[simp] theorem slGet_s {o : Option W} : slGet (o :: sl) (i + 1) = slGet sl i := of_eq_true (eq_self _)
@[simp] theorem cVar_eq : cVar i sl S = match slGet sl i with
  | some w => .ok (w, S)
  | none => .stuck := of_eq_true (eq_self _)
@[simp] theorem cC_eq : cC w sl S = .ok (w, S) := of_eq_true (eq_self _)
@[simp] theorem cBin_eq {op : W → W → M W} : cBin op f g sl S = (f sl S).bind fun r1 => (g sl r1.2).bind fun r2 => op r1.1 r2.1 r2.2 := of_eq_true (eq_self _)
@[simp] theorem opV_eq {p : W → W → Option W} : opV p w u S = match p (vw S w) (vw S u) with
  | some z => .ok (z, S)
  | none => .stuck := of_eq_true (eq_self _)
@[simp] theorem pAdd_int {x y : Int} : pAdd (.int x) (.int y) = some (.int (x + y)) := of_eq_true (eq_self _)
@[simp] theorem pAdd_tup {x y : List W} : pAdd (.tup x) (.tup y) = if x.length + y.length ≤ 16777216 then some (.tup (x ++ y)) else none := of_eq_true (eq_self _)
@[simp] theorem pAdd_lst {x y : List W} : pAdd (.lst x) (.lst y) = if x.length + y.length ≤ 16777216 then some (.lst (x ++ y)) else none := of_eq_true (eq_self _)
@[simp] theorem pInt_int {C : Int → Int → Bool} {g : Int → Int → W} {x y : Int} : pInt C g (.int x) (.int y) = if C x y then some (g x y) else none := of_eq_true (eq_self _)
@[simp] theorem pEq_int {x y : Int} : pEq (.int x) (.int y) = some (.bl (x == y)) := of_eq_true (eq_self _)
@[simp] theorem pEq_str {x y : Nat} : pEq (.str x) (.str y) = some (.bl (x == y)) := of_eq_true (eq_self _)
@[simp] theorem pNe_int {x y : Int} : pNe (.int x) (.int y) = some (.bl (!(x == y))) := of_eq_true (eq_self _)
@[simp] theorem pNe_str {x y : Nat} : pNe (.str x) (.str y) = some (.bl (!(x == y))) := of_eq_true (eq_self _)
@[simp] theorem pCmp_int {c : Int → Int → Bool} {x y : Int} : pCmp c (.int x) (.int y) = some (.bl (c x y)) := of_eq_true (eq_self _)
@[simp] theorem pSub_int {x y : Int} : pSub (.int x) (.int y) = some (.int (x - y)) := of_eq_true (eq_self _)
@[simp] theorem pMod_int {x y : Int} : pMod (.int x) (.int y) = if decide (y ≠ 0) then some (.int (x.fmod y)) else none := of_eq_true (eq_self _)
@[simp] theorem pFdiv_int {x y : Int} : pFdiv (.int x) (.int y) = if decide (y ≠ 0 ∧ y.natAbs < 1073741824) then some (.int (x.fdiv y)) else none := of_eq_true (eq_self _)
@[simp] theorem pMulI_int {x y : Int} : pMulI (.int x) (.int y) = if decide ((-(2 ^ 64) < x ∧ x < 2 ^ 64) ∨ (-(2 ^ 64) < y ∧ y < 2 ^ 64)) then some (.int (x * y)) else none := of_eq_true (eq_self _)
@[simp] theorem pPow_int {x y : Int} : pPow (.int x) (.int y) = if 0 ≤ y ∧ y ≤ 1000000 ∧ x.natAbs < 2 ^ 64 then some (.int (x ^ y.toNat)) else none := of_eq_true (eq_self _)
@[simp] theorem pEq_tup0 {x : List W} : pEq (.tup x) (.tup []) = some (.bl x.isEmpty) := of_eq_true (eq_self _)
@[simp] theorem pEq_lst0 {x : List W} : pEq (.lst x) (.lst []) = some (.bl x.isEmpty) := of_eq_true (eq_self _)
@[simp] theorem pNe_tup0 {x : List W} : pNe (.tup x) (.tup []) = some (.bl !x.isEmpty) := of_eq_true (eq_self _)
@[simp] theorem pNe_lst0 {x : List W} : pNe (.lst x) (.lst []) = some (.bl !x.isEmpty) := of_eq_true (eq_self _)
@[simp] theorem pEq_bl {x y : Bool} : pEq (.bl x) (.bl y) = some (.bl (x == y)) := of_eq_true (eq_self _)
@[simp] theorem pNe_bl {x y : Bool} : pNe (.bl x) (.bl y) = some (.bl !(x == y)) := of_eq_true (eq_self _)
@[simp] theorem pEq_nonN {x : Int} : pEq .non (.int x) = some (.bl false) := of_eq_true (eq_self _)
@[simp] theorem pEq_nNon {x : Int} : pEq (.int x) .non = some (.bl false) := of_eq_true (eq_self _)
@[simp] theorem pEq_non : pEq .non .non = some (.bl true) := of_eq_true (eq_self _)
@[simp] theorem pNe_nonN {x : Int} : pNe .non (.int x) = some (.bl true) := of_eq_true (eq_self _)
@[simp] theorem pNe_nNon {x : Int} : pNe (.int x) .non = some (.bl true) := of_eq_true (eq_self _)
@[simp] theorem pNe_non : pNe .non .non = some (.bl false) := of_eq_true (eq_self _)
theorem pEq_rep {x : W} (h : okRp x = true) : pEq (.rep x) (.rep x) = some (.bl true) := by
  simp only [pEq, pEqO, wsame_ok h, if_true]
theorem pNe_rep {x : W} (h : okRp x = true) : pNe (.rep x) (.rep x) = some (.bl false) := by
  simp only [pNe, pNeO, wsame_ok h, if_true]
@[simp] theorem weq_int {x y : Int} : weq (.int x) (.int y) = (x == y) := by simp only [weq]
@[simp] theorem weq_str {x y : Nat} : weq (.str x) (.str y) = (x == y) := by simp only [weq]
@[simp] theorem weq_bl {x y : Bool} : weq (.bl x) (.bl y) = (x == y) := by simp only [weq]
@[simp] theorem weq_blI {x : Bool} {y : Int} : weq (.bl x) (.int y) = ((if x then 1 else 0) == y) := by simp only [weq]
@[simp] theorem weq_Ibl {x : Bool} {y : Int} : weq (.int y) (.bl x) = (y == (if x then 1 else 0)) := by simp only [weq]
@[simp] theorem weq_non : weq .non .non = true := by simp only [weq]
@[simp] theorem weq_nonI {y : Int} : weq .non (.int y) = false := by simp only [weq]
@[simp] theorem weq_Inon {y : Int} : weq (.int y) .non = false := by simp only [weq]
@[simp] theorem okD_non {m : Nat} : okD m .non = true := by simp only [okD]
@[simp] theorem okD_bl {m : Nat} {x : Bool} : okD m (.bl x) = true := by simp only [okD]
@[simp] theorem okD_int {m : Nat} {x : Int} : okD m (.int x) = true := by simp only [okD]
@[simp] theorem okD_str {m : Nat} {x : Nat} : okD m (.str x) = true := by simp only [okD]
@[simp] theorem okD_tup {m : Nat} {x : List W} : okD (m + 1) (.tup x) = okDs m x := by simp only [okD]
@[simp] theorem okD_lst {m : Nat} {x : List W} : okD (m + 1) (.lst x) = okDs m x := by simp only [okD]
@[simp] theorem okDs_nil {m : Nat} : okDs m [] = true := by simp only [okDs]
@[simp] theorem okDs_cons {m : Nat} {x : W} {r : List W} : okDs m (x :: r) = (okD m x && okDs m r) := by simp only [okDs]
@[simp] theorem isTy_eq {x y : Nat} : isTy x y = (x == y || (x == 1 && y == 0)) := of_eq_true (eq_self _)
@[simp] theorem wIsN_non : wIsN .non = true := of_eq_true (eq_self _)
@[simp] theorem wIsN_int {x : Int} : wIsN (.int x) = false := of_eq_true (eq_self _)
@[simp] theorem wIsN_bl {x : Bool} : wIsN (.bl x) = false := of_eq_true (eq_self _)
@[simp] theorem wIsN_str {x : Nat} : wIsN (.str x) = false := of_eq_true (eq_self _)
@[simp] theorem wIsN_tup {x : List W} : wIsN (.tup x) = false := of_eq_true (eq_self _)
@[simp] theorem wIsN_lst {x : List W} : wIsN (.lst x) = false := of_eq_true (eq_self _)
@[simp] theorem wIsN_dic {x : List (W × W)} : wIsN (.dic n x) = false := of_eq_true (eq_self _)
@[simp] theorem wIsN_ref : wIsN (.ref i) = false := of_eq_true (eq_self _)
@[simp] theorem pIsB_bl {x y : Bool} : pIsB (.bl x) (.bl y) = some (.bl (x == y)) := of_eq_true (eq_self _)
@[simp] theorem pNotB_bl {x y : Bool} : pNotB (.bl x) (.bl y) = some (.bl !(x == y)) := of_eq_true (eq_self _)
@[simp] theorem cIsN_eq : cIsN f sl S = (f sl S).bind fun r => .ok (.bl (wIsN r.1), r.2) := of_eq_true (eq_self _)
@[simp] theorem cNotN_eq : cNotN f sl S = (f sl S).bind fun r => .ok (.bl (!wIsN r.1), r.2) := of_eq_true (eq_self _)
@[simp] theorem cBool_eq : cBool f sl S = (f sl S).bind fun r => match r.1 with
  | .bl b => .ok (b, r.2)
  | _ => .stuck := of_eq_true (eq_self _)
@[simp] theorem wTru_non : wTru .non = some false := of_eq_true (eq_self _)
@[simp] theorem wTru_bl {x : Bool} : wTru (.bl x) = some x := of_eq_true (eq_self _)
@[simp] theorem wTru_int {x : Int} : wTru (.int x) = some (x != 0) := of_eq_true (eq_self _)
@[simp] theorem wTru_tup {x : List W} : wTru (.tup x) = some !x.isEmpty := of_eq_true (eq_self _)
@[simp] theorem wTru_lst {x : List W} : wTru (.lst x) = some !x.isEmpty := of_eq_true (eq_self _)
@[simp] theorem cTru_eq : cTru f sl S = (f sl S).bind fun r => match wTru (vw r.2 r.1) with
  | some b => .ok (b, r.2)
  | none => .stuck := of_eq_true (eq_self _)
@[simp] theorem bAnd_eq {t' : DenB} : bAnd t t' sl S = (t sl S).bind fun r => if r.1 then t' sl r.2 else .ok (false, r.2) := of_eq_true (eq_self _)
@[simp] theorem bOr_eq {t' : DenB} : bOr t t' sl S = (t sl S).bind fun r => if r.1 then .ok (true, r.2) else t' sl r.2 := of_eq_true (eq_self _)
@[simp] theorem bNot_eq : bNot t sl S = (t sl S).bind fun r => .ok (!r.1, r.2) := of_eq_true (eq_self _)
@[simp] theorem cAnd_eq : cAnd f g sl S = (f sl S).bind fun r => match wTru (vw r.2 r.1) with
  | some true => g sl r.2
  | some false => .ok r
  | none => .stuck := of_eq_true (eq_self _)
@[simp] theorem cOr_eq : cOr f g sl S = (f sl S).bind fun r => match wTru (vw r.2 r.1) with
  | some true => .ok r
  | some false => g sl r.2
  | none => .stuck := of_eq_true (eq_self _)
@[simp] theorem cNot_eq : cNot f sl S = (f sl S).bind fun r => match wTru (vw r.2 r.1) with
  | some b => .ok (.bl (!b), r.2)
  | none => .stuck := of_eq_true (eq_self _)
@[simp] theorem cIf_eq : cIf t f g sl S = (t sl S).bind fun r => if r.1 then f sl r.2 else g sl r.2 := of_eq_true (eq_self _)
@[simp] theorem cChain_eq {o o' : W → W → M W} : cChain o o' f g d sl S = (f sl S).bind fun r1 => (g sl r1.2).bind fun r2 => (o r1.1 r2.1 r2.2).bind fun r3 => match r3.1 with
  | .bl true => (d sl r3.2).bind fun r4 => o' r2.1 r4.1 r4.2
  | .bl false => .ok (.bl false, r3.2)
  | _ => .stuck := of_eq_true (eq_self _)
@[simp] theorem evs_nil : evs [] sl S = .ok ([], S) := of_eq_true (eq_self _)
@[simp] theorem evs_cons : evs (f :: ds) sl S = (f sl S).bind fun r => (evs ds sl r.2).bind fun q => .ok (r.1 :: q.1, q.2) := of_eq_true (eq_self _)
@[simp] theorem cTup_eq : cTup ds sl S = (evs ds sl S).bind fun r => .ok (.tup r.1, r.2) := of_eq_true (eq_self _)
@[simp] theorem cLst_eq : cLst ds sl S = (evs ds sl S).bind fun r => .ok (.lst r.1, r.2) := of_eq_true (eq_self _)
@[simp] theorem cLstM_eq : cLstM ds sl S = (evs ds sl S).bind fun r => .ok (.ref r.2.nx, r.2.new (.lst r.1)) := of_eq_true (eq_self _)
@[simp] theorem cFrz_eq : cFrz f sl S = (f sl S).bind fun r => frz r.1 r.2 := of_eq_true (eq_self _)
theorem frz_lst {ws : List W} (h : S.ob i = some (.lst ws)) : frz (.ref i) S = .ok (.lst ws, S.del i) := by simp only [frz, h]
@[simp] theorem pIx_tup {ws : List W} {x : Int} : pIx (.tup ws) (.int x) = wAt ws x := of_eq_true (eq_self _)
@[simp] theorem pIx_lst {ws : List W} {x : Int} : pIx (.lst ws) (.int x) = wAt ws x := of_eq_true (eq_self _)
@[simp] theorem opIx_eq : opIx w u S = match pIx (vw S w) u with
  | some z => .ok (z, S)
  | none => .stuck := of_eq_true (eq_self _)
@[simp] theorem opIn_eq {x : Bool} : opIn x w u S = match pIn x w (vw S u) with
  | some z => .ok (z, S)
  | none => .stuck := of_eq_true (eq_self _)
@[simp] theorem pIn_tup {x : Bool} {ws : List W} : pIn x w (.tup ws) = if okD 0 w && okDs 0 ws then some (.bl (xor x (ws.any fun z => weq z w))) else none := of_eq_true (eq_self _)
@[simp] theorem pIn_lst {x : Bool} {ws : List W} : pIn x w (.lst ws) = if okD 60 w && okDs 59 ws then some (.bl (xor x (ws.any fun z => weq z w))) else none := of_eq_true (eq_self _)
@[simp] theorem evO_none : evO none sl S = .ok (none, S) := of_eq_true (eq_self _)
@[simp] theorem evO_some : evO (some f) sl S = (f sl S).bind fun r => match r.1 with
    | .int i => .ok (some i, r.2)
    | _ => .stuck := of_eq_true (eq_self _)
@[simp] theorem cSlice_eq {lo hi : Option Den} : cSlice f lo hi sl S = (f sl S).bind fun r => (evO lo sl r.2).bind fun l => (evO hi sl l.2).bind fun u => match pSl (vw u.2 r.1) l.1 u.1 with
  | some z => .ok (z, u.2)
  | none => .stuck := of_eq_true (eq_self _)
@[simp] theorem pSl_tup {ws : List W} {lo hi : Option Int} : pSl (.tup ws) lo hi = some (.tup (cutW ws lo hi)) := of_eq_true (eq_self _)
@[simp] theorem pSl_lst {ws : List W} {lo hi : Option Int} : pSl (.lst ws) lo hi = some (.lst (cutW ws lo hi)) := of_eq_true (eq_self _)
@[simp] theorem cFld_eq {cs : List Nat} : cFld cs n f sl S = (f sl S).bind fun r => match vw r.2 r.1 with
  | .ins c fs => if cs.contains c then (match fLook n fs with
    | some w => .ok (w, r.2)
    | none => .stuck) else .stuck
  | _ => .stuck := of_eq_true (eq_self _)
@[simp] theorem fLook_nil : fLook n [] = none := of_eq_true (eq_self _)
@[simp] theorem fLook_cons {m : Nat} {fs : List (Nat × W)} : fLook n ((m, w) :: fs) = if m = n then some w else fLook n fs := of_eq_true (eq_self _)
@[simp] theorem cNeg_eq : cNeg f sl S = (f sl S).bind fun r => match r.1 with
  | .int i => .ok (.int (-i), r.2)
  | _ => .stuck := of_eq_true (eq_self _)
@[simp] theorem cCB_eq {o : List W → M W} : cCB o ds sl S = (evs ds sl S).bind fun r => o r.1 r.2 := of_eq_true (eq_self _)
@[simp] theorem o1_eq {p : W → Option W} : o1 p [w] S = match p (vw S w) with
    | some z => .ok (z, S)
    | none => .stuck := of_eq_true (eq_self _)
@[simp] theorem o2_eq {p : Int → Int → Int} {x y : Int} : o2 p [.int x, .int y] S = .ok (.int (p x y), S) := of_eq_true (eq_self _)
@[simp] theorem pLen_tup {ws : List W} : pLen (.tup ws) = some (.int ws.length) := of_eq_true (eq_self _)
@[simp] theorem pLen_lst {ws : List W} : pLen (.lst ws) = some (.int ws.length) := of_eq_true (eq_self _)
@[simp] theorem pLen_dic {ws : List (W × W)} : pLen (.dic 0 ws) = some (.int ws.length) := of_eq_true (eq_self _)
theorem wBls_map {α : Type} {p : α → Bool} : ∀ (ws : List α), wBls (ws.map fun w => .bl (p w)) = some (ws.map p)
  | [] => rfl
  | w :: r => by simp [wBls, wBls_map r]
@[simp] theorem pAll_map {α : Type} {p : α → Bool} {ws : List α} : pAll (.lst (ws.map fun w => .bl (p w))) = some (.bl (ws.all p)) := by
  simp only [pAll, wBls_map, Option.map_some]
  congr 2
  induction ws with
  | nil => rfl
  | cons a r ih => simp_all
@[simp] theorem pAny_map {α : Type} {p : α → Bool} {ws : List α} : pAny (.lst (ws.map fun w => .bl (p w))) = some (.bl (ws.any p)) := by
  simp only [pAny, wBls_map, Option.map_some]
  congr 2
  induction ws with
  | nil => rfl
  | cons a r ih => simp_all
@[simp] theorem pToInt_int {x : Int} : pToInt (.int x) = some (.int x) := of_eq_true (eq_self _)
@[simp] theorem pToInt_bl {x : Bool} : pToInt (.bl x) = some (.int (if x then 1 else 0)) := of_eq_true (eq_self _)
@[simp] theorem pToTup_tup {ws : List W} : pToTup (.tup ws) = some (.tup ws) := of_eq_true (eq_self _)
@[simp] theorem pToTup_lst {ws : List W} : pToTup (.lst ws) = some (.tup ws) := of_eq_true (eq_self _)
@[simp] theorem pToLst_tup {ws : List W} : pToLst (.tup ws) = some ws := of_eq_true (eq_self _)
@[simp] theorem pToLst_lst {ws : List W} : pToLst (.lst ws) = some ws := of_eq_true (eq_self _)
@[simp] theorem oLst_eq : oLst [w] S = match (pToLst (vw S w)) with
    | some z => .ok (.lst z, S)
    | none => .stuck := by simp only [oLst, o1_eq]; cases pToLst (vw S w) <;> rfl
@[simp] theorem oLstM_eq : oLstM [w] S = match pToLst (vw S w) with
    | some us => .ok (.ref S.nx, S.new (.lst us))
    | none => .stuck := of_eq_true (eq_self _)
@[simp] theorem cIsT_eq {cs : List Nat} : cIsT cs f sl S = (f sl S).bind fun r => match wTy (vw r.2 r.1) with
  | some t => .ok (.bl (cs.any (isTy t)), r.2)
  | none => .stuck := of_eq_true (eq_self _)
@[simp] theorem wTy_non : wTy .non = some 6 := of_eq_true (eq_self _)
@[simp] theorem wTy_bl {x : Bool} : wTy (.bl x) = some 1 := of_eq_true (eq_self _)
@[simp] theorem wTy_int {x : Int} : wTy (.int x) = some 0 := of_eq_true (eq_self _)
@[simp] theorem wTy_str : wTy (.str n) = some 2 := of_eq_true (eq_self _)
@[simp] theorem wTy_tup {x : List W} : wTy (.tup x) = some 3 := of_eq_true (eq_self _)
@[simp] theorem wTy_lst {x : List W} : wTy (.lst x) = some 4 := of_eq_true (eq_self _)
@[simp] theorem wTy_dic {x : List (W × W)} : wTy (.dic n x) = some 5 := of_eq_true (eq_self _)
@[simp] theorem gN_eq : gN i w sl = some (sl.set i (some w)) := of_eq_true (eq_self _)
@[simp] theorem gd_nm : Tg.gd (.nm i) w sl = some (sl.set i (some w)) := by simp only [Tg.gd, gN]
@[simp] theorem gd_tp {ts : List Tg} {ws : List W} : Tg.gd (.tp ts) (.tup ws) sl = Tg.gds ts ws sl := by simp only [Tg.gd]
@[simp] theorem gds_nil : Tg.gds [] [] sl = some sl := by simp only [Tg.gds]
@[simp] theorem gds_cons {x : Tg} {ts : List Tg} {ws : List W} : Tg.gds (x :: ts) (w :: ws) sl = (Tg.gd x w sl).bind fun sl' => Tg.gds ts ws sl' := by simp only [Tg.gds]
@[simp] theorem sPass_eq : sPass sl S = .ok ((.nx, sl), S) := of_eq_true (eq_self _)
@[simp] theorem sSeq_eq : sSeq b c sl S = (b sl S).bind fun r => match r.1.1 with
  | .nx => c r.1.2 r.2
  | _ => .ok r := of_eq_true (eq_self _)
@[simp] theorem sBrk_eq : sBrk sl S = .ok ((.bk, sl), S) := of_eq_true (eq_self _)
@[simp] theorem sCnt_eq : sCnt sl S = .ok ((.ct, sl), S) := of_eq_true (eq_self _)
@[simp] theorem sExpr_eq : sExpr f sl S = (f sl S).bind fun r => .ok ((.nx, sl), r.2) := of_eq_true (eq_self _)
@[simp] theorem sRet_eq : sRet f sl S = (f sl S).bind fun r => .ok ((.ret r.1, sl), r.2) := of_eq_true (eq_self _)
@[simp] theorem sRetN_eq : sRetN sl S = .ok ((.ret .non, sl), S) := of_eq_true (eq_self _)
@[simp] theorem sIf_eq : sIf t b c sl S = (t sl S).bind fun r => if r.1 then b sl r.2 else c sl r.2 := of_eq_true (eq_self _)
@[simp] theorem sAsg_eq {g : GD} : sAsg g f sl S = (f sl S).bind fun r => match g r.1 sl with
  | some sl' => .ok ((.nx, sl'), r.2)
  | none => .stuck := of_eq_true (eq_self _)
@[simp] theorem iSeq_eq : iSeq f sl S = (f sl S).bind fun r => match wSeq r.1 with
  | some ws => .ok (ws, r.2)
  | none => .stuck := of_eq_true (eq_self _)
@[simp] theorem wSeq_lst {ws : List W} : wSeq (.lst ws) = some ws := of_eq_true (eq_self _)
@[simp] theorem wSeq_tup {ws : List W} : wSeq (.tup ws) = some ws := of_eq_true (eq_self _)
@[simp] theorem iRg_eq : iRg ds sl S = (evs ds sl S).bind fun r => match pRg r.1 with
  | some q => .ok (rgW q.1 q.2, r.2)
  | none => .stuck := of_eq_true (eq_self _)
@[simp] theorem pRg_one {x : Int} : pRg [.int x] = if x ≤ 16777216 ∧ -(2 ^ 62) ≤ x then some (0, x.toNat) else none := of_eq_true (eq_self _)
@[simp] theorem iEn_eq : iEn f sl S = (f sl S).bind fun r => match wSeq r.1 with
  | some ws => .ok (enL 0 ws, r.2)
  | none => .stuck := of_eq_true (eq_self _)
@[simp] theorem iZp_eq : iZp ds sl S = (evs ds sl S).bind fun r => match zp2 r.1 with
  | some ws => .ok (ws, r.2)
  | none => .stuck := of_eq_true (eq_self _)
@[simp] theorem zp2_eq : zp2 [w, u] = match wSeq w, wSeq u with
    | some ws, some us => some (zpL ws us)
    | _, _ => none := of_eq_true (eq_self _)
@[simp] theorem sFor_eq {it : DenI} {g : Tg} : sFor it g b sl S = (it sl S).bind fun r => sForL g.gd b r.1 sl r.2 := of_eq_true (eq_self _)
theorem sForL_nil {g : GD} : sForL g b [] sl S = .ok ((.nx, sl), S) := of_eq_true (eq_self _)
theorem sForL_cons {g : GD} {r : List W} : sForL g b (w :: r) sl S = match g w sl with
    | some sl1 => (b sl1 S).bind fun q => (match q.1.1 with
      | .nx => sForL g b r q.1.2 q.2
      | .ct => sForL g b r q.1.2 q.2
      | .bk => .ok ((.nx, q.1.2), q.2)
      | .ret w => .ok ((.ret w, q.1.2), q.2))
    | none => .stuck := of_eq_true (eq_self _)
@[simp] theorem wipeS_nil : wipeS sl [] = sl := of_eq_true (eq_self _)
@[simp] theorem wipeS_cons {v : Nat} {vs : List Nat} : wipeS sl (v :: vs) = (wipeS sl vs).set v none := of_eq_true (eq_self _)
@[simp] theorem cLC_eq {it : DenI} {g : Tg} {own : List Nat} : cLC it g own t f sl S = (it sl S).bind fun r => (lcL g.gd t f (wipeS sl own) r.1 r.2).noX.bind fun q => .ok (.lst q.1, q.2) := of_eq_true (eq_self _)
@[simp] theorem lcL_nil {g : GD} : lcL g t f sl [] S = .ok ([], S) := of_eq_true (eq_self _)
theorem lcL_cons {g : GD} {r : List W} : lcL g t f sl (w :: r) S = match g w sl with
    | some sl1 => (t sl1 S).bind fun b => if b.1 then (f sl1 b.2).bind fun y => (lcL g t f sl r y.2).bind fun ys => .ok (y.1 :: ys.1, ys.2) else lcL g t f sl r b.2
    | none => .stuck := of_eq_true (eq_self _)
@[simp] theorem startS_eq {ws : List W} : startS n ws = ws.map some ++ List.replicate (n - ws.length) none := startS_is n ws
@[simp] theorem runB_eq {ws : List W} : runB n b ws S = (b (startS n ws) S).bind fun r => match r.1.1 with
  | .nx => .ok (.non, r.2)
  | .ret w => .ok (w, r.2)
  | _ => .stuck := of_eq_true (eq_self _)
@[simp] theorem cCall_eq : cCall F ds sl S = (evs ds sl S).bind fun r => (F r.1 r.2).reSl sl := of_eq_true (eq_self _)
@[simp] theorem cMeth_eq {mn : Nat} {ms : List (Nat × Fn)} : cMeth mn ms d ds sl S = (d sl S).bind fun r => match vw r.2 r.1 with
  | .ins c fs => (match mLook ms c, fLook mn fs with
    | some F, none => (evs ds sl r.2).bind fun q => (F (r.1 :: q.1) q.2).reSl sl
    | _, _ => .stuck)
  | _ => .stuck := of_eq_true (eq_self _)
@[simp] theorem mLook_cons {k c : Nat} {r : List (Nat × Fn)} : mLook ((k, F) :: r) c = if k = c then some F else mLook r c := of_eq_true (eq_self _)
@[simp] theorem mLook_nil {c : Nat} : mLook [] c = none := of_eq_true (eq_self _)
@[simp] theorem cMake_eq {c : Nat} : cMake c F ds sl S = (evs ds sl S).bind fun r => ((F (.ref r.2.nx :: r.1) (r.2.new (.ins c []))).reSl sl).bind fun q => match q.1 with
  | .non => .ok (.ref r.2.nx, q.2)
  | _ => .stuck := of_eq_true (eq_self _)
@[simp] theorem sFldP_eq {cs : List Nat} {o : Den} : sFldP cs n f o sl S = (f sl S).bind fun r => (o sl r.2).bind fun q => match q.1 with
  | .ref i => (match q.2.ob i with
    | some (.ins c fs) => if cs.contains c && decide (fs.length < 1000) then .ok ((.nx, sl), q.2.put i (.ins c (fPut n r.1 fs))) else .stuck
    | _ => .stuck)
  | _ => .stuck := of_eq_true (eq_self _)
@[simp] theorem fPut_nil : fPut n w [] = [(n, w)] := of_eq_true (eq_self _)
@[simp] theorem fPut_cons {m : Nat} {r : List (Nat × W)} : fPut n w ((m, u) :: r) = if m = n then (m, w) :: r else (m, u) :: fPut n w r := of_eq_true (eq_self _)
@[simp] theorem cBm_eq {o : W → List W → M W} : cBm o d ds sl S = (d sl S).bind fun r => if isLstW r.2 r.1 then (evs ds sl r.2).bind fun q => o r.1 q.1 q.2 else .stuck := of_eq_true (eq_self _)
@[simp] theorem oAppend_eq : oAppend (.ref i) [u] S = match S.ob i with
    | some (.lst ws) => if ws.length < 16777216 then .ok (.non, S.put i (.lst (ws ++ [u]))) else .stuck
    | _ => .stuck := of_eq_true (eq_self _)
@[simp] theorem cInTab_eq {x : Bool} {kvs : List (Nat × Int)} : cInTab x kvs f sl S = (f sl S).bind fun r => match pInTab x kvs r.1 with
  | some z => .ok (z, r.2)
  | none => .stuck := of_eq_true (eq_self _)
@[simp] theorem pInTab_str {x : Bool} {kvs : List (Nat × Int)} : pInTab x kvs (.str n) = some (.bl (xor x (kvs.lookup n).isSome)) := of_eq_true (eq_self _)
@[simp] theorem cTab_eq {kvs : List (Nat × Int)} : cTab kvs f sl S = (f sl S).bind fun r => match r.1 with
  | .str n => (match kvs.lookup n with
    | some i => .ok (.int i, r.2)
    | none => .stuck)
  | _ => .stuck := of_eq_true (eq_self _)
@[simp] theorem cLstRg_eq : cLstRg ds sl S = (evs ds sl S).bind fun r => match pRg r.1 with
  | some q => .ok (.lst (rgW q.1 q.2), r.2)
  | none => .stuck := of_eq_true (eq_self _)
@[simp] theorem sPar2_eq : sPar2 i j ds sl S = (evs ds sl S).bind fun r => match r.1 with
  | [u, v] => .ok ((.nx, (sl.set i (some u)).set j (some v)), r.2)
  | _ => .stuck := of_eq_true (eq_self _)
@[simp] theorem pMul_int {x y : Int} : pMul (.int x) (.int y) = pMulI (.int x) (.int y) := of_eq_true (eq_self _)
@[simp] theorem pMul_tup {ws : List W} {x : Int} : pMul (.tup ws) (.int x) = if -(2 ^ 63) ≤ x ∧ x < 2 ^ 63 ∧ (ws.length = 0 ∨ x = 1) then some (.tup ws) else if 2 ≤ x ∧ x ≤ 1000 ∧ ws.length ≤ 1000 then some (.tup (rpW ws x.toNat)) else none := of_eq_true (eq_self _)
@[simp] theorem pMul_lst {ws : List W} {x : Int} : pMul (.lst ws) (.int x) = if -(2 ^ 63) ≤ x ∧ x < 2 ^ 63 ∧ ws.length * x.toNat ≤ 16777216 then some (.lst (rpW ws x.toNat)) else none := of_eq_true (eq_self _)
@[simp] theorem cRev_eq : cRev f sl S = (f sl S).bind fun r => match vw r.2 r.1 with
  | .lst ws => .ok (.lst (rvW ws), r.2)
  | .tup ws => .ok (.tup (rvW ws), r.2)
  | _ => .stuck := of_eq_true (eq_self _)
@[simp] theorem oRepr_eq : oRepr [w] S = if okRp (vw S w) then .ok (.rep (vw S w), S) else .stuck := of_eq_true (eq_self _)
end
end HQ
namespace HQ
theorem wAt_nat {ws : List W} {n : Nat} : wAt ws (n : Int) = ws[n]? := by
  unfold wAt L2.atI L2.ixN
  rw [if_pos (by omega)]
  by_cases h : n < ws.length
  · rw [if_pos (by omega)]; simp
  · rw [if_neg (by omega), List.getElem?_eq_none (by omega)]; rfl
section
variable {a b c d e : W} {r : List W}
@[simp] theorem wAt_0 : wAt (a :: r) 0 = some a := by have := wAt_nat (ws := a :: r) (n := 0); simpa using this
@[simp] theorem wAt_1 : wAt (a :: b :: r) 1 = some b := by have := wAt_nat (ws := a :: b :: r) (n := 1); simpa using this
@[simp] theorem wAt_2 : wAt (a :: b :: c :: r) 2 = some c := by have := wAt_nat (ws := a :: b :: c :: r) (n := 2); simpa using this
@[simp] theorem wAt_3 : wAt (a :: b :: c :: d :: r) 3 = some d := by have := wAt_nat (ws := a :: b :: c :: d :: r) (n := 3); simpa using this
@[simp] theorem wAt_4 : wAt (a :: b :: c :: d :: e :: r) 4 = some e := by have := wAt_nat (ws := a :: b :: c :: d :: e :: r) (n := 4); simpa using this
theorem wAt_at {ws : List W} {i : Int} (h0 : 0 ≤ i) : wAt ws i = ws[i.toNat]? := by
  have := wAt_nat (ws := ws) (n := i.toNat)
  rwa [Int.toNat_of_nonneg h0] at this
end
mutual
def dd : W → Bool
  | .non => true
  | .bl _ => true
  | .int _ => true
  | .str _ => true
  | .tup ws => dds ws
  | .lst ws => dds ws
  | .dic _ _ => true
  | _ => false
def dds : List W → Bool
  | [] => true
  | w :: r => dd w && dds r
end
theorem dds_iff : ∀ {ws : List W}, dds ws = true ↔ ∀ w ∈ ws, dd w = true
  | [] => by simp [dds]
  | w :: r => by simp [dds, dds_iff]
@[simp] theorem dd_non : dd .non = true := by simp only [dd]
@[simp] theorem dd_bl {b : Bool} : dd (.bl b) = true := by simp only [dd]
@[simp] theorem dd_int {b : Int} : dd (.int b) = true := by simp only [dd]
@[simp] theorem dd_str {b : Nat} : dd (.str b) = true := by simp only [dd]
@[simp] theorem dd_tup {b : List W} : dd (.tup b) = dds b := by simp only [dd]
@[simp] theorem dd_lst {b : List W} : dd (.lst b) = dds b := by simp only [dd]
@[simp] theorem dd_dic {n : Nat} {b : List (W × W)} : dd (.dic n b) = true := by simp only [dd]
@[simp] theorem dd_ins {n : Nat} {b : List (Nat × W)} : dd (.ins n b) = false := by simp only [dd]
@[simp] theorem dd_ref {n : Nat} : dd (.ref n) = false := by simp only [dd]
@[simp] theorem dd_pen : dd .pen = false := by simp only [dd]
@[simp] theorem dd_rep {w : W} : dd (.rep w) = false := by simp only [dd]
@[simp] theorem dds_nil : dds [] = true := by simp only [dds]
@[simp] theorem dds_cons {w : W} {r : List W} : dds (w :: r) = (dd w && dds r) := by simp only [dds]
theorem vw_dd {w : W} (h : dd w = true) (S : Hs) : vw S w = w := by cases w <;> first | rfl | simp at h
end HQ
namespace HQ
theorem lc_yes {f : Den} {g : Tg} {sl : Sl} {S : Hs} {p : W → W} : ∀ {ws : List W}, (∀ w ∈ ws, ∃ sl', g.gd w sl = some sl' ∧ f sl' S = .ok (p w, S)) → lcL g.gd bYes f sl ws S = .ok (ws.map p, S)
  | [], _ => rfl
  | w :: r, h => by
    obtain ⟨sl', h1, h2⟩ := h w (by simp)
    rw [lcL_cons, h1]
    simp [h2, lc_yes (ws := r) (fun u hu => h u (by simp [hu]))]
theorem lc_if {f : Den} {t : DenB} {g : Tg} {sl : Sl} {S : Hs} {q : W → Bool} {p : W → W} : ∀ {ws : List W}, (∀ w ∈ ws, ∃ sl', g.gd w sl = some sl' ∧ t sl' S = .ok (q w, S) ∧ (q w = true → f sl' S = .ok (p w, S))) → lcL g.gd t f sl ws S = .ok ((ws.filter q).map p, S)
  | [], _ => rfl
  | w :: r, h => by
    obtain ⟨sl', h1, h2, h3⟩ := h w (by simp)
    rw [lcL_cons, h1]
    cases qw : q w
    · simp [h2, qw, lc_if (ws := r) (fun u hu => h u (by simp [hu]))]
    · simp [h2, qw, h3 qw, lc_if (ws := r) (fun u hu => h u (by simp [hu]))]
end HQ
namespace HQ
open PySem PySem.Spec PyProof.Rows L2
section
variable {sl : Sl} {S : Hs} {f g d : Den} {w u : W} {i j n : Nat} {ds : List Den}
theorem okDs_bls {α : Type} {p : α → Bool} {m : Nat} : ∀ (ws : List α), okDs m (ws.map fun w => .bl (p w)) = true
  | [] => okDs_nil
  | w :: r => by simp [okDs_bls r]
theorem any_bls {α : Type} {p : α → Bool} : ∀ (ws : List α), ((ws.map fun w => W.bl (p w)).any fun z => weq z (.bl false)) = !(ws.all p)
  | [] => rfl
  | w :: r => by
    have := any_bls (p := p) r
    simp only [List.map_cons, List.any_cons, List.all_cons, this, weq_bl]
    cases p w <;> simp
@[simp high] theorem pIn_bls {α : Type} {p : α → Bool} {ws : List α} {x : Bool} : pIn x (.bl false) (.lst (ws.map fun w => .bl (p w))) = some (.bl (xor x !(ws.all p))) := by
  rw [pIn_lst, okDs_bls, any_bls]; simp
@[simp] theorem cDic_eq {kvs : List (W × W)} : cDic kvs sl S = .ok (.dic 0 (dMrg [] kvs), S) := of_eq_true (eq_self _)
@[simp] theorem cDicM_eq {kvs : List (W × W)} : cDicM kvs sl S = .ok (.ref S.nx, S.new (.dic 0 (dMrg [] kvs))) := of_eq_true (eq_self _)
@[simp] theorem cDm_eq {o : W → List W → M W} : cDm o d ds sl S = (d sl S).bind fun r => if isDicW r.2 r.1 then (evs ds sl r.2).bind fun q => o r.1 q.1 q.2 else .stuck := of_eq_true (eq_self _)
@[simp] theorem oUpd_eq {more : List (W × W)} : oUpd (.ref i) [.dic 0 more] S = match S.ob i with
    | some (.dic 0 kvs) => if kvs.length + more.length ≤ 16777216 then .ok (.non, S.put i (.dic 0 (dMrg kvs more))) else .stuck
    | _ => .stuck := of_eq_true (eq_self _)
@[simp] theorem cDGet1_eq : cDGet1 d f sl S = (d sl S).bind fun r => if isDicW r.2 r.1 then (f sl r.2).bind fun q => (match gGet q.2 r.1 q.1 .non with
    | some z => .ok (z, q.2)
    | none => .stuck) else .stuck := of_eq_true (eq_self _)
theorem isDic_ref {t : Nat} {kvs : List (W × W)} (h : S.ob i = some (.dic t kvs)) : isDicW S (.ref i) = true := by simp only [isDicW, vw, h]
theorem gGet_ref {kvs : List (W × W)} {x : Nat} (h : S.ob i = some (.dic 0 kvs)) : gGet S (.ref i) (.str x) u = some ((dFind 0 kvs (.str x)).getD u) := by simp [gGet, vw, h, fitsK, isKey]
theorem isLst_ref {ws : List W} (h : S.ob i = some (.lst ws)) : isLstW S (.ref i) = true := by simp only [isLstW, vw, h]
end
end HQ
namespace HQ
section
variable {S : Hs} {i : Nat} {o : Ob}
@[simp] theorem put_ob_same : (S.put i o).ob i = some o := by simp [Hs.put, oset]
@[simp] theorem new_ob_same : (S.new o).ob S.nx = some o := by simp [Hs.new, oset]
@[simp] theorem put_nx : (S.put i o).nx = S.nx := rfl
@[simp] theorem put_tk : (S.put i o).tk = S.tk := rfl
@[simp] theorem new_nx : (S.new o).nx = S.nx + 1 := rfl
@[simp] theorem new_tk : (S.new o).tk = S.tk := rfl
theorem put_ob_ne {j : Nat} (h : j ≠ i) : (S.put i o).ob j = S.ob j := by simp [Hs.put, oset, h]
theorem new_ob_lt {j : Nat} (h : j < S.nx) : (S.new o).ob j = S.ob j := by simp [Hs.new, oset, Nat.ne_of_lt h]
end
end HQ
namespace HQ
/-- S' came from S by at most c draws; what stood stands -/
structure Hs.Up (c : Nat) (S S' : Hs) : Prop where
  nx : S.nx ≤ S'.nx
  tk : S.tk ≤ S'.tk + c
  ob : ∀ j, j < S.nx → S'.ob j = S.ob j
theorem Hs.Up.refl {S : Hs} : Hs.Up 0 S S := ⟨Nat.le_refl _, Nat.le_refl _, fun _ _ => rfl⟩
theorem Hs.Up.trans {S S1 S2 : Hs} {c d : Nat} (a : Hs.Up c S S1) (b : Hs.Up d S1 S2) : Hs.Up (c + d) S S2 :=
  ⟨Nat.le_trans a.nx b.nx, by have := a.tk; have := b.tk; omega, fun j h => (b.ob j (Nat.lt_of_lt_of_le h a.nx)).trans (a.ob j h)⟩
theorem Hs.Up.mono {S S1 : Hs} {c d : Nat} (a : Hs.Up c S S1) (h : c ≤ d) : Hs.Up d S S1 := ⟨a.nx, by have := a.tk; omega, a.ob⟩
def Hs.tick (S : Hs) : Hs := ⟨S.ob, S.nx, S.tk - 1⟩
theorem tick_up {S : Hs} : Hs.Up 1 S S.tick := ⟨Nat.le_refl _, by simp only [Hs.tick]; omega, fun _ _ => rfl⟩
@[simp] theorem tick_ob {S : Hs} : S.tick.ob = S.ob := rfl
@[simp] theorem tick_nx {S : Hs} : S.tick.nx = S.nx := rfl
@[simp] theorem tick_tk {S : Hs} : S.tick.tk = S.tk - 1 := rfl
theorem take_eq {S : Hs} {n : Nat} (h : 0 < n) (h2 : n < 2 ^ 30) (ht : 0 < S.tk) : F__law_take [.pen, .int (n : Int)] S = .pick n fun v => .ok (v, S.tick) := by
  simp only [F__law_take, Hs.tick]
  rw [if_pos ⟨by omega, by omega, ht⟩]
  simp
/-- wp, closed: nothing unfolds it unasked -/
structure Wq {α : Type} (r : R α) (Q : α → Prop) (E : XP) : Prop where
  h : wp r Q E
section
variable {α β : Type} {Q : α → Prop} {E : XP}
@[simp] theorem Wq_ok {a : α} : Wq (.ok a) Q E ↔ Q a := ⟨fun h => h.h, fun h => ⟨h⟩⟩
@[simp] theorem Wq_stuck : Wq (.stuck : R α) Q E ↔ False := ⟨fun h => h.h, fun h => ⟨h⟩⟩
@[simp] theorem Wq_exn {c : Nat} {sl : Sl} {S : Hs} : Wq (.exn c sl S : R α) Q E ↔ E c sl S := ⟨fun h => h.h, fun h => ⟨h⟩⟩
@[simp] theorem Wq_pick {n : Nat} {k : W → R α} : Wq (.pick n k) Q E ↔ ∀ v : Nat, v < n → Wq (k (.int v)) Q E := ⟨fun h v hv => ⟨h.h v hv⟩, fun h => ⟨fun v hv => (h v hv).h⟩⟩
theorem Wq.mono {r : R α} {Q' : α → Prop} {E' : XP} (h : Wq r Q E) (f : ∀ a, Q a → Q' a) (g : ∀ c sl S, E c sl S → E' c sl S) : Wq r Q' E' := ⟨wp_mono h.h f g⟩
theorem Wq.bind {m : R β} {f : β → R α} {P : β → Prop} (h : Wq m P XF) (k : ∀ a, P a → Wq (f a) Q E) : Wq (m.bind f) Q E :=
  ⟨wp_bind.mpr (wp_mono h.h (fun a q => (k a q).h) fun _ _ _ z => (show False from z).elim)⟩
theorem Wq.call {m : R β} {sl : Sl} {f : β → R α} {P : β → Prop} (h : Wq m P XF) (k : ∀ a, P a → Wq (f a) Q E) : Wq ((m.reSl sl).bind f) Q E := by
  obtain ⟨h⟩ := h
  refine ⟨wp_bind.mpr ?_⟩
  induction m with
  | ok a => exact (k a h).h
  | stuck => exact h
  | exn c sl S => exact (show False from h).elim
  | pick n g ih =>
    intro v hv
    have := ih (.int v) (h v hv)
    rw [R.reSl_eq] at this
    exact this
theorem Wq.noX {m : R β} {f : β → R α} {P : β → Prop} (h : Wq m P XF) (k : ∀ a, P a → Wq (f a) Q E) : Wq (m.noX.bind f) Q E := by
  obtain ⟨h⟩ := h
  refine ⟨wp_bind.mpr ?_⟩
  induction m with
  | ok a => exact (k a h).h
  | stuck => exact h
  | exn c sl S => exact (show False from h).elim
  | pick n g ih =>
    intro v hv
    have := ih (.int v) (h v hv)
    rw [R.noX_eq] at this
    exact this
end
section
variable {S : Hs} {sl : Sl} {E : XP}
/-- a walk with an invariant -/
theorem wq_for {g : GD} {b : SDen} (I : Nat → Sl → Hs → Prop) (Rt : W → Hs → Prop) : ∀ {ws : List W} {n : Nat} {sl : Sl} {S : Hs}, I n sl S →
    (∀ i w, ws[i]? = some w → ∀ sl S, I (n + i) sl S → ∃ sl1, g w sl = some sl1 ∧ Wq (b sl1 S) (fun q => ((q.1.1 = .nx ∨ q.1.1 = .ct) ∧ I (n + i + 1) q.1.2 q.2) ∨ ∃ w, q.1.1 = .ret w ∧ Rt w q.2) XF) →
    Wq (sForL g b ws sl S) (fun q => (q.1.1 = .nx ∧ I (n + ws.length) q.1.2 q.2) ∨ ∃ w, q.1.1 = .ret w ∧ Rt w q.2) XF
  | [], n, sl, S, h, _ => ⟨.inl ⟨rfl, h⟩⟩
  | w :: r, n, sl, S, h, k => by
    obtain ⟨sl1, e, hb⟩ := k 0 w rfl sl S h
    rw [sForL_cons, e]
    refine Wq.bind hb fun q z => ?_
    obtain ⟨⟨o, sl2⟩, S2⟩ := q
    have next : I (n + 1) sl2 S2 → Wq (sForL g b r sl2 S2) (fun q => (q.1.1 = .nx ∧ I (n + (r.length + 1)) q.1.2 q.2) ∨ ∃ w, q.1.1 = .ret w ∧ Rt w q.2) XF := fun z2 => by
      have := wq_for I Rt (ws := r) (n := n + 1) z2 (fun i w hw sl S hi => by
        have := k (i + 1) w (by simpa using hw) sl S (by rwa [Nat.add_assoc, Nat.add_comm 1 i] at hi)
        rwa [Nat.add_assoc n 1 i, Nat.add_comm 1 i])
      rwa [Nat.add_assoc n 1, Nat.add_comm 1] at this
    rcases z with ⟨z1, z2⟩ | ⟨w, z1, z2⟩
    · rcases z1 with z1 | z1
      · obtain rfl : o = .nx := z1
        exact next z2
      · obtain rfl : o = .ct := z1
        exact next z2
    · obtain rfl : o = .ret w := z1
      exact ⟨.inr ⟨w, rfl, z2⟩⟩
/-- a comprehension with draws -/
theorem wq_lc {g : GD} {f : Den} {c : Nat} {P : W → Prop} : ∀ {ws : List W} {S : Hs}, c * ws.length ≤ S.tk → (∀ w ∈ ws, ∃ sl1, g w sl = some sl1 ∧ ∀ S, c ≤ S.tk → Wq (f sl1 S) (fun r => P r.1 ∧ Hs.Up c S r.2) XF) →
    Wq (lcL g bYes f sl ws S) (fun r => (r.1.length = ws.length ∧ ∀ u ∈ r.1, P u) ∧ Hs.Up (c * ws.length) S r.2) XF
  | [], S, _, _ => ⟨⟨rfl, fun _ h => by cases h⟩, by simpa using Hs.Up.refl⟩
  | w :: r, S, h, k => by
    have e0 : c * (w :: r).length = c * r.length + c := by rw [List.length_cons, Nat.mul_succ]
    rw [e0] at h ⊢
    obtain ⟨sl1, e, hb⟩ := k w (by simp)
    rw [lcL_cons, e]
    show Wq (R.bind (.ok (true, S)) _) _ _
    rw [R.bind_ok]
    show Wq (R.bind _ _) _ _
    refine Wq.bind (hb S (by omega)) fun a ha => ?_
    refine Wq.bind (wq_lc (ws := r) (by have := ha.2.tk; omega) fun u hu => k u (by simp [hu])) fun b hb2 => ?_
    rw [Wq_ok]
    refine ⟨⟨by simp [hb2.1.1], fun u hu => ?_⟩, ?_⟩
    · rcases List.mem_cons.mp hu with z | z
      · rw [z]; exact ha.1
      · exact hb2.1.2 u z
    · exact (ha.2.trans hb2.2).mono (by omega)
/-- what a call with draws brings -/
structure Gp (m : R (W × Hs)) (P : W → Hs → Prop) : Prop where
  h : Wq m (fun r => P r.1 r.2) XF
theorem gp_call {β : Type} {m : R (W × Hs)} {sl : Sl} {f : W × Hs → R β} {P : W → Hs → Prop} {Q : β → Prop} {E : XP} (h : Gp m P) (k : ∀ w S, P w S → Wq (f (w, S)) Q E) : Wq ((m.reSl sl).bind f) Q E :=
  h.h.call fun a q => k a.1 a.2 q
theorem Gp.mono {m : R (W × Hs)} {P P' : W → Hs → Prop} (h : Gp m P) (k : ∀ w S, P w S → P' w S) : Gp m P' := ⟨h.h.mono (fun a q => k a.1 a.2 q) fun _ _ _ z => z⟩
theorem gp_for {g : GD} {b : SDen} {ws : List W} {sl : Sl} {S : Hs} {β : Type} {f : (Out × Sl) × Hs → R β} {Q : β → Prop} {E : XP} (I : Nat → Sl → Hs → Prop) (h0 : I 0 sl S)
    (st : ∀ i w, ws[i]? = some w → ∀ sl S, I i sl S → ∃ sl1, g w sl = some sl1 ∧ Wq (b sl1 S) (fun q => (q.1.1 = .nx ∨ q.1.1 = .ct) ∧ I (i + 1) q.1.2 q.2) XF)
    (k : ∀ sl S, I ws.length sl S → Wq (f ((.nx, sl), S)) Q E) : Wq ((sForL g b ws sl S).bind f) Q E := by
  refine Wq.bind (wq_for I (fun _ _ => False) (n := 0) h0 fun i w hw sl S hi => ?_) fun a h => ?_
  · obtain ⟨sl1, e, h⟩ := st i w hw sl S (by simpa using hi)
    exact ⟨sl1, e, h.mono (fun q z => .inl (by simpa using z)) fun _ _ _ z => z⟩
  · obtain ⟨⟨o, sl⟩, S1⟩ := a
    rcases h with ⟨z, h⟩ | ⟨_, _, z⟩
    · obtain rfl : o = .nx := z
      exact k sl S1 (by simpa using h)
    · exact z.elim
theorem gp_lc {g : GD} {f0 : Den} {c : Nat} {P : W → Prop} {ws : List W} {sl : Sl} {S : Hs} {β : Type} {f : List W × Hs → R β} {Q : β → Prop} {E : XP} (hc : c * ws.length ≤ S.tk)
    (st : ∀ w ∈ ws, ∃ sl1, g w sl = some sl1 ∧ ∀ S, c ≤ S.tk → Gp (f0 sl1 S) (fun w S' => P w ∧ Hs.Up c S S'))
    (k : ∀ us S', us.length = ws.length → (∀ u ∈ us, P u) → Hs.Up (c * ws.length) S S' → Wq (f (us, S')) Q E) : Wq ((lcL g bYes f0 sl ws S).noX.bind f) Q E :=
  (wq_lc hc fun w hw => let ⟨sl1, e, h⟩ := st w hw; ⟨sl1, e, fun S hs => (h S hs).h⟩).noX fun a h => k a.1 a.2 h.1.1 h.1.2 h.2
theorem wq_seq {b c : SDen} {P : Sl → Hs → Prop} {Q : (Out × Sl) × Hs → Prop} (h : Wq (b sl S) (fun q => q.1.1 = .nx ∧ P q.1.2 q.2) XF) (k : ∀ sl S, P sl S → Wq (c sl S) Q E) : Wq (sSeq b c sl S) Q E := by
  refine Wq.bind h fun a z => ?_
  obtain ⟨⟨o, sl⟩, S1⟩ := a
  obtain ⟨z, h⟩ := z
  obtain rfl : o = .nx := z
  exact k sl S1 h
end
end HQ
namespace HQ
theorem Wq.re {β : Type} {m : R β} {sl : Sl} {P : β → Prop} (h : Wq m P XF) : Wq (m.reSl sl) P XF := by
  obtain ⟨h⟩ := h
  refine ⟨?_⟩
  induction m with
  | ok a => exact h
  | stuck => exact h
  | exn c sl S => exact (show False from h).elim
  | pick n g ih =>
    intro v hv
    have := ih (.int v) (h v hv)
    rw [R.reSl_eq] at this
    exact this
theorem gp_cCall {F : Fn} {ds : List Den} {sl : Sl} {S : Hs} {ws : List W} {P : W → Hs → Prop} (he : evs ds sl S = .ok (ws, S)) (h : Gp (F ws S) P) : Gp (cCall F ds sl S) P := by
  refine ⟨?_⟩
  rw [cCall_eq, he]
  exact h.h.re
end HQ
namespace HQ
section
variable {S : Hs} {sl : Sl} {E : XP}
/-- a comprehension with draws, item by item -/
theorem wq_lc2 {g : GD} {f : Den} {c : Nat} {P : W → W → Prop} : ∀ {ws : List W} {S : Hs}, c * ws.length ≤ S.tk → (∀ w ∈ ws, ∃ sl1, g w sl = some sl1 ∧ ∀ S, c ≤ S.tk → Wq (f sl1 S) (fun r => P w r.1 ∧ Hs.Up c S r.2) XF) →
    Wq (lcL g bYes f sl ws S) (fun r => (r.1.length = ws.length ∧ ∀ (j : Nat) w u, ws[j]? = some w → r.1[j]? = some u → P w u) ∧ Hs.Up (c * ws.length) S r.2) XF
  | [], S, _, _ => ⟨⟨rfl, fun _ _ _ h => by simp at h⟩, by simpa using Hs.Up.refl⟩
  | w :: r, S, h, k => by
    have e0 : c * (w :: r).length = c * r.length + c := by rw [List.length_cons, Nat.mul_succ]
    rw [e0] at h ⊢
    obtain ⟨sl1, e, hb⟩ := k w (by simp)
    rw [lcL_cons, e]
    show Wq (R.bind (.ok (true, S)) _) _ _
    rw [R.bind_ok]
    show Wq (R.bind _ _) _ _
    refine Wq.bind (hb S (by omega)) fun a ha => ?_
    refine Wq.bind (wq_lc2 (P := P) (ws := r) (by have := ha.2.tk; omega) fun u hu => k u (by simp [hu])) fun b hb2 => ?_
    rw [Wq_ok]
    refine ⟨⟨by simp [hb2.1.1], fun j x u hx hu => ?_⟩, ?_⟩
    · cases j with
      | zero => simp at hx hu; subst hx hu; exact ha.1
      | succ j => exact hb2.1.2 j x u (by simpa using hx) (by simpa using hu)
    · exact (ha.2.trans hb2.2).mono (by omega)
theorem gp_lc2 {g : GD} {f0 : Den} {c : Nat} {P : W → W → Prop} {ws : List W} {sl : Sl} {S : Hs} {β : Type} {f : List W × Hs → R β} {Q : β → Prop} {E : XP} (hc : c * ws.length ≤ S.tk)
    (st : ∀ w ∈ ws, ∃ sl1, g w sl = some sl1 ∧ ∀ S, c ≤ S.tk → Gp (f0 sl1 S) (fun u S' => P w u ∧ Hs.Up c S S'))
    (k : ∀ us S', us.length = ws.length → (∀ (j : Nat) w u, ws[j]? = some w → us[j]? = some u → P w u) → Hs.Up (c * ws.length) S S' → Wq (f (us, S')) Q E) : Wq ((lcL g bYes f0 sl ws S).noX.bind f) Q E :=
  (wq_lc2 hc fun w hw => let ⟨sl1, e, h⟩ := st w hw; ⟨sl1, e, fun S hs => (h S hs).h⟩).noX fun a h => k a.1 a.2 h.1.1 h.1.2 h.2
end
end HQ
namespace HQ
@[simp] theorem sWhile_z {t : DenB} {b : SDen} {sl : Sl} {S : Hs} : sWhile 0 t b sl S = .stuck := of_eq_true (eq_self _)
theorem sWhile_s {n : Nat} {t : DenB} {b : SDen} {sl : Sl} {S : Hs} : sWhile (n + 1) t b sl S = (t sl S).bind fun r => if r.1 then (b sl r.2).bind fun q => (match q.1.1 with
    | .nx => sWhile n t b q.1.2 q.2
    | .ct => sWhile n t b q.1.2 q.2
    | .bk => .ok ((.nx, q.1.2), q.2)
    | .ret w => .ok ((.ret w, q.1.2), q.2)) else .ok ((.nx, sl), r.2) := rfl
/-- while, by what is left to do -/
theorem wq_while {t : DenB} {b : SDen} {I : Nat → Sl → Hs → Prop} : ∀ {n m : Nat} {sl : Sl} {S : Hs}, I m sl S → m < n →
    (∀ m sl S, I m sl S → t sl S = .ok (decide (0 < m), S) ∧ (∀ k, m = k + 1 → Wq (b sl S) (fun q => (q.1.1 = .nx ∨ q.1.1 = .ct) ∧ I k q.1.2 q.2) XF)) →
    Wq (sWhile n t b sl S) (fun q => q.1.1 = .nx ∧ I 0 q.1.2 q.2) XF
  | 0, m, _, _, _, hm, _ => absurd hm (by omega)
  | n + 1, 0, sl, S, h, _, st => by
    obtain ⟨e, _⟩ := st 0 sl S h
    rw [sWhile_s, e]
    simp
    exact h
  | n + 1, m + 1, sl, S, h, hm, st => by
    obtain ⟨e, k⟩ := st (m + 1) sl S h
    rw [sWhile_s, e]
    simp only [R.bind_ok, Nat.zero_lt_succ, decide_true, if_true]
    refine Wq.bind (k m rfl) fun q z => ?_
    obtain ⟨⟨o, sl2⟩, S2⟩ := q
    obtain ⟨z1, z2⟩ := z
    rcases z1 with z1 | z1
    · obtain rfl : o = .nx := z1
      exact wq_while z2 (by omega) st
    · obtain rfl : o = .ct := z1
      exact wq_while z2 (by omega) st
theorem Hs.Up.put {c j : Nat} {S S1 : Hs} {o : Ob} (u : Hs.Up c S S1) (h : S.nx ≤ j) : Hs.Up c S (S1.put j o) := ⟨u.nx, u.tk, fun i hi => by
  simp only [Hs.put, oset]
  rw [if_neg (by omega)]
  exact u.ob i hi⟩
theorem Hs.Up.new {c : Nat} {S S1 : Hs} {o : Ob} (u : Hs.Up c S S1) : Hs.Up c S (S1.new o) := ⟨by have := u.nx; simp only [Hs.new]; omega, u.tk, fun i hi => by
  have := u.nx
  simp only [Hs.new, oset]
  rw [if_neg (by omega)]
  exact u.ob i hi⟩
theorem gp_forS {g : Tg} {b : SDen} {it : DenI} {ws : List W} {sl : Sl} {S : Hs} (hi : it sl S = .ok (ws, S)) (I : Nat → Sl → Hs → Prop) (h0 : I 0 sl S)
    (st : ∀ i w, ws[i]? = some w → ∀ sl S, I i sl S → ∃ sl1, g.gd w sl = some sl1 ∧ Wq (b sl1 S) (fun q => (q.1.1 = .nx ∨ q.1.1 = .ct) ∧ I (i + 1) q.1.2 q.2) XF) :
    Wq (sFor it g b sl S) (fun q => q.1.1 = .nx ∧ I ws.length q.1.2 q.2) XF := by
  show Wq (R.bind _ _) _ _
  rw [hi]
  refine (wq_for I (fun _ _ => False) (n := 0) h0 fun i w hw sl S hi => ?_).mono (fun q z => ?_) fun _ _ _ z => z
  · obtain ⟨sl1, e, h⟩ := st i w hw sl S (by simpa using hi)
    exact ⟨sl1, e, h.mono (fun q z => .inl (by simpa using z)) fun _ _ _ z => z⟩
  · rcases z with ⟨z, h⟩ | ⟨_, _, z⟩
    · exact ⟨z, by simpa using h⟩
    · exact z.elim
end HQ
namespace HQ
open PySem PySem.Spec PyProof.Rows L2
variable {X : L2.Cx} {B : Bm} {Wx : WX} {A : Am}

/-- what the head says of an exception's class -/
structure ExK (K : PySem.W.Frag) (C : Addr) : Prop where
  ei : PySem.W.excIn K C He.veBase "ValueError.__new__" = true
  kp : PySem.W.keepIn K (.ref C) = true
  sb : PySem.W.subIn K (.ref C) (.type "BaseException") = some true
  ty : PySem.W.typeIn K (.ref C) = some (.type "type")

def sRaise (c : Nat) : SDen := fun sl S => .exn c sl S
theorem ss_raise {c : Nat} {x m : Str} {j : Nat} {p p2 p3 pos : Pos} (hc : X.calm = true) (tk : Takes X Wx) (k : ExK X.K (B.cl c)) (gC : X.mg x = some (.ref (B.cl c))) (hg : Gl X x) (hdb : (x == ("__debug__" : Str)) = false := by decide) :
    SS X B Wx (.Raise (some (.Call (.Name x p) [.Constant (.str m) j p2] [] p3)) none pos) (sRaise c) :=
  weakS (ps_raise hc tk (pmk_own PySem.F.excBase_ValueError k.ei gC k.kp (raises_own k.sb k.ty) hg hdb)) fun D sg H ⟨e, S, sl, rp, rs, h⟩ =>
    (show PostX (am X B) e S.nx H c sl S Wx from h) e H none sg Ext.refl rp rs

def cExc (c : Nat) (f : Den) : Den := fun sl S => (f sl S).bind fun r => .ok (.exc c, r.2)
theorem newE {e : Emb} {S : Hs} {H : Hp} {c : Nat} {Q : VK} (rp : Rep A e S H) (p : Post A e S.nx H (.exc c) S Q) : ∀ a, H a = none → Q (.ref a) (upd H a (ExO (.ref (A.cl c)) a)) := fun a n =>
  have x := Ext.new (o := ExO (.ref (A.cl c)) a) rp n (fun b => e.fz b ∨ b = a) fun _ h => .inl h
  p _ _ _ x (Rep.new rp n _ (fun _ h => .inl h) fun _ h => h) (.exc (.inr rfl) upd_same)
theorem se_exc {c : Nat} {x : Str} {a : Expr} {f : Den} {p pos : Pos} (k : ExK X.K (B.cl c)) (gC : X.mg x = some (.ref (B.cl c))) (hg : Gl X x) (ha : SE X B Wx a f)
    (hs : starEach [a] X.env = (false, eval a X.env) :: starEach [] X.env := by rfl) (hdb : (x == ("__debug__" : Str)) = false := by decide) : SE X B Wx (.Call (.Name x p) [a] [] pos) (cExc c f) :=
  weakE (pe_exc1 PySem.F.excBase_ValueError k.ei gC k.kp hg ha hs hdb) fun sg H Q ⟨e, S, sl, rp, rs, h⟩ =>
    part (k := fun w S1 => .ok (W.exc c, S1)) Ext.refl rp rs h fun e1 S1 H1 w v x1 _ rp1 rs1 rv1 h1 => newE (A := am X B) rp1 (Post.ext h1 x1)

def rIsO (K : PySem.W.Frag) : List V → Hp → VK → Prop := fun xs H Q => ∃ (D a : Addr) (c : V) (u : Value) (b : Bool), xs = [.ref a, c] ∧ H a = some (ExO (.ref D) a) ∧ ExcC K D ∧ ClsV c u ∧ PySem.W.kitOne K (.ref D) u = some b ∧ Q (.bl b) H
theorem call_isO : CallR X (.builtin "isinstance") (rIsO X.K) := by
  intro pins s σ H xs us Q I r h
  obtain ⟨D, a, c, u, b, rfl, ha, C, k, e, q⟩ := h
  obtain ⟨u1, u2, rfl, r1, r2⟩ := vals2 r
  have e2 := k.eq r2
  subst e2
  have e1 : u1 = .ref a := r1
  subst e1
  obtain ⟨⟨oe, vs, ho, hz, hd, _⟩, _, _⟩ := I.hok a _ ha
  have J : PySem.W.InstAt s.heap a oe D none := by
    obtain ⟨oc, od, oda, osl⟩ := oe
    obtain ⟨z1, z2⟩ := hz
    dsimp only at z1 z2 hd
    subst z1 z2 hd
    exact ⟨ho, rfl, rfl, trivial⟩
  exact PySem.W.kia_one (PySem.W.handS_kitx_exc C.hg C.hk C.hs C.hd C.ha C.hn C.ht C.hm) I.kIn J e (fun z => nomatch z) fun tk => ⟨.bl b, H, I.tok tk, rfl, q⟩
/-- an own class, or ValueError, asked: its answers -/
structure IsK (K : PySem.W.Frag) (cl : Nat → Addr) (u : Value) (t : Nat → Option Bool) : Prop where
  no : ∀ i : Fin 7, PySem.W.kitOne K (.type (tyN i)) u = some false
  ex : ∀ c b, t c = some b → ExcC K (cl c) ∧ PySem.W.kitOne K (.ref (cl c)) u = some b
def wIsE (t : Nat → Option Bool) : W → Option Bool
  | .exc c => t c
  | w => (wTy w).map fun _ => false
def cIsE (t : Nat → Option Bool) (f : Den) : Den := fun sl S => (f sl S).bind fun r => match wIsE t (vw r.2 r.1) with
  | some b => .ok (.bl b, r.2)
  | none => .stuck
theorem se_isE {a : Expr} {T : Str} {p p2 pos : Pos} {f : Den} {t : Nat → Option Bool} {u : Value} {v : V} (hg : Gl X "isinstance") (hm : X.mg "isinstance" = none) (hT : PE X (.Name T p2) (tC v)) (hv : ClsV v u) (k : IsK X.K B.cl u t) (ha : SE X B Wx a f)
    (he : starEach [a, .Name T p2] X.env = (false, eval a X.env) :: starEach [.Name T p2] X.env := by rfl) : SE X B Wx (.Call (.Name "isinstance" p) [a, .Name T p2] [] pos) (cIsE t f) :=
  weakE (pe_callB (call_isO.or call_isi) hg hm (by decide +kernel) (pa_cons ha (pa_cons hT pa_nil rfl) he) (by decide) (by decide) he rfl) fun sg H Q ⟨e, S, sl, rp, rs, h⟩ =>
    part (k := fun w S1 => match wIsE t (vw S1 w) with
      | some b => .ok (W.bl b, S1)
      | none => .stuck) Ext.refl rp rs h fun e1 S1 H1 w y x1 _ rp1 rs1 rv1 h1 => by
      cases q : wIsE t (vw S1 w) with
      | none => simp only [q] at h1; exact (show False from h1).elim
      | some b =>
        simp only [q] at h1
        have vx := rp1.vw rv1
        have hq := Post.now (Post.ext h1 x1) rp1 (.bl b)
        unfold wIsE at q
        split at q
        · next c e2 =>
          rw [e2] at vx
          obtain ⟨a', rfl, g⟩ := vx
          obtain ⟨k1, k2⟩ := k.ex c b q
          exact .inl ⟨_, a', v, u, b, rfl, g, k1, hv, k2, hq⟩
        · obtain ⟨ty, q1, q2⟩ := Option.map_eq_some_iff.mp q
          subst q2
          exact .inr ⟨y, v, _, u, false, rfl, hv, wTy_ok vx q1, k.no ⟨ty, wTy_lt q1⟩, hq⟩
/-- the class is own -/
theorem pe_cls {T : Str} {p : Pos} {C : Addr} (hg : Gl X T) (hm : X.mg T = some (.ref C)) (hd : (T == ("__debug__" : Str)) = false := by decide) : PE X (.Name T p) (tC (.ref C)) := pe_glob hg hm rfl hd
theorem pe_veC {p : Pos} (hg : Gl X "ValueError") (hm : X.mg "ValueError" = none) : PE X (.Name "ValueError" p) (tC (.ty "ValueError")) := pe_bltn hg hm (by decide +kernel) rfl (by decide) (by decide)
/-- the facts as one look at the written part -/
def exkB (K : PySem.W.Frag) (C : Addr) : Bool := PySem.W.excIn K C He.veBase "ValueError.__new__" && (PySem.W.keepIn K (.ref C) && (decide (PySem.W.subIn K (.ref C) (.type "BaseException") = some true) && decide (PySem.W.typeIn K (.ref C) = some (.type "type"))))
theorem exkB_ok {K : PySem.W.Frag} {C : Addr} (h : exkB K C = true) : ExK K C := by
  obtain ⟨c1, c⟩ := He.ba h
  obtain ⟨c2, c⟩ := He.ba c
  obtain ⟨c3, c4⟩ := He.ba c
  exact ⟨c1, c2, of_decide_eq_true c3, of_decide_eq_true c4⟩
def excB (K : PySem.W.Frag) (D : Addr) : Bool := He.eqO (PySem.W.findIn K (.ref D) "__getattribute__") (some (some (.builtin "BaseException.__getattribute__"))) && (He.eqO (PySem.W.findIn K (.ref D) "__getattr__") (some none) &&
  (decide (PySem.W.subIn K (.ref D) (.type "BaseException") = some true) && (PySem.W.hasDictIn K D && (He.eqO (PySem.W.findIn K (.ref D) "__class__") (some (some (.builtin "object.__class__"))) &&
  (He.eqO (PySem.W.specialIn K (.builtin "object.__class__") "__get__") (some (some (.builtin "getset_descriptor.__get__"))) && (decide (PySem.W.takesIn K (.builtin "object.__class__") = some true) && decide (PySem.W.mroIn K D (.type "object") = some true)))))))
theorem excB_ok {K : PySem.W.Frag} {D : Addr} (h : excB K D = true) : ExcC K D := by
  obtain ⟨c1, c⟩ := He.ba h
  obtain ⟨c2, c⟩ := He.ba c
  obtain ⟨c3, c⟩ := He.ba c
  obtain ⟨c4, c⟩ := He.ba c
  obtain ⟨c5, c⟩ := He.ba c
  obtain ⟨c6, c⟩ := He.ba c
  obtain ⟨c7, c8⟩ := He.ba c
  exact ⟨He.eqO_ok c1, He.eqO_ok c2, of_decide_eq_true c3, c4, He.eqO_ok c5, He.eqO_ok c6, of_decide_eq_true c7, of_decide_eq_true c8⟩
/-- answers for the exceptions from a number on -/
def isTab (l : List (Nat × Bool)) (c : Nat) : Option Bool := (l.find? fun q => q.1 == c).map (·.2)
def iskB (K : PySem.W.Frag) (cl : Nat → Addr) (u : Value) (l : List (Nat × Bool)) : Bool := ((List.range 7).all fun i => decide (PySem.W.kitOne K (.type (tyN i)) u = some false)) && l.all fun q => decide (PySem.W.kitOne K (.ref (cl q.1)) u = some q.2)
theorem iskB_ok {K : PySem.W.Frag} {cl : Nat → Addr} {u : Value} {l : List (Nat × Bool)} (h : iskB K cl u l = true) (he : ∀ q ∈ l, ExcC K (cl q.1)) : IsK K cl u (isTab l) := by
  obtain ⟨h1, h2⟩ := He.ba h
  refine ⟨fun i => ?_, fun c b hc => ?_⟩
  · exact of_decide_eq_true (List.all_eq_true.mp h1 i (List.mem_range.mpr i.2))
  · obtain ⟨q, hq, e⟩ := Option.map_eq_some_iff.mp hc
    have hm := List.mem_of_find?_eq_some hq
    have hp := List.find?_some hq
    have ec : q.1 = c := by simpa using hp
    subst ec; subst e
    exact ⟨he q hm, of_decide_eq_true (List.all_eq_true.mp h2 q hm)⟩
@[simp] theorem cExc_eq {c : Nat} {f : Den} {sl : Sl} {S : Hs} : cExc c f sl S = (f sl S).bind fun r => .ok (.exc c, r.2) := of_eq_true (eq_self _)
@[simp] theorem cIsE_eq {t : Nat → Option Bool} {f : Den} {sl : Sl} {S : Hs} : cIsE t f sl S = (f sl S).bind fun r => match wIsE t (vw r.2 r.1) with
  | some b => .ok (.bl b, r.2)
  | none => .stuck := of_eq_true (eq_self _)
@[simp] theorem sRaise_eq {c : Nat} {sl : Sl} {S : Hs} : sRaise c sl S = .exn c sl S := of_eq_true (eq_self _)
/-- nothing is said -/
def cStuck : Den := fun _ _ => .stuck
def bStuck : DenB := fun _ _ => .stuck
def sStuck : SDen := fun _ _ => .stuck
theorem se_stuck {ex : Expr} : SE X B Wx ex cStuck := ⟨fun _ _ _ _ _ _ ⟨_, _, _, _, _, h⟩ => (show False from h).elim⟩
theorem st_stuck {ex : Expr} : ST X B Wx ex bStuck := ⟨fun _ _ _ _ _ _ ⟨_, _, _, _, _, h⟩ => (show False from h).elim⟩
theorem ss_stuck {st : Stmt} : SS X B Wx st sStuck := ⟨fun _ _ _ _ _ _ ⟨_, _, _, _, _, h⟩ => (show False from h).elim⟩
section
variable {P : Program} {w : World} {K : PySem.W.Frag} {mg : Str → Option Value} {base : Heap} {N : List Str} {sc : Scope} {k : Nat}
theorem Bd.xk (d : Bd P w K mg base N sc k X Wx) {C : Addr} (h : ExK K C) : ExK X.K C := by rw [d.K]; exact h
theorem Bd.isk (d : Bd P w K mg base N sc k X Wx) {cl : Nat → Addr} {u : Value} {t : Nat → Option Bool} (h : IsK K cl u t) : IsK X.K cl u t := by rw [d.K]; exact h
end
end HQ
namespace HQ
open PySem PySem.Spec PyProof.Rows L2
def isTrueO : Out → Bool
  | .ret (.bl b) => b
  | _ => false
def chkL : R ((Out × Sl) × Hs) → Bool
  | .ok a => isTrueO a.1.1
  | .pick n k => (List.range n).all fun v => chkL (k (.int ((v : Nat) : Int)))
  | _ => false
theorem chkL_ok : ∀ (r : R ((Out × Sl) × Hs)), chkL r = true → wp r (fun q => q.1.1 = .ret (.bl true)) XF
  | .ok a, h => by
    obtain ⟨⟨o, sl⟩, S⟩ := a
    have h' : isTrueO o = true := h
    show o = _
    cases o with
    | ret w => cases w with
      | bl b => have : b = true := h'; subst this; rfl
      | _ => cases h'
    | _ => cases h'
  | .pick n k, h => fun v hv => chkL_ok (k (.int v)) (List.all_eq_true.mp h v (List.mem_range.mpr hv))
  | .stuck, h => by cases h
  | .exn _ _ _, h => by cases h
def S00 : Hs := ⟨fun _ => none, 0, 1000000000⟩
/-- one way of the first draw -/
def fol (v : Nat) : R ((Out × Sl) × Hs) → R ((Out × Sl) × Hs)
  | .pick _ k => k (.int ((v : Nat) : Int))
  | r => r
def isPick (n : Nat) : R ((Out × Sl) × Hs) → Bool
  | .pick m _ => m == n
  | _ => false
theorem chk_split {r : R ((Out × Sl) × Hs)} (n : Nat) (h0 : isPick n r = true) (h : ∀ v, v < n → chkL (fol v r) = true) : chkL r = true := by
  cases r with
  | pick m k =>
    have e : m = n := by simpa [isPick] using h0
    subst e
    exact List.all_eq_true.mpr fun v hv => h v (List.mem_range.mp hv)
  | _ => cases h0
theorem lt2 {p : Nat → Prop} (h0 : p 0) (h1 : p 1) : ∀ v, v < 2 → p v
  | 0, _ => h0
  | 1, _ => h1
theorem lt3 {p : Nat → Prop} (h0 : p 0) (h1 : p 1) (h2 : p 2) : ∀ v, v < 3 → p v
  | 0, _ => h0
  | 1, _ => h1
  | 2, _ => h2
theorem lt4 {p : Nat → Prop} (h0 : p 0) (h1 : p 1) (h2 : p 2) (h3 : p 3) : ∀ v, v < 4 → p v
  | 0, _ => h0
  | 1, _ => h1
  | 2, _ => h2
  | 3, _ => h3
end HQ
namespace HQ
open PySem PySem.Spec PyProof.Rows L2
variable {A : Am} {e : Emb} {S : Hs} {H : Hp}
theorem pen_ext {l : List V} {o : HO} (rp : Rep A e S H) (h : H A.pi = some (.lst l)) : Ext A e S.nx H e S.nx (upd H A.pi o) :=
  ⟨⟨Nat.le_refl _, fun _ _ => rfl, fun _ h => h, fun a ha => upd_ne fun z => rp.fzp.1.1 (z ▸ ha), fun a xs ha => (upd_ne fun z => by subst z; rw [h] at ha; cases ha).trans ha⟩, fun _ h => h, fun a ha => upd_ne fun z => rp.fzp.2.1 (z ▸ ha)⟩
theorem pen_set {l : List V} {at_ rest : Int} {tk : Nat} (rp : Rep A e S H) (h : H A.pi = some (.lst l)) (h0 : 0 ≤ at_) (h1 : at_ + tk ≤ 1000000000) :
    Rep A e (S.tok tk) (upd H A.pi (.lst [.ref A.ga, .int at_, .int rest])) where
  ob := fun i o hi => by
    obtain ⟨a, b, c, d, ho, q1, q2⟩ := rp.ob i o hi
    exact ⟨a, b, c, d, ho, (upd_ne c).trans q1, q2.ext (pen_ext rp h)⟩
  inj := rp.inj
  fzh := fun a ha => by
    obtain ⟨o, q⟩ := rp.fzh a ha
    exact ⟨o, (upd_ne (show a ≠ A.pi from fun z => rp.fzp.1.1 (z ▸ ha))).trans q⟩
  hdh := fun a ha => by
    obtain ⟨o, q⟩ := rp.hdh a ha
    exact ⟨o, (upd_ne (show a ≠ A.pi from fun z => rp.fzp.2.1 (z ▸ ha))).trans q⟩
  hdf := rp.hdf
  fzp := rp.fzp
  pen := ⟨rp.pen.ne, ⟨at_, rest, upd_same, h0, h1⟩, by
    obtain ⟨ns, q1, q2⟩ := rp.pen.cells
    exact ⟨ns, (upd_ne rp.pen.ne.symm).trans q1, q2⟩⟩
theorem pen_tok {tk : Nat} (rp : Rep A e S H) (h : tk ≤ S.tk) : Rep A e (S.tok tk) H where
  ob := rp.ob
  inj := rp.inj
  fzh := rp.fzh
  hdh := rp.hdh
  hdf := rp.hdf
  fzp := rp.fzp
  pen := ⟨rp.pen.ne, by
    obtain ⟨a, r, q1, q2, q3⟩ := rp.pen.pen
    exact ⟨a, r, q1, q2, by show a + ((tk : Nat) : Int) ≤ 1000000000; omega⟩, rp.pen.cells⟩
end HQ
namespace HD
open PySem PySem.Spec PyProof.Rows L2 HQ
def ist_NoProgram : List (Nat × Bool) := [(1, false), (2, true), (3, false), (4, false), (5, false), (6, false), (7, false), (8, false), (9, false), (10, false), (11, false), (12, false), (13, false), (14, false), (15, false), (16, false), (17, false), (18, false)]
def ist_NoInputs : List (Nat × Bool) := [(1, false), (2, false), (3, true), (4, false), (5, false), (6, false), (7, false), (8, false), (9, false), (10, false), (11, false), (12, false), (13, false), (14, false), (15, false), (16, false), (17, false), (18, false)]
def ist_NoPlan : List (Nat × Bool) := [(1, false), (2, false), (3, false), (4, true), (5, false), (6, false), (7, false), (8, false), (9, false), (10, false), (11, false), (12, false), (13, false), (14, false), (15, false), (16, false), (17, false), (18, false)]
def ist_ValueError : List (Nat × Bool) := [(1, true), (2, true), (3, true), (4, true), (5, true), (6, true), (7, true), (8, true), (9, true), (10, true), (11, true), (12, true), (13, true), (14, true), (15, true), (16, true), (17, true), (18, true)]
def ist_NoBorrowed : List (Nat × Bool) := [(1, false), (2, false), (3, false), (4, false), (5, true), (6, false), (7, false), (8, false), (9, false), (10, false), (11, false), (12, false), (13, false), (14, false), (15, false), (16, false), (17, false), (18, false)]
def ist_NoUpdates : List (Nat × Bool) := [(1, false), (2, false), (3, false), (4, false), (5, false), (6, true), (7, false), (8, false), (9, false), (10, false), (11, false), (12, false), (13, false), (14, false), (15, false), (16, false), (17, false), (18, false)]
def ist_NoUpdate : List (Nat × Bool) := [(1, false), (2, false), (3, false), (4, false), (5, false), (6, false), (7, true), (8, false), (9, false), (10, false), (11, false), (12, false), (13, false), (14, false), (15, false), (16, false), (17, false), (18, false)]
def ist_NoPrices : List (Nat × Bool) := [(1, false), (2, false), (3, false), (4, false), (5, false), (6, false), (7, false), (8, true), (9, false), (10, false), (11, false), (12, false), (13, false), (14, false), (15, false), (16, false), (17, false), (18, false)]
def ist_NoWord : List (Nat × Bool) := [(1, false), (2, false), (3, false), (4, false), (5, false), (6, false), (7, false), (8, false), (9, true), (10, false), (11, false), (12, false), (13, false), (14, false), (15, false), (16, false), (17, false), (18, false)]
def ist_NoStarts : List (Nat × Bool) := [(1, false), (2, false), (3, false), (4, false), (5, false), (6, false), (7, false), (8, false), (9, false), (10, true), (11, false), (12, false), (13, false), (14, false), (15, false), (16, false), (17, false), (18, false)]
def ist_NoState : List (Nat × Bool) := [(1, false), (2, false), (3, false), (4, false), (5, false), (6, false), (7, false), (8, false), (9, false), (10, false), (11, true), (12, false), (13, false), (14, false), (15, false), (16, false), (17, false), (18, false)]
def ist_NoMove : List (Nat × Bool) := [(1, false), (2, false), (3, false), (4, false), (5, false), (6, false), (7, false), (8, false), (9, false), (10, false), (11, false), (12, true), (13, false), (14, false), (15, false), (16, false), (17, false), (18, false)]
def ist_NoNumber : List (Nat × Bool) := [(1, false), (2, false), (3, false), (4, false), (5, false), (6, false), (7, false), (8, false), (9, false), (10, false), (11, false), (12, false), (13, true), (14, false), (15, false), (16, false), (17, false), (18, false)]
def ist_NoRoom : List (Nat × Bool) := [(1, false), (2, false), (3, false), (4, false), (5, false), (6, false), (7, false), (8, false), (9, false), (10, false), (11, false), (12, false), (13, false), (14, true), (15, false), (16, false), (17, false), (18, false)]
def ist_NoPlans : List (Nat × Bool) := [(1, false), (2, false), (3, false), (4, false), (5, false), (6, false), (7, false), (8, false), (9, false), (10, false), (11, false), (12, false), (13, false), (14, false), (15, true), (16, false), (17, false), (18, false)]
def ist_NoChange : List (Nat × Bool) := [(1, false), (2, false), (3, false), (4, false), (5, false), (6, false), (7, false), (8, false), (9, false), (10, false), (11, false), (12, false), (13, false), (14, false), (15, false), (16, true), (17, false), (18, false)]
def ist_TooLong : List (Nat × Bool) := [(1, false), (2, false), (3, false), (4, false), (5, false), (6, false), (7, false), (8, false), (9, false), (10, false), (11, false), (12, false), (13, false), (14, false), (15, false), (16, false), (17, true), (18, false)]
def ist_TooMany : List (Nat × Bool) := [(1, false), (2, false), (3, false), (4, false), (5, false), (6, false), (7, false), (8, false), (9, false), (10, false), (11, false), (12, false), (13, false), (14, false), (15, false), (16, false), (17, false), (18, true)]
def ist_HeldError : List (Nat × Bool) := [(1, true), (2, true), (3, true), (4, true), (5, true), (6, true), (7, true), (8, true), (9, true), (10, true), (11, true), (12, true), (13, true), (14, true), (15, true), (16, true), (17, true), (18, true)]
def tab_SIZES : List (Nat × Int) := [(197397862708534489148911978414191, 3), (180260953059048978126930026, 2), (125365912928354, 3), (165946526289152770164, 2), (187964404235063894848962662, 2), (168712300651565023332, 3), (145225842819176, 4), (145225842819188, 5), (180232841752564374851045191516259, 2), (150734770399034343524, 4), (190531875587695143001649528045683, 2), (139671680396894273652, 3), (195062478685865452299112089494546153587, 3)]
def F_is_integer : Fn := runB 3 ((sRet (cAnd (cIsT [0] (cVar 0)) (cAnd (cNot (cIsT [1] (cVar 0))) (cChain (opV pLe) (opV pLe) (cVar 1) (cVar 0) (cVar 2))))))
def F_is_kind : Fn := runB 2 ((sSeq (sIf (bOr (bNot (cTru (cIsT [3] (cVar 0)))) (bOr (cBool (cBin (opV pNe) (cCB (o1 pLen) [(cVar 0)]) (cC (.int 2)))) (bNot (cTru (cCall F_is_integer [(cBin opIx (cVar 0) (cC (.int 0))), (cC (.int 1)), (cC (.int 3))])))))
 (sRet (cC (.bl false)))
 sPass)
 (sRet (cOr (cIsN (cBin opIx (cVar 0) (cC (.int 1)))) (cCall F_is_integer [(cBin opIx (cVar 0) (cC (.int 1))), (cC (.int 0)), (cBin (opV pSub) (cVar 1) (cC (.int 1)))])))))
def F_is_sort : Fn := runB 2 ((sRet (cOr (cIsN (cVar 1)) (cCall F_is_integer [(cVar 1), (cC (.int 0)), (cBin (opV pSub) (cCB (o1 pLen) [(cVar 0)]) (cC (.int 1)))]))))
def F_is_head : Fn := runB 7 ((sSeq (sIf (bOr (bNot (cTru (cIsT [3] (cVar 1)))) (bOr (cBool (cBin (opV pNe) (cCB (o1 pLen) [(cVar 1)]) (cC (.int 4)))) (bNot (cTru (cIsT [3] (cBin opIx (cVar 1) (cC (.int 1))))))))
 (sRet (cC (.bl false)))
 sPass)
 (sSeq (sAsg (Tg.gd (.tp [(.nm 2), (.nm 3), (.nm 4), (.nm 5)])) (cVar 1))
 (sSeq (sIf (bOr (bNot (cBool (cChain (opV pLe) (opV pLe) (cC (.int 1)) (cCB (o1 pLen) [(cVar 3)]) (cC (.int 6))))) (bNot (cTru (cCall F_is_integer [(cVar 2), (cC (.int 0)), (cCB (o1 pLen) [(cVar 3)])]))))
 (sRet (cC (.bl false)))
 sPass)
 (sSeq (sIf (bOr (bNot (cTru (cCB (o1 pAll) [(cLC (iSeq (cVar 3)) (.nm 6) [6] bYes (cCall F_is_sort [(cVar 0), (cVar 6)]))]))) (bNot (cTru (cCall F_is_sort [(cVar 0), (cVar 4)]))))
 (sRet (cC (.bl false)))
 sPass)
 (sRet (cAnd (cIsT [3] (cVar 5)) (cChain (opV pLe) (opV pLe) (cC (.int 1)) (cCB (o1 pLen) [(cVar 5)]) (cC (.int 8))))))))))
def F_Check_is_slot : Fn := runB 2 ((sRet (cCall F_is_integer [(cVar 1), (cC (.int 0)), (cBin (opV pSub) (cCB (o1 pLen) [(cFld [0] 178720261164380880839180404 (cVar 0))]) (cC (.int 1)))])))
def F_Check_is_of : Fn := runB 3 ((sRet (cAnd (cMeth 223748095261826596159580000325081497706 [(0, F_Check_is_slot)] (cVar 0) [(cVar 1)]) (cBin (opV pEq) (cBin opIx (cFld [0] 178720261164380880839180404 (cVar 0)) (cVar 1)) (cVar 2)))))
def F_Check_is_call : Fn := runB 8 ((sSeq (sIf (bOr (bNot (cTru (cCall F_is_integer [(cBin opIx (cVar 1) (cC (.int 2))), (cBin (opV pAdd) (cFld [0] 197397862708534489148911978414191 (cVar 0)) (cC (.int 1))), (cBin (opV pSub) (cCB (o1 pLen) [(cFld [0] 275352597855256826263601914127125713406693469454439 (cVar 0))]) (cC (.int 1)))]))) (bNot (cTru (cIsT [3] (cBin opIx (cVar 1) (cC (.int 3)))))))
 (sRet (cC (.bl false)))
 sPass)
 (sSeq (sAsg (Tg.gd (.tp [(.nm 2), (.nm 3), (.nm 4), (.nm 5)])) (cBin opIx (cFld [0] 275352597855256826263601914127125713406693469454439 (cVar 0)) (cBin opIx (cVar 1) (cC (.int 2)))))
 (sSeq (sIf (bOr (bNot (cTru (cMeth 158691277596784377034178666 [(0, F_Check_is_of)] (cVar 0) [(cBin opIx (cVar 1) (cC (.int 1))), (cVar 4)]))) (cBool (cBin (opV pNe) (cCB (o1 pLen) [(cBin opIx (cVar 1) (cC (.int 3)))]) (cVar 2))))
 (sRet (cC (.bl false)))
 sPass)
 (sRet (cCB (o1 pAll) [(cLC (iZp [(cBin opIx (cVar 1) (cC (.int 3))), (cVar 3)]) (.tp [(.nm 6), (.nm 7)]) [6, 7] bYes (cMeth 158691277596784377034178666 [(0, F_Check_is_of)] (cVar 0) [(cVar 6), (cVar 7)]))]))))))
def F_Check_is_block : Fn := runB 2 ((sRet (cAnd (cMeth 223748095261826596159580000325081497706 [(0, F_Check_is_slot)] (cVar 0) [(cVar 1)]) (cNotN (cBin opIx (cFld [0] 178720261164380880839180404 (cVar 0)) (cVar 1))))))
def F_Check_is_cell : Fn := runB 3 ((sRet (cAnd (cMeth 230105013135067179979517883518553741476495466 [(0, F_Check_is_block)] (cVar 0) [(cVar 1)]) (cCall F_is_integer [(cVar 2), (cC (.int 0)), (cBin (opV pSub) (cBin opIx (cBin opIx (cFld [0] 178720239038194670319042668 (cVar 0)) (cBin opIx (cFld [0] 178720261164380880839180404 (cVar 0)) (cVar 1))) (cC (.int 0))) (cC (.int 1)))]))))
def F_Check_child : Fn := runB 2 ((sRet (cBin opIx (cBin opIx (cFld [0] 178720239038194670319042668 (cVar 0)) (cBin opIx (cFld [0] 178720261164380880839180404 (cVar 0)) (cVar 1))) (cC (.int 1)))))
def F_Check_is_channel : Fn := runB 2 ((sRet (cCall F_is_integer [(cVar 1), (cC (.int 0)), (cBin (opV pSub) (cCB (o1 pLen) [(cFld [0] 247149831968453168993144598012652298410983524 (cVar 0))]) (cC (.int 1)))])))
def F_Check_is_block_right : Fn := runB 2 ((sSeq (sIf (cBool (cBin (opV pEq) (cBin opIx (cVar 1) (cC (.int 0))) (cC (.str 187964404235063894848962662))))
 (sRet (cMeth 230105013135067179979517883518553741476495466 [(0, F_Check_is_block)] (cVar 0) [(cBin opIx (cVar 1) (cC (.int 1)))]))
 sPass)
 (sSeq (sIf (cBool (cBin (opV pEq) (cBin opIx (cVar 1) (cC (.int 0))) (cC (.str 168712300651565023332))))
 (sRet (cAnd (cMeth 223748095261826596159580000325081497706 [(0, F_Check_is_slot)] (cVar 0) [(cBin opIx (cVar 1) (cC (.int 1)))]) (cMeth 158691277596784377034178666 [(0, F_Check_is_of)] (cVar 0) [(cBin opIx (cVar 1) (cC (.int 2))), (cBin opIx (cFld [0] 178720261164380880839180404 (cVar 0)) (cBin opIx (cVar 1) (cC (.int 1))))])))
 sPass)
 (sSeq (sIf (cBool (cBin (opV pEq) (cBin opIx (cVar 1) (cC (.int 0))) (cC (.str 145225842819176))))
 (sRet (cAnd (cMeth 208449088196860297458938056509083615338 [(0, F_Check_is_cell)] (cVar 0) [(cBin opIx (cVar 1) (cC (.int 2))), (cBin opIx (cVar 1) (cC (.int 3)))]) (cMeth 158691277596784377034178666 [(0, F_Check_is_of)] (cVar 0) [(cBin opIx (cVar 1) (cC (.int 1))), (cMeth 155609892424576516818010212 [(0, F_Check_child)] (cVar 0) [(cBin opIx (cVar 1) (cC (.int 2)))])])))
 sPass)
 (sSeq (sIf (cBool (cBin (opV pEq) (cBin opIx (cVar 1) (cC (.int 0))) (cC (.str 145225842819188))))
 (sSeq (sIf (bOr (bNot (cTru (cMeth 208449088196860297458938056509083615338 [(0, F_Check_is_cell)] (cVar 0) [(cBin opIx (cVar 1) (cC (.int 2))), (cBin opIx (cVar 1) (cC (.int 3)))]))) (bNot (cTru (cMeth 158691277596784377034178666 [(0, F_Check_is_of)] (cVar 0) [(cBin opIx (cVar 1) (cC (.int 1))), (cBin opIx (cFld [0] 178720261164380880839180404 (cVar 0)) (cBin opIx (cVar 1) (cC (.int 2))))]))))
 (sRet (cC (.bl false)))
 sPass)
 (sRet (cMeth 158691277596784377034178666 [(0, F_Check_is_of)] (cVar 0) [(cBin opIx (cVar 1) (cC (.int 4))), (cMeth 155609892424576516818010212 [(0, F_Check_child)] (cVar 0) [(cBin opIx (cVar 1) (cC (.int 2)))])])))
 sPass)
 (sSeq (sIf (cBool (cBin (opV pEq) (cBin opIx (cVar 1) (cC (.int 0))) (cC (.str 139671680396894273652))))
 (sRet (cAnd (cMeth 288261426016407577842228223850041484890053243113292693610 [(0, F_Check_is_channel)] (cVar 0) [(cBin opIx (cVar 1) (cC (.int 1)))]) (cMeth 158691277596784377034178666 [(0, F_Check_is_of)] (cVar 0) [(cBin opIx (cVar 1) (cC (.int 2))), (cBin opIx (cFld [0] 247149831968453168993144598012652298410983524 (cVar 0)) (cBin opIx (cVar 1) (cC (.int 1))))])))
 sPass)
 (sSeq (sIf (cBool (cBin (opV pEq) (cBin opIx (cVar 1) (cC (.int 0))) (cC (.str 195062478685865452299112089494546153587))))
 (sRet (cAnd (cMeth 288261426016407577842228223850041484890053243113292693610 [(0, F_Check_is_channel)] (cVar 0) [(cBin opIx (cVar 1) (cC (.int 2)))]) (cMeth 158691277596784377034178666 [(0, F_Check_is_of)] (cVar 0) [(cBin opIx (cVar 1) (cC (.int 1))), (cBin opIx (cFld [0] 247149831968453168993144598012652298410983524 (cVar 0)) (cBin opIx (cVar 1) (cC (.int 2))))])))
 sPass)
 (sRet (cMeth 208449088196854134696890935327241535594 [(0, F_Check_is_call)] (cVar 0) [(cVar 1)])))))))))
def F_Check_is_right : Fn := runB 2 ((sSeq (sIf (bOr (bNot (cTru (cIsT [3] (cVar 1)))) (bOr (cBool (cBin (opV pEq) (cVar 1) (cTup []))) (bOr (bNot (cTru (cIsT [2] (cBin opIx (cVar 1) (cC (.int 0)))))) (cBool (cInTab true tab_SIZES (cBin opIx (cVar 1) (cC (.int 0))))))))
 (sRet (cC (.bl false)))
 sPass)
 (sSeq (sIf (cBool (cBin (opV pNe) (cCB (o1 pLen) [(cVar 1)]) (cTab tab_SIZES (cBin opIx (cVar 1) (cC (.int 0))))))
 (sRet (cC (.bl false)))
 sPass)
 (sSeq (sIf (cBool (cBin (opIn false) (cBin opIx (cVar 1) (cC (.int 0))) (cTup [(cC (.str 197397862708534489148911978414191)), (cC (.str 125365912928354)), (cC (.str 180260953059048978126930026)), (cC (.str 165946526289152770164))])))
 (sRet (cAnd (cMeth 158691277596784377034178666 [(0, F_Check_is_of)] (cVar 0) [(cBin opIx (cVar 1) (cC (.int 1))), (cC .non)]) (cOr (cBin (opV pEq) (cCB (o1 pLen) [(cVar 1)]) (cC (.int 2))) (cCall F_is_integer [(cBin opIx (cVar 1) (cC (.int 2))), (cC (.int 0)), (cC (.int 65535))]))))
 sPass)
 (sSeq (sIf (cBool (cBin (opV pEq) (cBin opIx (cVar 1) (cC (.int 0))) (cC (.str 180232841752564374851045191516259))))
 (sRet (cCall F_is_integer [(cBin opIx (cVar 1) (cC (.int 1))), (cC (.int 0)), (cCB (o1 pLen) [(cBin opIx (cBin opIx (cFld [0] 275352597855256826263601914127125713406693469454439 (cVar 0)) (cFld [0] 197397862708534489148911978414191 (cVar 0))) (cC (.int 3)))])]))
 sPass)
 (sSeq (sIf (cBool (cBin (opV pEq) (cBin opIx (cVar 1) (cC (.int 0))) (cC (.str 190531875587695143001649528045683))))
 (sRet (cMeth 158691277596784377034178666 [(0, F_Check_is_of)] (cVar 0) [(cBin opIx (cVar 1) (cC (.int 1))), (cBin opIx (cBin opIx (cFld [0] 275352597855256826263601914127125713406693469454439 (cVar 0)) (cFld [0] 197397862708534489148911978414191 (cVar 0))) (cC (.int 2)))]))
 sPass)
 (sRet (cMeth 476717711530231409829720675816683625992967853622984258149007437635494732824313962 [(0, F_Check_is_block_right)] (cVar 0) [(cVar 1)]))))))))
def F_Check___init__ : Fn := runB 3 ((sSeq (sFldP [0] 178720239038194670319042668 (cBin opIx (cVar 1) (cC (.int 0))) (cVar 0))
 (sSeq (sFldP [0] 247149831968453168993144598012652298410983524 (cBin opIx (cVar 1) (cC (.int 1))) (cVar 0))
 (sSeq (sFldP [0] 275352597855256826263601914127125713406693469454439 (cBin opIx (cVar 1) (cC (.int 2))) (cVar 0))
 (sSeq (sFldP [0] 197397862708534489148911978414191 (cVar 2) (cVar 0))
 (sFldP [0] 178720261164380880839180404 (cBin opIx (cBin opIx (cBin opIx (cVar 1) (cC (.int 2))) (cVar 2)) (cC (.int 1))) (cVar 0)))))))
def F_is_program : Fn := runB 8 ((sSeq (sIf (bOr (bNot (cTru (cIsT [3] (cVar 0)))) (bOr (cBool (cBin (opV pNe) (cCB (o1 pLen) [(cVar 0)]) (cC (.int 3)))) (bNot (cTru (cCB (o1 pAll) [(cLC (iSeq (cVar 0)) (.nm 6) [6] bYes (cIsT [3] (cVar 6)))])))))
 (sRet (cC (.bl false)))
 sPass)
 (sSeq (sAsg (Tg.gd (.tp [(.nm 1), (.nm 2), (.nm 3)])) (cVar 0))
 (sSeq (sIf (bOr (bNot (cBool (cChain (opV pLe) (opV pLe) (cC (.int 1)) (cCB (o1 pLen) [(cVar 1)]) (cC (.int 3))))) (bNot (cTru (cCB (o1 pAll) [(cLC (iEn (cVar 1)) (.tp [(.nm 4), (.nm 7)]) [4, 7] bYes (cCall F_is_kind [(cVar 7), (cVar 4)]))]))))
 (sRet (cC (.bl false)))
 sPass)
 (sSeq (sIf (bOr (cBool (cBin (opV pGt) (cCB (o1 pLen) [(cVar 2)]) (cC (.int 2)))) (bNot (cTru (cCB (o1 pAll) [(cLC (iSeq (cVar 2)) (.nm 7) [7] bYes (cCall F_is_integer [(cVar 7), (cC (.int 0)), (cBin (opV pSub) (cCB (o1 pLen) [(cVar 1)]) (cC (.int 1)))]))]))))
 (sRet (cC (.bl false)))
 sPass)
 (sSeq (sIf (bOr (bNot (cBool (cChain (opV pLe) (opV pLe) (cC (.int 1)) (cCB (o1 pLen) [(cVar 3)]) (cC (.int 4))))) (bNot (cTru (cCB (o1 pAll) [(cLC (iSeq (cVar 3)) (.nm 7) [7] bYes (cCall F_is_head [(cVar 1), (cVar 7)]))]))))
 (sRet (cC (.bl false)))
 sPass)
 (sSeq (sIf (cBool (cBin (opV pNe) (cBin opIx (cBin opIx (cVar 3) (cC (.int 0))) (cC (.int 0))) (cC (.int 0))))
 (sRet (cC (.bl false)))
 sPass)
 (sSeq (sFor (iEn (cVar 3)) (.tp [(.nm 4), (.nm 5)])
 (sIf (bNot (cTru (cCB (o1 pAll) [(cLC (iSeq (cBin opIx (cVar 5) (cC (.int 3)))) (.nm 7) [7] bYes (cMeth 249280424521708894157315281312286124767707242 [(0, F_Check_is_right)] (cMake 0 F_Check___init__ [(cVar 0), (cVar 4)]) [(cVar 7)]))])))
 (sRet (cC (.bl false)))
 sPass))
 (sRet (cC (.bl true)))))))))))
def F__law_spread : Fn := runB 6 ((sSeq (sIf (cBool (cBin (opV pGe) (cVar 0) (cBin (opV pPow) (cC (.int 10)) (cC (.int 18)))))
 (sRet (cVar 0))
 sPass)
 (sSeq (sAsg (gN 2) (cLst [(cC (.int 2147483629)), (cC (.int 2147483587)), (cC (.int 2147483579)), (cC (.int 2147483563)), (cC (.int 2147483549)), (cC (.int 2147483543)), (cC (.int 2147483497)), (cC (.int 2147483489))]))
 (sSeq (sAsg (gN 2) (cBin (opV pAdd) (cVar 2) (cLst [(cC (.int 2147483477)), (cC (.int 2147483423)), (cC (.int 2147483399)), (cC (.int 2147483353)), (cC (.int 2147483323))])))
 (sSeq (sAsg (gN 3) (cBin (opV pAdd) (cBin (opV pAdd) (cBin (opV pMul) (cBin (opV pMod) (cCB (o1 pToInt) [(cVar 0)]) (cC (.int 1000000007))) (cBin (opV pAdd) (cBin (opV pMul) (cC (.int 2)) (cVar 1)) (cC (.int 69069)))) (cBin (opV pMul) (cVar 1) (cC (.int 40503)))) (cC (.int 977))))
 (sSeq (sAsg (gN 3) (cBin (opV pMod) (cCB (o1 pToInt) [(cBin (opV pPow) (cVar 3) (cC (.int 3)))]) (cBin opIx (cVar 2) (cBin (opV pMod) (cCB (o1 pToInt) [(cVar 1)]) (cC (.int 13))))))
 (sSeq (sAsg (gN 4) (cBin (opV pMod) (cCB (o1 pToInt) [(cBin (opV pPow) (cBin (opV pAdd) (cBin (opV pAdd) (cBin (opV pMul) (cVar 3) (cBin (opV pAdd) (cVar 1) (cC (.int 3)))) (cBin (opV pMod) (cCB (o1 pToInt) [(cVar 0)]) (cC (.int 65537)))) (cC (.int 5))) (cC (.int 5)))]) (cBin opIx (cVar 2) (cBin (opV pMod) (cCB (o1 pToInt) [(cBin (opV pAdd) (cVar 1) (cC (.int 5)))]) (cC (.int 13))))))
 (sSeq (sAsg (gN 5) (cBin (opV pMod) (cCB (o1 pToInt) [(cBin (opV pPow) (cBin (opV pAdd) (cBin (opV pAdd) (cVar 4) (cBin (opV pMod) (cCB (o1 pToInt) [(cVar 3)]) (cC (.int 1009)))) (cVar 1)) (cC (.int 3)))]) (cBin opIx (cVar 2) (cBin (opV pMod) (cCB (o1 pToInt) [(cBin (opV pAdd) (cVar 1) (cC (.int 7)))]) (cC (.int 13))))))
 (sRet (cBin (opV pAdd) (cBin (opV pMul) (cBin (opV pAdd) (cBin (opV pMul) (cVar 3) (cC (.int 2147483647))) (cVar 4)) (cC (.int 2147483647))) (cVar 5)))))))))))
def F__law_one_each : Fn := runB 2 ((sSeq (sAsg (gN 1) (cLst [(cExc 2 (cVar 0)), (cExc 3 (cVar 0)), (cExc 4 (cVar 0)), (cExc 5 (cVar 0)), (cExc 6 (cVar 0)), (cExc 7 (cVar 0))]))
 (sSeq (sAsg (gN 1) (cBin (opV pAdd) (cVar 1) (cLst [(cExc 8 (cVar 0)), (cExc 9 (cVar 0)), (cExc 10 (cVar 0)), (cExc 11 (cVar 0)), (cExc 12 (cVar 0)), (cExc 13 (cVar 0))])))
 (sRet (cBin (opV pAdd) (cVar 1) (cLst [(cExc 14 (cVar 0)), (cExc 15 (cVar 0)), (cExc 16 (cVar 0)), (cExc 17 (cVar 0)), (cExc 18 (cVar 0))]))))))
def F__law_kinds : Fn := runB 2 ((sSeq (sAsg (gN 1) (cLst [(cIsE (isTab ist_NoProgram) (cVar 0)), (cIsE (isTab ist_NoInputs) (cVar 0)), (cIsE (isTab ist_NoPlan) (cVar 0))]))
 (sSeq (sAsg (gN 1) (cBin (opV pAdd) (cVar 1) (cLst [(cIsE (isTab ist_NoBorrowed) (cVar 0)), (cIsE (isTab ist_NoUpdates) (cVar 0)), (cIsE (isTab ist_NoUpdate) (cVar 0))])))
 (sSeq (sAsg (gN 1) (cBin (opV pAdd) (cVar 1) (cLst [(cIsE (isTab ist_NoPrices) (cVar 0)), (cIsE (isTab ist_NoWord) (cVar 0)), (cIsE (isTab ist_NoStarts) (cVar 0))])))
 (sSeq (sAsg (gN 1) (cBin (opV pAdd) (cVar 1) (cLst [(cIsE (isTab ist_NoState) (cVar 0)), (cIsE (isTab ist_NoMove) (cVar 0)), (cIsE (isTab ist_NoNumber) (cVar 0))])))
 (sSeq (sAsg (gN 1) (cBin (opV pAdd) (cVar 1) (cLst [(cIsE (isTab ist_NoRoom) (cVar 0)), (cIsE (isTab ist_NoPlans) (cVar 0)), (cIsE (isTab ist_NoChange) (cVar 0))])))
 (sRet (cBin (opV pAdd) (cVar 1) (cLst [(cIsE (isTab ist_TooLong) (cVar 0)), (cIsE (isTab ist_TooMany) (cVar 0))])))))))))
def law_rest : SDen := (sSeq (sAsg (gN 2) (cLC (iRg [(cC (.int 2))]) (.nm 4) [4] bYes (cCall F__law_one_each [(cBin opIx (cLst [(cC (.str 0)), (cC (.str 126607169618032)), (cC (.str 275352576549260535867120289531258679313641124659317))]) (cCall F__law_take [(cVar 1), (cC (.int 3))]))])))
 (sSeq (sFor (iSeq (cVar 2)) (.nm 3)
 (sFor (iEn (cVar 3)) (.tp [(.nm 5), (.nm 6)])
 (sSeq (sIf (bOr (bNot (cTru (cIsE (isTab ist_HeldError) (cVar 6)))) (bNot (cTru (cIsE (isTab ist_ValueError) (cVar 6)))))
 (sRet (cC (.bl false)))
 sPass)
 (sIf (cBool (cBin (opV pNe) (cCall F__law_kinds [(cVar 6)]) (cLC (iRg [(cC (.int 17))]) (.nm 7) [7] bYes (cBin (opV pEq) (cVar 7) (cVar 5)))))
 (sRet (cC (.bl false)))
 sPass))))
 (sSeq (sIf (cBool (cBin (opV pNotB) (cCall F_is_program [(cBin opIx (cLst [(cC .non), (cTup []), (cC (.str 161797877778621005941)), (cLst [(cC (.int 0))])]) (cCall F__law_take [(cVar 1), (cC (.int 4))]))]) (cC (.bl false))))
 (sRet (cC (.bl false)))
 sPass)
 (sRet (cAnd (cIsE (isTab ist_ValueError) (cExc 1 (cC (.str 161797877778621005941)))) (cBin (opIn true) (cC (.bl true)) (cCall F__law_kinds [(cExc 1 (cC (.str 161797877778621005941)))])))))))
end HD
namespace HD
open PySem PySem.Spec PyProof.Rows L2 HQ
def top (i : Nat) : Stmt := PySem.Challenge.pw_heldalone_k02_errors_by_hand.main.body.getD i (.Pass ⟨0, 0, 0, 0⟩)
def inCls : Stmt → List Stmt
  | .ClassDef _ _ _ b .. => b
  | _ => []
def mem (i j : Nat) : Stmt := (inCls (top i)).getD j (.Pass ⟨0, 0, 0, 0⟩)
def clK (K : PySem.W.Frag) : Nat → Addr
  | 0 => He.ga K "Check"
  | 1 => He.ga K "HeldError"
  | 2 => He.ga K "NoProgram"
  | 3 => He.ga K "NoInputs"
  | 4 => He.ga K "NoPlan"
  | 5 => He.ga K "NoBorrowed"
  | 6 => He.ga K "NoUpdates"
  | 7 => He.ga K "NoUpdate"
  | 8 => He.ga K "NoPrices"
  | 9 => He.ga K "NoWord"
  | 10 => He.ga K "NoStarts"
  | 11 => He.ga K "NoState"
  | 12 => He.ga K "NoMove"
  | 13 => He.ga K "NoNumber"
  | 14 => He.ga K "NoRoom"
  | 15 => He.ga K "NoPlans"
  | 16 => He.ga K "NoChange"
  | 17 => He.ga K "TooLong"
  | 18 => He.ga K "TooMany"
  | _ => 0
abbrev bm (K : PySem.W.Frag) (pi ga : Addr) : Bm := ⟨clK K, pi, ga⟩
structure Tp (P : Program) (w : World) (K : PySem.W.Frag) (mg : Str → Option Value) : Prop where
  d_is_integer : DefR K (top 28) "is_integer" "is_integer" ["thing", "least", "most"] (He.ga K "is_integer")
  g_is_integer : mg "is_integer" = some (.ref (He.ga K "is_integer"))
  d_is_kind : DefR K (top 29) "is_kind" "is_kind" ["thing", "number"] (He.ga K "is_kind")
  g_is_kind : mg "is_kind" = some (.ref (He.ga K "is_kind"))
  d_is_sort : DefR K (top 30) "is_sort" "is_sort" ["kinds", "thing"] (He.ga K "is_sort")
  g_is_sort : mg "is_sort" = some (.ref (He.ga K "is_sort"))
  d_is_head : DefR K (top 31) "is_head" "is_head" ["kinds", "thing"] (He.ga K "is_head")
  g_is_head : mg "is_head" = some (.ref (He.ga K "is_head"))
  d_is_program : DefR K (top 32) "is_program" "is_program" ["thing"] (He.ga K "is_program")
  g_is_program : mg "is_program" = some (.ref (He.ga K "is_program"))
  d__law_open : DefR K (top 35) "_law_open" "_law_open" ["_law_script"] (He.ga K "_law_open")
  g__law_open : mg "_law_open" = some (.ref (He.ga K "_law_open"))
  d__law_spread : DefR K (top 36) "_law_spread" "_law_spread" ["_law_cell", "_law_at"] (He.ga K "_law_spread")
  g__law_spread : mg "_law_spread" = some (.ref (He.ga K "_law_spread"))
  d__law_take : DefR K (top 37) "_law_take" "_law_take" ["_law_pen", "_law_amount"] (He.ga K "_law_take")
  g__law_take : mg "_law_take" = some (.ref (He.ga K "_law_take"))
  d__law_one_each : DefR K (top 38) "_law_one_each" "_law_one_each" ["_law_text"] (He.ga K "_law_one_each")
  g__law_one_each : mg "_law_one_each" = some (.ref (He.ga K "_law_one_each"))
  d__law_kinds : DefR K (top 39) "_law_kinds" "_law_kinds" ["_law_error"] (He.ga K "_law_kinds")
  g__law_kinds : mg "_law_kinds" = some (.ref (He.ga K "_law_kinds"))
  d_law : DefR K (top 40) "law" "law" ["_law_script"] (He.ga K "law")
  g_law : mg "law" = some (.ref (He.ga K "law"))
  d_Check___init__ : DefR K (mem 33 0) "__init__" "Check.__init__" ["self", "program", "number"] (He.ma K (He.ga K "Check") "__init__")
  d_Check_is_right : DefR K (mem 33 1) "is_right" "Check.is_right" ["self", "thing"] (He.ma K (He.ga K "Check") "is_right")
  m_Check_is_right : Meth K (clK K 0) "is_right" (He.ma K (He.ga K "Check") "is_right")
  d_Check_is_block_right : DefR K (mem 33 2) "is_block_right" "Check.is_block_right" ["self", "thing"] (He.ma K (He.ga K "Check") "is_block_right")
  m_Check_is_block_right : Meth K (clK K 0) "is_block_right" (He.ma K (He.ga K "Check") "is_block_right")
  d_Check_is_call : DefR K (mem 33 3) "is_call" "Check.is_call" ["self", "thing"] (He.ma K (He.ga K "Check") "is_call")
  m_Check_is_call : Meth K (clK K 0) "is_call" (He.ma K (He.ga K "Check") "is_call")
  d_Check_is_slot : DefR K (mem 33 4) "is_slot" "Check.is_slot" ["self", "thing"] (He.ma K (He.ga K "Check") "is_slot")
  m_Check_is_slot : Meth K (clK K 0) "is_slot" (He.ma K (He.ga K "Check") "is_slot")
  d_Check_is_of : DefR K (mem 33 5) "is_of" "Check.is_of" ["self", "thing", "kind"] (He.ma K (He.ga K "Check") "is_of")
  m_Check_is_of : Meth K (clK K 0) "is_of" (He.ma K (He.ga K "Check") "is_of")
  d_Check_is_block : DefR K (mem 33 6) "is_block" "Check.is_block" ["self", "thing"] (He.ma K (He.ga K "Check") "is_block")
  m_Check_is_block : Meth K (clK K 0) "is_block" (He.ma K (He.ga K "Check") "is_block")
  d_Check_is_cell : DefR K (mem 33 7) "is_cell" "Check.is_cell" ["self", "slot", "cell"] (He.ma K (He.ga K "Check") "is_cell")
  m_Check_is_cell : Meth K (clK K 0) "is_cell" (He.ma K (He.ga K "Check") "is_cell")
  d_Check_child : DefR K (mem 33 8) "child" "Check.child" ["self", "slot"] (He.ma K (He.ga K "Check") "child")
  m_Check_child : Meth K (clK K 0) "child" (He.ma K (He.ga K "Check") "child")
  d_Check_is_channel : DefR K (mem 33 9) "is_channel" "Check.is_channel" ["self", "thing"] (He.ma K (He.ga K "Check") "is_channel")
  m_Check_is_channel : Meth K (clK K 0) "is_channel" (He.ma K (He.ga K "Check") "is_channel")
  g_Check : mg "Check" = some (.ref (clK K 0))
  c_Check : Cls K (clK K 0)
  m_Check : Mk K (clK K 0) (He.ma K (He.ga K "Check") "__init__")
  k_Check : PySem.W.keepIn K (.ref (clK K 0)) = true
  g_HeldError : mg "HeldError" = some (.ref (clK K 1))
  e_HeldError : ExK K (clK K 1)
  g_NoProgram : mg "NoProgram" = some (.ref (clK K 2))
  e_NoProgram : ExK K (clK K 2)
  g_NoInputs : mg "NoInputs" = some (.ref (clK K 3))
  e_NoInputs : ExK K (clK K 3)
  g_NoPlan : mg "NoPlan" = some (.ref (clK K 4))
  e_NoPlan : ExK K (clK K 4)
  g_NoBorrowed : mg "NoBorrowed" = some (.ref (clK K 5))
  e_NoBorrowed : ExK K (clK K 5)
  g_NoUpdates : mg "NoUpdates" = some (.ref (clK K 6))
  e_NoUpdates : ExK K (clK K 6)
  g_NoUpdate : mg "NoUpdate" = some (.ref (clK K 7))
  e_NoUpdate : ExK K (clK K 7)
  g_NoPrices : mg "NoPrices" = some (.ref (clK K 8))
  e_NoPrices : ExK K (clK K 8)
  g_NoWord : mg "NoWord" = some (.ref (clK K 9))
  e_NoWord : ExK K (clK K 9)
  g_NoStarts : mg "NoStarts" = some (.ref (clK K 10))
  e_NoStarts : ExK K (clK K 10)
  g_NoState : mg "NoState" = some (.ref (clK K 11))
  e_NoState : ExK K (clK K 11)
  g_NoMove : mg "NoMove" = some (.ref (clK K 12))
  e_NoMove : ExK K (clK K 12)
  g_NoNumber : mg "NoNumber" = some (.ref (clK K 13))
  e_NoNumber : ExK K (clK K 13)
  g_NoRoom : mg "NoRoom" = some (.ref (clK K 14))
  e_NoRoom : ExK K (clK K 14)
  g_NoPlans : mg "NoPlans" = some (.ref (clK K 15))
  e_NoPlans : ExK K (clK K 15)
  g_NoChange : mg "NoChange" = some (.ref (clK K 16))
  e_NoChange : ExK K (clK K 16)
  g_TooLong : mg "TooLong" = some (.ref (clK K 17))
  e_TooLong : ExK K (clK K 17)
  g_TooMany : mg "TooMany" = some (.ref (clK K 18))
  e_TooMany : ExK K (clK K 18)
  s_NoProgram : IsK K (clK K) (.ref (clK K 2)) (isTab ist_NoProgram)
  s_NoInputs : IsK K (clK K) (.ref (clK K 3)) (isTab ist_NoInputs)
  s_NoPlan : IsK K (clK K) (.ref (clK K 4)) (isTab ist_NoPlan)
  s_ValueError : IsK K (clK K) (.type "ValueError") (isTab ist_ValueError)
  s_NoBorrowed : IsK K (clK K) (.ref (clK K 5)) (isTab ist_NoBorrowed)
  s_NoUpdates : IsK K (clK K) (.ref (clK K 6)) (isTab ist_NoUpdates)
  s_NoUpdate : IsK K (clK K) (.ref (clK K 7)) (isTab ist_NoUpdate)
  s_NoPrices : IsK K (clK K) (.ref (clK K 8)) (isTab ist_NoPrices)
  s_NoWord : IsK K (clK K) (.ref (clK K 9)) (isTab ist_NoWord)
  s_NoStarts : IsK K (clK K) (.ref (clK K 10)) (isTab ist_NoStarts)
  s_NoState : IsK K (clK K) (.ref (clK K 11)) (isTab ist_NoState)
  s_NoMove : IsK K (clK K) (.ref (clK K 12)) (isTab ist_NoMove)
  s_NoNumber : IsK K (clK K) (.ref (clK K 13)) (isTab ist_NoNumber)
  s_NoRoom : IsK K (clK K) (.ref (clK K 14)) (isTab ist_NoRoom)
  s_NoPlans : IsK K (clK K) (.ref (clK K 15)) (isTab ist_NoPlans)
  s_NoChange : IsK K (clK K) (.ref (clK K 16)) (isTab ist_NoChange)
  s_TooLong : IsK K (clK K) (.ref (clK K 17)) (isTab ist_TooLong)
  s_TooMany : IsK K (clK K) (.ref (clK K 18)) (isTab ist_TooMany)
  s_HeldError : IsK K (clK K) (.ref (clK K 1)) (isTab ist_HeldError)
  h_kinds : HasK K (clK K) [0] "kinds"
  h_channels : HasK K (clK K) [0] "channels"
  h_functions : HasK K (clK K) [0] "functions"
  h_number : HasK K (clK K) [0] "number"
  h_slots : HasK K (clK K) [0] "slots"
  i_MOST_NUMBER : ∃ t, mg "MOST_NUMBER" = some (.int 65535 t)
  i_MOST_KINDS : ∃ t, mg "MOST_KINDS" = some (.int 3 t)
  i_MOST_CELLS : ∃ t, mg "MOST_CELLS" = some (.int 3 t)
  i_MOST_CHANNELS : ∃ t, mg "MOST_CHANNELS" = some (.int 2 t)
  i_MOST_FUNCTIONS : ∃ t, mg "MOST_FUNCTIONS" = some (.int 4 t)
  i_MOST_SLOTS : ∃ t, mg "MOST_SLOTS" = some (.int 6 t)
  i_MOST_BODY : ∃ t, mg "MOST_BODY" = some (.int 8 t)
  f_ValueError : mg "ValueError" = none
  f_all : mg "all" = none
  f_bool : mg "bool" = none
  f_enumerate : mg "enumerate" = none
  f_int : mg "int" = none
  f_isinstance : mg "isinstance" = none
  f_len : mg "len" = none
  f_list : mg "list" = none
  f_range : mg "range" = none
  f_str : mg "str" = none
  f_tuple : mg "tuple" = none
  f_zip : mg "zip" = none
  g_SIZES : mg "SIZES" = some (.ref (He.ga K "SIZES"))
  t_SIZES : TabR K w (He.ga K "SIZES") tab_SIZES
  sm : SmR K
variable {P : Program} {w : World} {K : PySem.W.Frag} {mg : Str → Option Value} {base : Heap} {pi ga : Addr}
abbrev st_is_integer : Stmt := (top 28)
theorem sc_is_integer : FnScope ["thing", "least", "most"] ["thing", "least", "most"] (defScope st_is_integer) := ⟨rfl, rfl, rfl, by decide +kernel, rfl, by decide +kernel, by decide +kernel⟩
theorem l_is_integer (T : Tp P w K mg) : FnC P w K mg base (bm K pi ga) 1 (He.ga K "is_integer") 3 F_is_integer :=
 (T.d_is_integer).c (N := ["thing", "least", "most"]) (n := 3) (b := _) sc_is_integer rfl fun X Wx d => (sb_one (ss_ret (se_and (se_isT 0 (d.gl (by decide +kernel)) (d.fre T.f_isinstance) (d.gl (by decide +kernel)) (d.fre T.f_int) (d.v 0 (by decide +kernel))) (se_and (se_not (se_isT 1 (d.gl (by decide +kernel)) (d.fre T.f_isinstance) (d.gl (by decide +kernel)) (d.fre T.f_bool) (d.v 0 (by decide +kernel)))) (se_one (se_leLe (d.v 1 (by decide +kernel)) (d.v 0 (by decide +kernel)) (d.v 2 (by decide +kernel))))))))
abbrev st_is_kind : Stmt := (top 29)
theorem sc_is_kind : FnScope ["thing", "number"] ["thing", "number"] (defScope st_is_kind) := ⟨rfl, rfl, rfl, by decide +kernel, rfl, by decide +kernel, by decide +kernel⟩
theorem l_is_kind (T : Tp P w K mg) : FnC P w K mg base (bm K pi ga) 2 (He.ga K "is_kind") 2 F_is_kind :=
 (T.d_is_kind).c (N := ["thing", "number"]) (n := 2) (b := _) sc_is_kind rfl fun X Wx d => (sb_cons (ss_if (SW.st (sw_or (st_not (st_tru (se_isT 3 (d.gl (by decide +kernel)) (d.fre T.f_isinstance) (d.gl (by decide +kernel)) (d.fre T.f_tuple) (d.v 0 (by decide +kernel))))) (sw_or (st_ne d.room (se_len (d.gl (by decide +kernel)) (d.fre T.f_len) (sa_cons (d.v 0 (by decide +kernel)) sa_nil)) se_int) (sw_or1 (st_not (st_tru (se_call d.fr d.takes (d.cal (l_is_integer T) (by decide)) (d.at T.g_is_integer) (sa_cons (se_ix d.room (d.v 0 (by decide +kernel)) se_int) (sa_cons se_int (sa_cons (d.num T.i_MOST_CELLS (by decide +kernel)) sa_nil))))))))))
 (sb_one (ss_ret se_bl))
 sb_nil)
 (sb_one (ss_ret (se_or (se_isN (se_ix d.room (d.v 0 (by decide +kernel)) se_int)) (se_one (se_call d.fr d.takes (d.cal (l_is_integer T) (by decide)) (d.at T.g_is_integer) (sa_cons (se_ix d.room (d.v 0 (by decide +kernel)) se_int) (sa_cons se_int (sa_cons (se_sub (d.v 1 (by decide +kernel)) se_int) sa_nil)))))))))
abbrev st_is_sort : Stmt := (top 30)
theorem sc_is_sort : FnScope ["kinds", "thing"] ["kinds", "thing"] (defScope st_is_sort) := ⟨rfl, rfl, rfl, by decide +kernel, rfl, by decide +kernel, by decide +kernel⟩
theorem l_is_sort (T : Tp P w K mg) : FnC P w K mg base (bm K pi ga) 2 (He.ga K "is_sort") 2 F_is_sort :=
 (T.d_is_sort).c (N := ["kinds", "thing"]) (n := 2) (b := _) sc_is_sort rfl fun X Wx d => (sb_one (ss_ret (se_or (se_isN (d.v 1 (by decide +kernel))) (se_one (se_call d.fr d.takes (d.cal (l_is_integer T) (by decide)) (d.at T.g_is_integer) (sa_cons (d.v 1 (by decide +kernel)) (sa_cons se_int (sa_cons (se_sub (se_len (d.gl (by decide +kernel)) (d.fre T.f_len) (sa_cons (d.v 0 (by decide +kernel)) sa_nil)) se_int) sa_nil))))))))
abbrev st_is_head : Stmt := (top 31)
theorem sc_is_head : FnScope ["kinds", "thing", "parameters", "slots", "result", "body", "one"] ["kinds", "thing"] (defScope st_is_head) := ⟨rfl, rfl, rfl, by decide +kernel, rfl, by decide +kernel, by decide +kernel⟩
theorem l_is_head (T : Tp P w K mg) : FnC P w K mg base (bm K pi ga) 3 (He.ga K "is_head") 2 F_is_head :=
 (T.d_is_head).c (N := ["kinds", "thing", "parameters", "slots", "result", "body", "one"]) (n := 2) (b := _) sc_is_head rfl fun X Wx d => (sb_cons (ss_if (SW.st (sw_or (st_not (st_tru (se_isT 3 (d.gl (by decide +kernel)) (d.fre T.f_isinstance) (d.gl (by decide +kernel)) (d.fre T.f_tuple) (d.v 1 (by decide +kernel))))) (sw_or (st_ne d.room (se_len (d.gl (by decide +kernel)) (d.fre T.f_len) (sa_cons (d.v 1 (by decide +kernel)) sa_nil)) se_int) (sw_or1 (st_not (st_tru (se_isT 3 (d.gl (by decide +kernel)) (d.fre T.f_isinstance) (d.gl (by decide +kernel)) (d.fre T.f_tuple) (se_ix d.room (d.v 1 (by decide +kernel)) se_int))))))))
 (sb_one (ss_ret se_bl))
 sb_nil)
 (sb_cons (ss_asg (d.v 1 (by decide +kernel)) (STg.sg (g := (.tp [(.nm 2), (.nm 3), (.nm 4), (.nm 5)])) (stg_tup d.calm (stgs_cons (d.nm 2 (by decide +kernel)) (stgs_cons (d.nm 3 (by decide +kernel)) (stgs_cons (d.nm 4 (by decide +kernel)) (stgs_cons (d.nm 5 (by decide +kernel)) stgs_nil)))))))
 (sb_cons (ss_if (SW.st (sw_or (st_not (st_leLe se_int (se_len (d.gl (by decide +kernel)) (d.fre T.f_len) (sa_cons (d.v 3 (by decide +kernel)) sa_nil)) (d.num T.i_MOST_SLOTS (by decide +kernel)))) (sw_or1 (st_not (st_tru (se_call d.fr d.takes (d.cal (l_is_integer T) (by decide)) (d.at T.g_is_integer) (sa_cons (d.v 2 (by decide +kernel)) (sa_cons se_int (sa_cons (se_len (d.gl (by decide +kernel)) (d.fre T.f_len) (sa_cons (d.v 3 (by decide +kernel)) sa_nil)) sa_nil)))))))))
 (sb_one (ss_ret se_bl))
 sb_nil)
 (sb_cons (ss_if (SW.st (sw_or (st_not (st_tru (se_all d.calm (d.gl (by decide +kernel)) (d.fre T.f_all) (sa_cons (d.toBd.lc [("one", 6)] (si_seq (d.v 3 (by decide +kernel))) (by decide +kernel) (fun _ b1 => (b1.nm 6 (by decide +kernel))) (fun _ b1 => (se_call b1.fr b1.takes (b1.cal (l_is_sort T) (by decide)) (b1.at T.g_is_sort) (sa_cons (b1.v 0 (by decide +kernel)) (sa_cons (b1.v 6 (by decide +kernel)) sa_nil))))) sa_nil)))) (sw_or1 (st_not (st_tru (se_call d.fr d.takes (d.cal (l_is_sort T) (by decide)) (d.at T.g_is_sort) (sa_cons (d.v 0 (by decide +kernel)) (sa_cons (d.v 4 (by decide +kernel)) sa_nil))))))))
 (sb_one (ss_ret se_bl))
 sb_nil)
 (sb_one (ss_ret (se_and (se_isT 3 (d.gl (by decide +kernel)) (d.fre T.f_isinstance) (d.gl (by decide +kernel)) (d.fre T.f_tuple) (d.v 5 (by decide +kernel))) (se_one (se_leLe se_int (se_len (d.gl (by decide +kernel)) (d.fre T.f_len) (sa_cons (d.v 5 (by decide +kernel)) sa_nil)) (d.num T.i_MOST_BODY (by decide +kernel)))))))))))
abbrev st_Check_is_slot : Stmt := (mem 33 4)
theorem sc_Check_is_slot : FnScope ["self", "thing"] ["self", "thing"] (defScope st_Check_is_slot) := ⟨rfl, rfl, rfl, by decide +kernel, rfl, by decide +kernel, by decide +kernel⟩
theorem l_Check_is_slot (T : Tp P w K mg) : FnC P w K mg base (bm K pi ga) 2 (He.ma K (He.ga K "Check") "is_slot") 2 F_Check_is_slot :=
 (T.d_Check_is_slot).c (N := ["self", "thing"]) (n := 2) (b := _) sc_Check_is_slot rfl fun X Wx d => (sb_one (ss_ret (se_call d.fr d.takes (d.cal (l_is_integer T) (by decide)) (d.at T.g_is_integer) (sa_cons (d.v 1 (by decide +kernel)) (sa_cons se_int (sa_cons (se_sub (se_len (d.gl (by decide +kernel)) (d.fre T.f_len) (sa_cons (se_fld [0] 178720261164380880839180404 (d.has T.h_slots) (d.v 0 (by decide +kernel)) (by decide +kernel)) sa_nil)) se_int) sa_nil))))))
theorem mt_Check_is_slot (T : Tp P w K mg) : MtC P w K mg base (bm K pi ga) 2 "is_slot" 1 0 F_Check_is_slot := ⟨T.c_Check, _, T.m_Check_is_slot, l_Check_is_slot T⟩
abbrev st_Check_is_of : Stmt := (mem 33 5)
theorem sc_Check_is_of : FnScope ["self", "thing", "kind"] ["self", "thing", "kind"] (defScope st_Check_is_of) := ⟨rfl, rfl, rfl, by decide +kernel, rfl, by decide +kernel, by decide +kernel⟩
theorem l_Check_is_of (T : Tp P w K mg) : FnC P w K mg base (bm K pi ga) 3 (He.ma K (He.ga K "Check") "is_of") 3 F_Check_is_of :=
 (T.d_Check_is_of).c (N := ["self", "thing", "kind"]) (n := 3) (b := _) sc_Check_is_of rfl fun X Wx d => (sb_one (ss_ret (se_and (se_meth d.takes (d.v 0 (by decide +kernel)) (msR_cons (d.mt (mt_Check_is_slot T) (by decide)) msR_nil) (sa_cons (d.v 1 (by decide +kernel)) sa_nil)) (se_one (se_eq d.room (se_ix d.room (se_fld [0] 178720261164380880839180404 (d.has T.h_slots) (d.v 0 (by decide +kernel)) (by decide +kernel)) (d.v 1 (by decide +kernel))) (d.v 2 (by decide +kernel)))))))
theorem mt_Check_is_of (T : Tp P w K mg) : MtC P w K mg base (bm K pi ga) 3 "is_of" 2 0 F_Check_is_of := ⟨T.c_Check, _, T.m_Check_is_of, l_Check_is_of T⟩
abbrev st_Check_is_call : Stmt := (mem 33 3)
theorem sc_Check_is_call : FnScope ["self", "thing", "parameters", "slots", "result", "body", "one", "kind"] ["self", "thing"] (defScope st_Check_is_call) := ⟨rfl, rfl, rfl, by decide +kernel, rfl, by decide +kernel, by decide +kernel⟩
theorem l_Check_is_call (T : Tp P w K mg) : FnC P w K mg base (bm K pi ga) 4 (He.ma K (He.ga K "Check") "is_call") 2 F_Check_is_call :=
 (T.d_Check_is_call).c (N := ["self", "thing", "parameters", "slots", "result", "body", "one", "kind"]) (n := 2) (b := _) sc_Check_is_call rfl fun X Wx d => (sb_cons (ss_if (SW.st (sw_or (st_not (st_tru (se_call d.fr d.takes (d.cal (l_is_integer T) (by decide)) (d.at T.g_is_integer) (sa_cons (se_ix d.room (d.v 1 (by decide +kernel)) se_int) (sa_cons (se_add (se_fld [0] 197397862708534489148911978414191 (d.has T.h_number) (d.v 0 (by decide +kernel)) (by decide +kernel)) se_int) (sa_cons (se_sub (se_len (d.gl (by decide +kernel)) (d.fre T.f_len) (sa_cons (se_fld [0] 275352597855256826263601914127125713406693469454439 (d.has T.h_functions) (d.v 0 (by decide +kernel)) (by decide +kernel)) sa_nil)) se_int) sa_nil)))))) (sw_or1 (st_not (st_tru (se_isT 3 (d.gl (by decide +kernel)) (d.fre T.f_isinstance) (d.gl (by decide +kernel)) (d.fre T.f_tuple) (se_ix d.room (d.v 1 (by decide +kernel)) se_int)))))))
 (sb_one (ss_ret se_bl))
 sb_nil)
 (sb_cons (ss_asg (se_ix d.room (se_fld [0] 275352597855256826263601914127125713406693469454439 (d.has T.h_functions) (d.v 0 (by decide +kernel)) (by decide +kernel)) (se_ix d.room (d.v 1 (by decide +kernel)) se_int)) (STg.sg (g := (.tp [(.nm 2), (.nm 3), (.nm 4), (.nm 5)])) (stg_tup d.calm (stgs_cons (d.nm 2 (by decide +kernel)) (stgs_cons (d.nm 3 (by decide +kernel)) (stgs_cons (d.nm 4 (by decide +kernel)) (stgs_cons (d.nm 5 (by decide +kernel)) stgs_nil)))))))
 (sb_cons (ss_if (SW.st (sw_or (st_not (st_tru (se_meth d.takes (d.v 0 (by decide +kernel)) (msR_cons (d.mt (mt_Check_is_of T) (by decide)) msR_nil) (sa_cons (se_ix d.room (d.v 1 (by decide +kernel)) se_int) (sa_cons (d.v 4 (by decide +kernel)) sa_nil))))) (sw_or1 (st_ne d.room (se_len (d.gl (by decide +kernel)) (d.fre T.f_len) (sa_cons (se_ix d.room (d.v 1 (by decide +kernel)) se_int) sa_nil)) (d.v 2 (by decide +kernel))))))
 (sb_one (ss_ret se_bl))
 sb_nil)
 (sb_one (ss_ret (se_all d.calm (d.gl (by decide +kernel)) (d.fre T.f_all) (sa_cons (d.toBd.lc [("one", 6), ("kind", 7)] (si_zpS (d.gl (by decide +kernel)) (d.fre T.f_zip) (se_ix d.room (d.v 1 (by decide +kernel)) se_int) (d.v 3 (by decide +kernel))) (by decide +kernel) (fun _ b1 => (stg_tup b1.calm (stgs_cons (b1.nm 6 (by decide +kernel)) (stgs_cons (b1.nm 7 (by decide +kernel)) stgs_nil)))) (fun _ b1 => (se_meth b1.takes (b1.v 0 (by decide +kernel)) (msR_cons (b1.mt (mt_Check_is_of T) (by decide)) msR_nil) (sa_cons (b1.v 6 (by decide +kernel)) (sa_cons (b1.v 7 (by decide +kernel)) sa_nil))))) sa_nil)))))))
theorem mt_Check_is_call (T : Tp P w K mg) : MtC P w K mg base (bm K pi ga) 4 "is_call" 1 0 F_Check_is_call := ⟨T.c_Check, _, T.m_Check_is_call, l_Check_is_call T⟩
abbrev st_Check_is_block : Stmt := (mem 33 6)
theorem sc_Check_is_block : FnScope ["self", "thing"] ["self", "thing"] (defScope st_Check_is_block) := ⟨rfl, rfl, rfl, by decide +kernel, rfl, by decide +kernel, by decide +kernel⟩
theorem l_Check_is_block (T : Tp P w K mg) : FnC P w K mg base (bm K pi ga) 3 (He.ma K (He.ga K "Check") "is_block") 2 F_Check_is_block :=
 (T.d_Check_is_block).c (N := ["self", "thing"]) (n := 2) (b := _) sc_Check_is_block rfl fun X Wx d => (sb_one (ss_ret (se_and (se_meth d.takes (d.v 0 (by decide +kernel)) (msR_cons (d.mt (mt_Check_is_slot T) (by decide)) msR_nil) (sa_cons (d.v 1 (by decide +kernel)) sa_nil)) (se_one (se_notN (se_ix d.room (se_fld [0] 178720261164380880839180404 (d.has T.h_slots) (d.v 0 (by decide +kernel)) (by decide +kernel)) (d.v 1 (by decide +kernel))))))))
theorem mt_Check_is_block (T : Tp P w K mg) : MtC P w K mg base (bm K pi ga) 3 "is_block" 1 0 F_Check_is_block := ⟨T.c_Check, _, T.m_Check_is_block, l_Check_is_block T⟩
abbrev st_Check_is_cell : Stmt := (mem 33 7)
theorem sc_Check_is_cell : FnScope ["self", "slot", "cell"] ["self", "slot", "cell"] (defScope st_Check_is_cell) := ⟨rfl, rfl, rfl, by decide +kernel, rfl, by decide +kernel, by decide +kernel⟩
theorem l_Check_is_cell (T : Tp P w K mg) : FnC P w K mg base (bm K pi ga) 4 (He.ma K (He.ga K "Check") "is_cell") 3 F_Check_is_cell :=
 (T.d_Check_is_cell).c (N := ["self", "slot", "cell"]) (n := 3) (b := _) sc_Check_is_cell rfl fun X Wx d => (sb_one (ss_ret (se_and (se_meth d.takes (d.v 0 (by decide +kernel)) (msR_cons (d.mt (mt_Check_is_block T) (by decide)) msR_nil) (sa_cons (d.v 1 (by decide +kernel)) sa_nil)) (se_one (se_call d.fr d.takes (d.cal (l_is_integer T) (by decide)) (d.at T.g_is_integer) (sa_cons (d.v 2 (by decide +kernel)) (sa_cons se_int (sa_cons (se_sub (se_ix d.room (se_ix d.room (se_fld [0] 178720239038194670319042668 (d.has T.h_kinds) (d.v 0 (by decide +kernel)) (by decide +kernel)) (se_ix d.room (se_fld [0] 178720261164380880839180404 (d.has T.h_slots) (d.v 0 (by decide +kernel)) (by decide +kernel)) (d.v 1 (by decide +kernel)))) se_int) se_int) sa_nil))))))))
theorem mt_Check_is_cell (T : Tp P w K mg) : MtC P w K mg base (bm K pi ga) 4 "is_cell" 2 0 F_Check_is_cell := ⟨T.c_Check, _, T.m_Check_is_cell, l_Check_is_cell T⟩
abbrev st_Check_child : Stmt := (mem 33 8)
theorem sc_Check_child : FnScope ["self", "slot"] ["self", "slot"] (defScope st_Check_child) := ⟨rfl, rfl, rfl, by decide +kernel, rfl, by decide +kernel, by decide +kernel⟩
theorem l_Check_child (T : Tp P w K mg) : FnC P w K mg base (bm K pi ga) 1 (He.ma K (He.ga K "Check") "child") 2 F_Check_child :=
 (T.d_Check_child).c (N := ["self", "slot"]) (n := 2) (b := _) sc_Check_child rfl fun X Wx d => (sb_one (ss_ret (se_ix d.room (se_ix d.room (se_fld [0] 178720239038194670319042668 (d.has T.h_kinds) (d.v 0 (by decide +kernel)) (by decide +kernel)) (se_ix d.room (se_fld [0] 178720261164380880839180404 (d.has T.h_slots) (d.v 0 (by decide +kernel)) (by decide +kernel)) (d.v 1 (by decide +kernel)))) se_int)))
theorem mt_Check_child (T : Tp P w K mg) : MtC P w K mg base (bm K pi ga) 1 "child" 1 0 F_Check_child := ⟨T.c_Check, _, T.m_Check_child, l_Check_child T⟩
abbrev st_Check_is_channel : Stmt := (mem 33 9)
theorem sc_Check_is_channel : FnScope ["self", "thing"] ["self", "thing"] (defScope st_Check_is_channel) := ⟨rfl, rfl, rfl, by decide +kernel, rfl, by decide +kernel, by decide +kernel⟩
theorem l_Check_is_channel (T : Tp P w K mg) : FnC P w K mg base (bm K pi ga) 2 (He.ma K (He.ga K "Check") "is_channel") 2 F_Check_is_channel :=
 (T.d_Check_is_channel).c (N := ["self", "thing"]) (n := 2) (b := _) sc_Check_is_channel rfl fun X Wx d => (sb_one (ss_ret (se_call d.fr d.takes (d.cal (l_is_integer T) (by decide)) (d.at T.g_is_integer) (sa_cons (d.v 1 (by decide +kernel)) (sa_cons se_int (sa_cons (se_sub (se_len (d.gl (by decide +kernel)) (d.fre T.f_len) (sa_cons (se_fld [0] 247149831968453168993144598012652298410983524 (d.has T.h_channels) (d.v 0 (by decide +kernel)) (by decide +kernel)) sa_nil)) se_int) sa_nil))))))
theorem mt_Check_is_channel (T : Tp P w K mg) : MtC P w K mg base (bm K pi ga) 2 "is_channel" 1 0 F_Check_is_channel := ⟨T.c_Check, _, T.m_Check_is_channel, l_Check_is_channel T⟩
abbrev st_Check_is_block_right : Stmt := (mem 33 2)
theorem sc_Check_is_block_right : FnScope ["self", "thing"] ["self", "thing"] (defScope st_Check_is_block_right) := ⟨rfl, rfl, rfl, by decide +kernel, rfl, by decide +kernel, by decide +kernel⟩
theorem l_Check_is_block_right (T : Tp P w K mg) : FnC P w K mg base (bm K pi ga) 5 (He.ma K (He.ga K "Check") "is_block_right") 2 F_Check_is_block_right :=
 (T.d_Check_is_block_right).c (N := ["self", "thing"]) (n := 2) (b := _) sc_Check_is_block_right rfl fun X Wx d => (sb_cons (ss_if (st_eq d.room (se_ix d.room (d.v 1 (by decide +kernel)) se_int) (se_str 187964404235063894848962662 (by decide +kernel)))
 (sb_one (ss_ret (se_meth d.takes (d.v 0 (by decide +kernel)) (msR_cons (d.mt (mt_Check_is_block T) (by decide)) msR_nil) (sa_cons (se_ix d.room (d.v 1 (by decide +kernel)) se_int) sa_nil))))
 sb_nil)
 (sb_cons (ss_if (st_eq d.room (se_ix d.room (d.v 1 (by decide +kernel)) se_int) (se_str 168712300651565023332 (by decide +kernel)))
 (sb_one (ss_ret (se_and (se_meth d.takes (d.v 0 (by decide +kernel)) (msR_cons (d.mt (mt_Check_is_slot T) (by decide)) msR_nil) (sa_cons (se_ix d.room (d.v 1 (by decide +kernel)) se_int) sa_nil)) (se_one (se_meth d.takes (d.v 0 (by decide +kernel)) (msR_cons (d.mt (mt_Check_is_of T) (by decide)) msR_nil) (sa_cons (se_ix d.room (d.v 1 (by decide +kernel)) se_int) (sa_cons (se_ix d.room (se_fld [0] 178720261164380880839180404 (d.has T.h_slots) (d.v 0 (by decide +kernel)) (by decide +kernel)) (se_ix d.room (d.v 1 (by decide +kernel)) se_int)) sa_nil)))))))
 sb_nil)
 (sb_cons (ss_if (st_eq d.room (se_ix d.room (d.v 1 (by decide +kernel)) se_int) (se_str 145225842819176 (by decide +kernel)))
 (sb_one (ss_ret (se_and (se_meth d.takes (d.v 0 (by decide +kernel)) (msR_cons (d.mt (mt_Check_is_cell T) (by decide)) msR_nil) (sa_cons (se_ix d.room (d.v 1 (by decide +kernel)) se_int) (sa_cons (se_ix d.room (d.v 1 (by decide +kernel)) se_int) sa_nil))) (se_one (se_meth d.takes (d.v 0 (by decide +kernel)) (msR_cons (d.mt (mt_Check_is_of T) (by decide)) msR_nil) (sa_cons (se_ix d.room (d.v 1 (by decide +kernel)) se_int) (sa_cons (se_meth d.takes (d.v 0 (by decide +kernel)) (msR_cons (d.mt (mt_Check_child T) (by decide)) msR_nil) (sa_cons (se_ix d.room (d.v 1 (by decide +kernel)) se_int) sa_nil)) sa_nil)))))))
 sb_nil)
 (sb_cons (ss_if (st_eq d.room (se_ix d.room (d.v 1 (by decide +kernel)) se_int) (se_str 145225842819188 (by decide +kernel)))
 (sb_cons (ss_if (SW.st (sw_or (st_not (st_tru (se_meth d.takes (d.v 0 (by decide +kernel)) (msR_cons (d.mt (mt_Check_is_cell T) (by decide)) msR_nil) (sa_cons (se_ix d.room (d.v 1 (by decide +kernel)) se_int) (sa_cons (se_ix d.room (d.v 1 (by decide +kernel)) se_int) sa_nil))))) (sw_or1 (st_not (st_tru (se_meth d.takes (d.v 0 (by decide +kernel)) (msR_cons (d.mt (mt_Check_is_of T) (by decide)) msR_nil) (sa_cons (se_ix d.room (d.v 1 (by decide +kernel)) se_int) (sa_cons (se_ix d.room (se_fld [0] 178720261164380880839180404 (d.has T.h_slots) (d.v 0 (by decide +kernel)) (by decide +kernel)) (se_ix d.room (d.v 1 (by decide +kernel)) se_int)) sa_nil))))))))
 (sb_one (ss_ret se_bl))
 sb_nil)
 (sb_one (ss_ret (se_meth d.takes (d.v 0 (by decide +kernel)) (msR_cons (d.mt (mt_Check_is_of T) (by decide)) msR_nil) (sa_cons (se_ix d.room (d.v 1 (by decide +kernel)) se_int) (sa_cons (se_meth d.takes (d.v 0 (by decide +kernel)) (msR_cons (d.mt (mt_Check_child T) (by decide)) msR_nil) (sa_cons (se_ix d.room (d.v 1 (by decide +kernel)) se_int) sa_nil)) sa_nil))))))
 sb_nil)
 (sb_cons (ss_if (st_eq d.room (se_ix d.room (d.v 1 (by decide +kernel)) se_int) (se_str 139671680396894273652 (by decide +kernel)))
 (sb_one (ss_ret (se_and (se_meth d.takes (d.v 0 (by decide +kernel)) (msR_cons (d.mt (mt_Check_is_channel T) (by decide)) msR_nil) (sa_cons (se_ix d.room (d.v 1 (by decide +kernel)) se_int) sa_nil)) (se_one (se_meth d.takes (d.v 0 (by decide +kernel)) (msR_cons (d.mt (mt_Check_is_of T) (by decide)) msR_nil) (sa_cons (se_ix d.room (d.v 1 (by decide +kernel)) se_int) (sa_cons (se_ix d.room (se_fld [0] 247149831968453168993144598012652298410983524 (d.has T.h_channels) (d.v 0 (by decide +kernel)) (by decide +kernel)) (se_ix d.room (d.v 1 (by decide +kernel)) se_int)) sa_nil)))))))
 sb_nil)
 (sb_cons (ss_if (st_eq d.room (se_ix d.room (d.v 1 (by decide +kernel)) se_int) (se_str 195062478685865452299112089494546153587 (by decide +kernel)))
 (sb_one (ss_ret (se_and (se_meth d.takes (d.v 0 (by decide +kernel)) (msR_cons (d.mt (mt_Check_is_channel T) (by decide)) msR_nil) (sa_cons (se_ix d.room (d.v 1 (by decide +kernel)) se_int) sa_nil)) (se_one (se_meth d.takes (d.v 0 (by decide +kernel)) (msR_cons (d.mt (mt_Check_is_of T) (by decide)) msR_nil) (sa_cons (se_ix d.room (d.v 1 (by decide +kernel)) se_int) (sa_cons (se_ix d.room (se_fld [0] 247149831968453168993144598012652298410983524 (d.has T.h_channels) (d.v 0 (by decide +kernel)) (by decide +kernel)) (se_ix d.room (d.v 1 (by decide +kernel)) se_int)) sa_nil)))))))
 sb_nil)
 (sb_one (ss_ret (se_meth d.takes (d.v 0 (by decide +kernel)) (msR_cons (d.mt (mt_Check_is_call T) (by decide)) msR_nil) (sa_cons (d.v 1 (by decide +kernel)) sa_nil))))))))))
theorem mt_Check_is_block_right (T : Tp P w K mg) : MtC P w K mg base (bm K pi ga) 5 "is_block_right" 1 0 F_Check_is_block_right := ⟨T.c_Check, _, T.m_Check_is_block_right, l_Check_is_block_right T⟩
abbrev st_Check_is_right : Stmt := (mem 33 1)
theorem sc_Check_is_right : FnScope ["self", "thing"] ["self", "thing"] (defScope st_Check_is_right) := ⟨rfl, rfl, rfl, by decide +kernel, rfl, by decide +kernel, by decide +kernel⟩
theorem l_Check_is_right (T : Tp P w K mg) : FnC P w K mg base (bm K pi ga) 6 (He.ma K (He.ga K "Check") "is_right") 2 F_Check_is_right :=
 (T.d_Check_is_right).c (N := ["self", "thing"]) (n := 2) (b := _) sc_Check_is_right rfl fun X Wx d => (sb_cons (ss_if (SW.st (sw_or (st_not (st_tru (se_isT 3 (d.gl (by decide +kernel)) (d.fre T.f_isinstance) (d.gl (by decide +kernel)) (d.fre T.f_tuple) (d.v 1 (by decide +kernel))))) (sw_or (st_eq d.room (d.v 1 (by decide +kernel)) (se_tup sa_nil)) (sw_or (st_not (st_tru (se_isT 2 (d.gl (by decide +kernel)) (d.fre T.f_isinstance) (d.gl (by decide +kernel)) (d.fre T.f_str) (se_ix d.room (d.v 1 (by decide +kernel)) se_int)))) (sw_or1 (st_inTabN (d.tab T.t_SIZES T.g_SIZES (by decide +kernel)) (se_ix d.room (d.v 1 (by decide +kernel)) se_int)))))))
 (sb_one (ss_ret se_bl))
 sb_nil)
 (sb_cons (ss_if (st_ne d.room (se_len (d.gl (by decide +kernel)) (d.fre T.f_len) (sa_cons (d.v 1 (by decide +kernel)) sa_nil)) (se_tab (d.tab T.t_SIZES T.g_SIZES (by decide +kernel)) (se_ix d.room (d.v 1 (by decide +kernel)) se_int)))
 (sb_one (ss_ret se_bl))
 sb_nil)
 (sb_cons (ss_if (st_in d.room (se_ix d.room (d.v 1 (by decide +kernel)) se_int) (se_tup (sa_cons (se_str 197397862708534489148911978414191 (by decide +kernel)) (sa_cons (se_str 125365912928354 (by decide +kernel)) (sa_cons (se_str 180260953059048978126930026 (by decide +kernel)) (sa_cons (se_str 165946526289152770164 (by decide +kernel)) sa_nil))))))
 (sb_one (ss_ret (se_and (se_meth d.takes (d.v 0 (by decide +kernel)) (msR_cons (d.mt (mt_Check_is_of T) (by decide)) msR_nil) (sa_cons (se_ix d.room (d.v 1 (by decide +kernel)) se_int) (sa_cons se_non sa_nil))) (se_one (se_or (se_eq d.room (se_len (d.gl (by decide +kernel)) (d.fre T.f_len) (sa_cons (d.v 1 (by decide +kernel)) sa_nil)) se_int) (se_one (se_call d.fr d.takes (d.cal (l_is_integer T) (by decide)) (d.at T.g_is_integer) (sa_cons (se_ix d.room (d.v 1 (by decide +kernel)) se_int) (sa_cons se_int (sa_cons (d.num T.i_MOST_NUMBER (by decide +kernel)) sa_nil))))))))))
 sb_nil)
 (sb_cons (ss_if (st_eq d.room (se_ix d.room (d.v 1 (by decide +kernel)) se_int) (se_str 180232841752564374851045191516259 (by decide +kernel)))
 (sb_one (ss_ret (se_call d.fr d.takes (d.cal (l_is_integer T) (by decide)) (d.at T.g_is_integer) (sa_cons (se_ix d.room (d.v 1 (by decide +kernel)) se_int) (sa_cons se_int (sa_cons (se_len (d.gl (by decide +kernel)) (d.fre T.f_len) (sa_cons (se_ix d.room (se_ix d.room (se_fld [0] 275352597855256826263601914127125713406693469454439 (d.has T.h_functions) (d.v 0 (by decide +kernel)) (by decide +kernel)) (se_fld [0] 197397862708534489148911978414191 (d.has T.h_number) (d.v 0 (by decide +kernel)) (by decide +kernel))) se_int) sa_nil)) sa_nil))))))
 sb_nil)
 (sb_cons (ss_if (st_eq d.room (se_ix d.room (d.v 1 (by decide +kernel)) se_int) (se_str 190531875587695143001649528045683 (by decide +kernel)))
 (sb_one (ss_ret (se_meth d.takes (d.v 0 (by decide +kernel)) (msR_cons (d.mt (mt_Check_is_of T) (by decide)) msR_nil) (sa_cons (se_ix d.room (d.v 1 (by decide +kernel)) se_int) (sa_cons (se_ix d.room (se_ix d.room (se_fld [0] 275352597855256826263601914127125713406693469454439 (d.has T.h_functions) (d.v 0 (by decide +kernel)) (by decide +kernel)) (se_fld [0] 197397862708534489148911978414191 (d.has T.h_number) (d.v 0 (by decide +kernel)) (by decide +kernel))) se_int) sa_nil)))))
 sb_nil)
 (sb_one (ss_ret (se_meth d.takes (d.v 0 (by decide +kernel)) (msR_cons (d.mt (mt_Check_is_block_right T) (by decide)) msR_nil) (sa_cons (d.v 1 (by decide +kernel)) sa_nil)))))))))
theorem mt_Check_is_right (T : Tp P w K mg) : MtC P w K mg base (bm K pi ga) 6 "is_right" 1 0 F_Check_is_right := ⟨T.c_Check, _, T.m_Check_is_right, l_Check_is_right T⟩
abbrev st_Check___init__ : Stmt := (mem 33 0)
theorem sc_Check___init__ : FnScope ["self", "program", "number"] ["self", "program", "number"] (defScope st_Check___init__) := ⟨rfl, rfl, rfl, by decide +kernel, rfl, by decide +kernel, by decide +kernel⟩
theorem l_Check___init__ (T : Tp P w K mg) : FnC P w K mg base (bm K pi ga) 1 (He.ma K (He.ga K "Check") "__init__") 3 F_Check___init__ :=
 (T.d_Check___init__).c (N := ["self", "program", "number"]) (n := 3) (b := _) sc_Check___init__ rfl fun X Wx d => (sb_cons (ss_fld [0] 178720239038194670319042668 (d.has T.h_kinds) (se_ix d.room (d.v 1 (by decide +kernel)) se_int) (d.v 0 (by decide +kernel)) (by decide +kernel))
 (sb_cons (ss_fld [0] 247149831968453168993144598012652298410983524 (d.has T.h_channels) (se_ix d.room (d.v 1 (by decide +kernel)) se_int) (d.v 0 (by decide +kernel)) (by decide +kernel))
 (sb_cons (ss_fld [0] 275352597855256826263601914127125713406693469454439 (d.has T.h_functions) (se_ix d.room (d.v 1 (by decide +kernel)) se_int) (d.v 0 (by decide +kernel)) (by decide +kernel))
 (sb_cons (ss_fld [0] 197397862708534489148911978414191 (d.has T.h_number) (d.v 2 (by decide +kernel)) (d.v 0 (by decide +kernel)) (by decide +kernel))
 (sb_one (ss_fld [0] 178720261164380880839180404 (d.has T.h_slots) (se_ix d.room (se_ix d.room (se_ix d.room (d.v 1 (by decide +kernel)) se_int) (d.v 2 (by decide +kernel))) se_int) (d.v 0 (by decide +kernel)) (by decide +kernel)))))))
theorem mk_Check (T : Tp P w K mg) : MkC P w K mg base (bm K pi ga) 1 0 2 F_Check___init__ := ⟨⟨_, T.m_Check, l_Check___init__ T⟩, T.k_Check⟩
abbrev st_is_program : Stmt := (top 32)
theorem sc_is_program : FnScope ["thing", "kinds", "channels", "functions", "number", "function", "part", "one"] ["thing"] (defScope st_is_program) := ⟨rfl, rfl, rfl, by decide +kernel, rfl, by decide +kernel, by decide +kernel⟩
theorem l_is_program (T : Tp P w K mg) : FnC P w K mg base (bm K pi ga) 7 (He.ga K "is_program") 1 F_is_program :=
 (T.d_is_program).c (N := ["thing", "kinds", "channels", "functions", "number", "function", "part", "one"]) (n := 1) (b := _) sc_is_program rfl fun X Wx d => (sb_cons (ss_if (SW.st (sw_or (st_not (st_tru (se_isT 3 (d.gl (by decide +kernel)) (d.fre T.f_isinstance) (d.gl (by decide +kernel)) (d.fre T.f_tuple) (d.v 0 (by decide +kernel))))) (sw_or (st_ne d.room (se_len (d.gl (by decide +kernel)) (d.fre T.f_len) (sa_cons (d.v 0 (by decide +kernel)) sa_nil)) se_int) (sw_or1 (st_not (st_tru (se_all d.calm (d.gl (by decide +kernel)) (d.fre T.f_all) (sa_cons (d.toBd.lc [("part", 6)] (si_seq (d.v 0 (by decide +kernel))) (by decide +kernel) (fun _ b1 => (b1.nm 6 (by decide +kernel))) (fun _ b1 => (se_isT 3 (b1.gl (by decide +kernel)) (b1.fre T.f_isinstance) (b1.gl (by decide +kernel)) (b1.fre T.f_tuple) (b1.v 6 (by decide +kernel))))) sa_nil))))))))
 (sb_one (ss_ret se_bl))
 sb_nil)
 (sb_cons (ss_asg (d.v 0 (by decide +kernel)) (STg.sg (g := (.tp [(.nm 1), (.nm 2), (.nm 3)])) (stg_tup d.calm (stgs_cons (d.nm 1 (by decide +kernel)) (stgs_cons (d.nm 2 (by decide +kernel)) (stgs_cons (d.nm 3 (by decide +kernel)) stgs_nil))))))
 (sb_cons (ss_if (SW.st (sw_or (st_not (st_leLe se_int (se_len (d.gl (by decide +kernel)) (d.fre T.f_len) (sa_cons (d.v 1 (by decide +kernel)) sa_nil)) (d.num T.i_MOST_KINDS (by decide +kernel)))) (sw_or1 (st_not (st_tru (se_all d.calm (d.gl (by decide +kernel)) (d.fre T.f_all) (sa_cons (d.toBd.lc [("number", 4), ("one", 7)] (si_en (d.gl (by decide +kernel)) (d.fre T.f_enumerate) (d.v 1 (by decide +kernel))) (by decide +kernel) (fun _ b1 => (stg_tup b1.calm (stgs_cons (b1.nm 4 (by decide +kernel)) (stgs_cons (b1.nm 7 (by decide +kernel)) stgs_nil)))) (fun _ b1 => (se_call b1.fr b1.takes (b1.cal (l_is_kind T) (by decide)) (b1.at T.g_is_kind) (sa_cons (b1.v 7 (by decide +kernel)) (sa_cons (b1.v 4 (by decide +kernel)) sa_nil))))) sa_nil)))))))
 (sb_one (ss_ret se_bl))
 sb_nil)
 (sb_cons (ss_if (SW.st (sw_or (st_gt (se_len (d.gl (by decide +kernel)) (d.fre T.f_len) (sa_cons (d.v 2 (by decide +kernel)) sa_nil)) (d.num T.i_MOST_CHANNELS (by decide +kernel))) (sw_or1 (st_not (st_tru (se_all d.calm (d.gl (by decide +kernel)) (d.fre T.f_all) (sa_cons (d.toBd.lc [("one", 7)] (si_seq (d.v 2 (by decide +kernel))) (by decide +kernel) (fun _ b1 => (b1.nm 7 (by decide +kernel))) (fun _ b1 => (se_call b1.fr b1.takes (b1.cal (l_is_integer T) (by decide)) (b1.at T.g_is_integer) (sa_cons (b1.v 7 (by decide +kernel)) (sa_cons se_int (sa_cons (se_sub (se_len (b1.gl (by decide +kernel)) (b1.fre T.f_len) (sa_cons (b1.v 1 (by decide +kernel)) sa_nil)) se_int) sa_nil)))))) sa_nil)))))))
 (sb_one (ss_ret se_bl))
 sb_nil)
 (sb_cons (ss_if (SW.st (sw_or (st_not (st_leLe se_int (se_len (d.gl (by decide +kernel)) (d.fre T.f_len) (sa_cons (d.v 3 (by decide +kernel)) sa_nil)) (d.num T.i_MOST_FUNCTIONS (by decide +kernel)))) (sw_or1 (st_not (st_tru (se_all d.calm (d.gl (by decide +kernel)) (d.fre T.f_all) (sa_cons (d.toBd.lc [("one", 7)] (si_seq (d.v 3 (by decide +kernel))) (by decide +kernel) (fun _ b1 => (b1.nm 7 (by decide +kernel))) (fun _ b1 => (se_call b1.fr b1.takes (b1.cal (l_is_head T) (by decide)) (b1.at T.g_is_head) (sa_cons (b1.v 1 (by decide +kernel)) (sa_cons (b1.v 7 (by decide +kernel)) sa_nil))))) sa_nil)))))))
 (sb_one (ss_ret se_bl))
 sb_nil)
 (sb_cons (ss_if (st_ne d.room (se_ix d.room (se_ix d.room (d.v 3 (by decide +kernel)) se_int) se_int) se_int)
 (sb_one (ss_ret se_bl))
 sb_nil)
 (sb_cons (d.for_ (si_en (d.gl (by decide +kernel)) (d.fre T.f_enumerate) (d.v 3 (by decide +kernel))) (stg_tup d.calm (stgs_cons (d.nm 4 (by decide +kernel)) (stgs_cons (d.nm 5 (by decide +kernel)) stgs_nil)))
 (sb_one (ss_if (st_not (st_tru (se_all d.calm (d.gl (by decide +kernel)) (d.fre T.f_all) (sa_cons (d.toBd.lc [("one", 7)] (si_seq (se_ix d.room (d.v 5 (by decide +kernel)) se_int)) (by decide +kernel) (fun _ b1 => (b1.nm 7 (by decide +kernel))) (fun _ b1 => (se_meth b1.takes (se_make b1.fr b1.takes (b1.make (mk_Check T) (by decide)) (b1.at T.g_Check) (sa_cons (b1.v 0 (by decide +kernel)) (sa_cons (b1.v 4 (by decide +kernel)) sa_nil))) (msR_cons (b1.mt (mt_Check_is_right T) (by decide)) msR_nil) (sa_cons (b1.v 7 (by decide +kernel)) sa_nil)))) sa_nil))))
 (sb_one (ss_ret se_bl))
 sb_nil)))
 (sb_one (ss_ret se_bl)))))))))
abbrev st__law_open : Stmt := (top 35)
theorem sc__law_open : FnScope ["_law_script", "_law_cells", "_law_k", "_law_cell"] ["_law_script"] (defScope st__law_open) := ⟨rfl, rfl, rfl, by decide +kernel, rfl, by decide +kernel, by decide +kernel⟩
abbrev st__law_spread : Stmt := (top 36)
theorem sc__law_spread : FnScope ["_law_cell", "_law_at", "_law_primes", "_law_one", "_law_two", "_law_three"] ["_law_cell", "_law_at"] (defScope st__law_spread) := ⟨rfl, rfl, rfl, by decide +kernel, rfl, by decide +kernel, by decide +kernel⟩
theorem l__law_spread (T : Tp P w K mg) : FnC P w K mg base (bm K pi ga) 1 (He.ga K "_law_spread") 2 F__law_spread :=
 (T.d__law_spread).c (N := ["_law_cell", "_law_at", "_law_primes", "_law_one", "_law_two", "_law_three"]) (n := 2) (b := _) sc__law_spread rfl fun X Wx d => (sb_cons (ss_if (st_ge (d.v 0 (by decide +kernel)) (se_pow se_int se_int))
 (sb_one (ss_ret (d.v 0 (by decide +kernel))))
 sb_nil)
 (sb_cons (d.set 2 (se_lst (sa_cons se_int (sa_cons se_int (sa_cons se_int (sa_cons se_int (sa_cons se_int (sa_cons se_int (sa_cons se_int (sa_cons se_int sa_nil))))))))) (by decide +kernel))
 (sb_cons (d.set 2 (se_add (d.v 2 (by decide +kernel)) (se_lst (sa_cons se_int (sa_cons se_int (sa_cons se_int (sa_cons se_int (sa_cons se_int sa_nil))))))) (by decide +kernel))
 (sb_cons (d.set 3 (se_add (se_add (se_mul (se_mod (se_int1 (d.gl (by decide +kernel)) (d.fre T.f_int) (sa_cons (d.v 0 (by decide +kernel)) sa_nil)) se_int) (se_add (se_mul se_int (d.v 1 (by decide +kernel))) se_int)) (se_mul (d.v 1 (by decide +kernel)) se_int)) se_int) (by decide +kernel))
 (sb_cons (d.set 3 (se_mod (se_int1 (d.gl (by decide +kernel)) (d.fre T.f_int) (sa_cons (se_pow (d.v 3 (by decide +kernel)) se_int) sa_nil)) (se_ix d.room (d.v 2 (by decide +kernel)) (se_mod (se_int1 (d.gl (by decide +kernel)) (d.fre T.f_int) (sa_cons (d.v 1 (by decide +kernel)) sa_nil)) se_int))) (by decide +kernel))
 (sb_cons (d.set 4 (se_mod (se_int1 (d.gl (by decide +kernel)) (d.fre T.f_int) (sa_cons (se_pow (se_add (se_add (se_mul (d.v 3 (by decide +kernel)) (se_add (d.v 1 (by decide +kernel)) se_int)) (se_mod (se_int1 (d.gl (by decide +kernel)) (d.fre T.f_int) (sa_cons (d.v 0 (by decide +kernel)) sa_nil)) se_int)) se_int) se_int) sa_nil)) (se_ix d.room (d.v 2 (by decide +kernel)) (se_mod (se_int1 (d.gl (by decide +kernel)) (d.fre T.f_int) (sa_cons (se_add (d.v 1 (by decide +kernel)) se_int) sa_nil)) se_int))) (by decide +kernel))
 (sb_cons (d.set 5 (se_mod (se_int1 (d.gl (by decide +kernel)) (d.fre T.f_int) (sa_cons (se_pow (se_add (se_add (d.v 4 (by decide +kernel)) (se_mod (se_int1 (d.gl (by decide +kernel)) (d.fre T.f_int) (sa_cons (d.v 3 (by decide +kernel)) sa_nil)) se_int)) (d.v 1 (by decide +kernel))) se_int) sa_nil)) (se_ix d.room (d.v 2 (by decide +kernel)) (se_mod (se_int1 (d.gl (by decide +kernel)) (d.fre T.f_int) (sa_cons (se_add (d.v 1 (by decide +kernel)) se_int) sa_nil)) se_int))) (by decide +kernel))
 (sb_one (ss_ret (se_add (se_mul (se_add (se_mul (d.v 3 (by decide +kernel)) se_int) (d.v 4 (by decide +kernel))) se_int) (d.v 5 (by decide +kernel))))))))))))
abbrev st__law_take : Stmt := (top 37)
theorem sc__law_take : FnScope ["_law_pen", "_law_amount", "_law_found", "_law_at", "_law_cell"] ["_law_pen", "_law_amount"] (defScope st__law_take) := ⟨rfl, rfl, rfl, by decide +kernel, rfl, by decide +kernel, by decide +kernel⟩
end HD
namespace HD
open PySem PySem.Spec PyProof.Rows L2 HQ
variable {P : Program} {w : World} {K : PySem.W.Frag} {mg : Str → Option Value} {base : Heap} {pi ga : Addr}
def prs : List W := [.int 2147483629, .int 2147483587, .int 2147483579, .int 2147483563, .int 2147483549, .int 2147483543, .int 2147483497, .int 2147483489, .int 2147483477, .int 2147483423, .int 2147483399, .int 2147483353, .int 2147483323]
theorem mul_ok {x y : Int} (h : -(2 ^ 64) < x ∧ x < 2 ^ 64) : pMul (.int x) (.int y) = some (.int (x * y)) := by
  rw [pMul_int, pMulI_int, if_pos (decide_eq_true (.inl h))]
theorem mod_ok {x y : Int} (h : 0 < y) : pMod (.int x) (.int y) = some (.int (x % y)) := by
  rw [pMod_int, if_pos (decide_eq_true (by omega)), Int.fmod_eq_emod_of_nonneg _ (by omega)]
theorem pow_ok {x : Int} (y : Int) (k : Nat) (hk : y.toNat = k ∧ 0 ≤ y ∧ y ≤ 100) (h : -(2 ^ 64) < x ∧ x < 2 ^ 64) : pPow (.int x) (.int y) = some (.int (x ^ k)) := by
  rw [pPow_int, if_pos ⟨by omega, by omega, by omega⟩, hk.1]
theorem prs_at (x : Int) : ∃ p, wAt prs (x % 13) = some (.int p) ∧ 0 < p ∧ p < 2147483648 := by
  have h0 := Int.emod_nonneg x (show (13 : Int) ≠ 0 by decide)
  have h1 := Int.emod_lt_of_pos x (show (0 : Int) < 13 by decide)
  generalize x % 13 = y at *
  obtain ⟨k, rfl⟩ : ∃ k : Nat, y = (k : Int) := ⟨_, (Int.toNat_of_nonneg h0).symm⟩
  rw [wAt_nat]
  have : k < 13 := by omega
  match k, this with
  | 0, _ => exact ⟨_, rfl, by decide, by decide⟩
  | 1, _ => exact ⟨_, rfl, by decide, by decide⟩
  | 2, _ => exact ⟨_, rfl, by decide, by decide⟩
  | 3, _ => exact ⟨_, rfl, by decide, by decide⟩
  | 4, _ => exact ⟨_, rfl, by decide, by decide⟩
  | 5, _ => exact ⟨_, rfl, by decide, by decide⟩
  | 6, _ => exact ⟨_, rfl, by decide, by decide⟩
  | 7, _ => exact ⟨_, rfl, by decide, by decide⟩
  | 8, _ => exact ⟨_, rfl, by decide, by decide⟩
  | 9, _ => exact ⟨_, rfl, by decide, by decide⟩
  | 10, _ => exact ⟨_, rfl, by decide, by decide⟩
  | 11, _ => exact ⟨_, rfl, by decide, by decide⟩
  | 12, _ => exact ⟨_, rfl, by decide, by decide⟩
theorem sasg {i : Nat} {f : Den} {c : SDen} {sl : Sl} {S : Hs} {u : W} (h : f sl S = .ok (u, S)) : sSeq (sAsg (gN i) f) c sl S = c (sl.set i (some u)) S := by simp [h]
theorem sifp {t : DenB} {b c : SDen} {sl : Sl} {S : Hs} (h : t sl S = .ok (false, S)) : sSeq (sIf t b sPass) c sl S = c sl S := by simp [h]
theorem F_spread (S : Hs) {c at_ : Int} (h0 : 0 ≤ at_) (h1 : at_ ≤ 1000000000) : ∃ z, F__law_spread [.int c, .int at_] S = .ok (.int z, S) := by
  unfold F__law_spread
  have e18 := pow_ok (x := 10) 18 18 (by decide) (by decide)
  by_cases hc : (1000000000000000000 : Int) ≤ c
  · exact ⟨c, by simp [-pPow_int, e18, hc]⟩
  have m0 := Int.emod_nonneg c (show (1000000007 : Int) ≠ 0 by decide)
  have m1 := Int.emod_lt_of_pos c (show (0 : Int) < 1000000007 by decide)
  have n0 := Int.emod_nonneg c (show (65537 : Int) ≠ 0 by decide)
  have n1 := Int.emod_lt_of_pos c (show (0 : Int) < 65537 by decide)
  obtain ⟨p1, hp1, a1, b1⟩ := prs_at at_
  obtain ⟨p2, hp2, a2, b2⟩ := prs_at (at_ + 5)
  obtain ⟨p3, hp3, a3, b3⟩ := prs_at (at_ + 7)
  have k1 := mod_ok (x := c) (y := 1000000007) (by decide)
  have k2 := mod_ok (x := c) (y := 65537) (by decide)
  have k3 := mod_ok (x := at_) (y := 13) (by decide)
  have k4 := mod_ok (x := at_ + 5) (y := 13) (by decide)
  have k5 := mod_ok (x := at_ + 7) (y := 13) (by decide)
  have j1 : pMul (.int 2) (.int at_) = some (.int (2 * at_)) := mul_ok (by decide)
  have j2 := mul_ok (x := c % 1000000007) (y := 2 * at_ + 69069) (by omega)
  have j3 := mul_ok (x := at_) (y := 40503) (by omega)
  have g0 : 0 ≤ c % 1000000007 * (2 * at_ + 69069) := Int.mul_nonneg m0 (by omega)
  have g1 : c % 1000000007 * (2 * at_ + 69069) ≤ 1000000007 * (2 * at_ + 69069) := Int.mul_le_mul_of_nonneg_right (by omega) (by omega)
  obtain ⟨o1', ho1⟩ : ∃ o, o = c % 1000000007 * (2 * at_ + 69069) + at_ * 40503 + 977 := ⟨_, rfl⟩
  have q1 := pow_ok (x := o1') 3 3 (by decide) (by omega)
  have r1 := mod_ok (x := o1' ^ 3) (y := p1) a1
  obtain ⟨o2, ho2⟩ : ∃ o, o = o1' ^ 3 % p1 := ⟨_, rfl⟩
  have u0 := Int.emod_nonneg (o1' ^ 3) (show p1 ≠ 0 by omega)
  have u1 := Int.emod_lt_of_pos (o1' ^ 3) a1
  rw [← ho2] at u0 u1 r1
  have j4 := mul_ok (x := o2) (y := at_ + 3) (by omega)
  have g2 : 0 ≤ o2 * (at_ + 3) := Int.mul_nonneg u0 (by omega)
  have g3 : o2 * (at_ + 3) ≤ 2147483648 * (at_ + 3) := Int.mul_le_mul_of_nonneg_right (by omega) (by omega)
  obtain ⟨t1, ht1⟩ : ∃ o, o = o2 * (at_ + 3) + c % 65537 + 5 := ⟨_, rfl⟩
  have q2 := pow_ok (x := t1) 5 5 (by decide) (by omega)
  have r2 := mod_ok (x := t1 ^ 5) (y := p2) a2
  obtain ⟨t2, ht2⟩ : ∃ o, o = t1 ^ 5 % p2 := ⟨_, rfl⟩
  have v0 := Int.emod_nonneg (t1 ^ 5) (show p2 ≠ 0 by omega)
  have v1 := Int.emod_lt_of_pos (t1 ^ 5) a2
  rw [← ht2] at v0 v1 r2
  have k6 := mod_ok (x := o2) (y := 1009) (by decide)
  have w0 := Int.emod_nonneg o2 (show (1009 : Int) ≠ 0 by decide)
  have w1 := Int.emod_lt_of_pos o2 (show (0 : Int) < 1009 by decide)
  obtain ⟨d1, hd1⟩ : ∃ o, o = t2 + o2 % 1009 + at_ := ⟨_, rfl⟩
  have q3 := pow_ok (x := d1) 3 3 (by decide) (by omega)
  have r3 := mod_ok (x := d1 ^ 3) (y := p3) a3
  have j5 := mul_ok (x := o2) (y := 2147483647) (by omega)
  have j6 : pMul (.int (o2 * 2147483647 + t2)) (.int 2147483647) = some (.int ((o2 * 2147483647 + t2) * 2147483647)) := mul_ok (by omega)
  refine ⟨(o2 * 2147483647 + t2) * 2147483647 + d1 ^ 3 % p3, ?_⟩
  rw [runB_eq]
  rw [sifp (by simp [-pPow_int, e18, hc])]
  rw [sasg (u := .lst [.int 2147483629, .int 2147483587, .int 2147483579, .int 2147483563, .int 2147483549, .int 2147483543, .int 2147483497, .int 2147483489]) (by simp)]
  rw [sasg (u := .lst prs) (by simp [prs])]
  rw [sasg (u := .int o1') (by simp [-pMul_int, -pMod_int, k1, j1, j2, j3, ho1])]
  rw [sasg (u := .int o2) (by simp [-pMul_int, -pMod_int, -pPow_int, q1, k3, hp1, r1])]
  rw [sasg (u := .int t2) (by simp [-pMul_int, -pMod_int, -pPow_int, q2, k2, k4, hp2, r2, j4, ← ht1])]
  rw [sasg (u := .int (d1 ^ 3 % p3)) (by simp [-pMul_int, -pMod_int, -pPow_int, q3, k6, k5, hp3, r3, ← hd1])]
  simp [-pMul_int, j5, j6]
theorem slr5 {A : Am} {e : Emb} {nx : Nat} {H : Hp} {n at_ c : Int} : ∀ (i : Nat) (w : W), ([some W.pen, some (W.int n), none, some (W.int at_), some (W.int c)] : Sl)[i]? = some (some w) → ∃ v, ([some (V.ref A.pi), some (V.int n), none, some (V.int at_), some (V.int c)] : L2.St)[i]? = some (some v) ∧ VR A e nx H w v
  | 0, w, h => by simp at h; subst h; exact ⟨_, rfl, .pen⟩
  | 1, w, h => by simp at h; subst h; exact ⟨_, rfl, .int _⟩
  | 2, w, h => by simp at h
  | 3, w, h => by simp at h; subst h; exact ⟨_, rfl, .int _⟩
  | 4, w, h => by simp at h; subst h; exact ⟨_, rfl, .int _⟩
  | i + 5, w, h => by simp at h
theorem l__law_take (T : Tp P w K mg) : FnC P w K mg base (bm K pi ga) 2 (He.ga K "_law_take") 2 F__law_take := by
  obtain ⟨fd, F, hb⟩ := T.d__law_take.ex
  refine ⟨⟨fd, ["_law_pen", "_law_amount"], ?_, hb⟩, F.kp⟩
  refine fnq_of F sc__law_take (fun vs H Q E h => h.1) fun cdv U outer s H vs Q E hgd hr h => ?_
  have d : Bs P w K mg base ["_law_pen", "_law_amount", "_law_found", "_law_at", "_law_cell"] (defScope st__law_take) 1 (cxOf (L2.CX P w) P w K mg base ["_law_pen", "_law_amount", "_law_found", "_law_at", "_law_cell"] "_law_take" (defScope st__law_take) (He.ga K "_law_take") cdv U outer s H E) (Wof E) :=
    ⟨⟨rfl, rfl, rfl, rfl, rfl, sc__law_take.nd, ⟨rfl, rfl⟩, rfl, takes_of rfl rfl rfl rfl, hr, hgd⟩, rfl, passes_of rfl⟩
  obtain ⟨hl, e, S, ws, rp, rv, hw⟩ := h
  refine ⟨_, pss_cons (ps_if (pt_cmpR op_lt (pe_ix ix_list (pv 0) pe_int (fun _ _ => rfl)) (pv 1) (nomark _)) 
    (pss_cons (ps_set (i := 3) sc__law_take.nd rfl (.inl rfl) (pe_ix ix_list (pv 0) pe_int (fun _ _ => rfl)))
     (pss_cons (ps_set (i := 4) sc__law_take.nd rfl (.inl rfl) pe_int)
     (pss_cons (ps_if (pt_cmpR op_lt (pv 3) (pe_callB call_len_seq (by rfl) T.f_len PySem.boot_len (pa_cons (pe_ix ix_list (pv 0) pe_int (fun _ _ => rfl)) pa_nil)) (nomark _))
        (pss_one (ps_set (i := 4) sc__law_take.nd rfl (.inl rfl) (pe_ix ix_list (pe_ix ix_list (pv 0) pe_int (fun _ _ => rfl)) (pv 3) (fun _ _ => rfl))))
        (pss_one (ps_if (pt_cmpR op_gt (pe_callB call_len_seq (by rfl) T.f_len PySem.boot_len (pa_cons (pe_ix ix_list (pv 0) pe_int (fun _ _ => rfl)) pa_nil)) pe_int (nomark _))
          (pss_one (ps_set (i := 4) sc__law_take.nd rfl (.inl rfl) (pe_op op_mod (pe_callTy call_int1 (by rfl) T.f_int (by decide +kernel) (pa_cons 
            (pe_ix ix_list (pe_ix ix_list (pv 0) pe_int (fun _ _ => rfl)) (pe_op op_mod (pe_callTy call_int1 (by rfl) T.f_int (by decide +kernel) (pa_cons (pe_op op_add (pe_op op_mul (pv 3) pe_int) pe_int) pa_nil)) (pe_callB call_len_seq (by rfl) T.f_len PySem.boot_len (pa_cons (pe_ix ix_list (pv 0) pe_int (fun _ _ => rfl)) pa_nil))) (fun _ _ => rfl)) pa_nil))
            (pe_op op_add (pe_op op_pow pe_int pe_int) (pv 3))))) pss_nil)))
     (pss_cons (ps_asg (pe_op op_add (pv 3) pe_int) (pg_sub (pv 0) pe_int set_list))
     (pss_one (ps_asg (se_call (B := bm K pi ga) d.fr d.takes (d.cal (l__law_spread T) (by decide)) (d.at T.g__law_spread) (sa_cons (d.v 4 (by decide +kernel)) (sa_cons (d.v 3 (by decide +kernel)) sa_nil))) (pg_sub (pv 0) pe_int set_list)))))))
    pss_nil)
   (pss_cons (ps_set (i := 2) sc__law_take.nd rfl (.inl rfl) (pe_op op_mod (pe_callTy call_int1 (by rfl) T.f_int (by decide +kernel) (pa_cons (pe_ix ix_list (pv 0) pe_int (fun _ _ => rfl)) pa_nil)) (pv 1)))
   (pss_cons (ps_asg (pe_op op_fdiv (pe_ix ix_list (pv 0) pe_int (fun _ _ => rfl)) (pv 1)) (pg_sub (pv 0) pe_int set_list))
   (pss_one (ps_ret (pv 2))))), ?_⟩
  have hA : (am (cxOf (L2.CX P w) P w K mg base ["_law_pen", "_law_amount", "_law_found", "_law_at", "_law_cell"] "_law_take" (defScope st__law_take) (He.ga K "_law_take") cdv U outer s H E) (bm K pi ga)) = ⟨K, (bm K pi ga).cl, pi, ga⟩ := rfl
  unfold F__law_take at hw
  split at hw
  · next n =>
    split at hw
    · next hn =>
      obtain ⟨hn0, hn30, htk⟩ := hn
      obtain ⟨v0, v1, rfl, rfl, rfl⟩ : ∃ v0 v1, vs = [v0, v1] ∧ v0 = V.ref pi ∧ v1 = V.int n := by
        cases rv with
        | cons r1 r2 => cases r1; cases r2 with
          | cons r3 r4 => cases r3; cases r4; exact ⟨_, _, rfl, rfl, rfl⟩
      obtain ⟨ne, ⟨at_, rest, hpen, hat0, hatk⟩, ns, hcells, hns⟩ := rp.pen
      have hn30' : n < 1073741824 := by simpa using hn30
      have fin : ∀ (z : Int) (e1 : Emb) (H1 : Hp), Ext ⟨K, (bm K pi ga).cl, pi, ga⟩ e S.nx H e1 S.nx H1 → Rep ⟨K, (bm K pi ga).cl, pi, ga⟩ e1 (S.tok (S.tk - 1)) H1 → Q (.int (z % n)) H1 := fun z e1 H1 x1 rp1 => by
        have m0 := Int.emod_nonneg z (show n ≠ 0 by omega)
        have m1 := Int.emod_lt_of_pos z hn0
        have := hw (z % n).toNat (by omega)
        refine this e1 H1 (.int (z % n)) x1 rp1 ?_
        have q : (((z % n).toNat : Nat) : Int) = z % n := Int.toNat_of_nonneg m0
        simp only [q]
        exact .int _
      refine ⟨.ref pi, rfl, pi, _, 2, .int rest, rfl, rfl, SqL.of hpen, rfl, .int n, rfl, rest, n, rfl, rfl, _, rfl, ite2 (fun hlt => ?_) (fun hge => ?_)⟩
      · refine ⟨.ref pi, rfl, pi, _, 1, .int at_, rfl, rfl, SqL.of hpen, rfl, ?_⟩
        refine ⟨.int at_, rfl, .ref pi, rfl, pi, _, 0, .ref ga, rfl, rfl, SqL.of hpen, rfl, ga, _, rfl, .inl (SqL.of hcells), at_, _, rfl, rfl, _, rfl, ite2 (fun hlt2 => ?_) (fun hge2 => ?_)⟩
        · obtain ⟨c, hc⟩ : ∃ c, ns[at_.toNat]? = some c := by
            simp at hlt2
            exact ⟨ns[at_.toNat]'(by omega), List.getElem?_eq_getElem _⟩
          refine ⟨.ref pi, rfl, pi, _, 0, .ref ga, rfl, rfl, SqL.of hpen, rfl, .int at_, rfl, ga, _, at_, .int c, rfl, rfl, SqL.of hcells, at_of (j := at_.toNat) (by omega) (by rw [List.getElem?_map, hc]; rfl), ?_⟩
          refine ⟨.int at_, rfl, at_, 1, rfl, rfl, .ref pi, rfl, pi, _, 1, 1, rfl, rfl, hpen, rfl, ?_⟩
          have rp1 := pen_set (tk := S.tk - 1) (at_ := at_ + 1) (rest := rest) rp hpen (by omega) (by omega)
          have x1 := pen_ext (o := .lst [.ref ga, .int (at_ + 1), .int rest]) rp hpen
          obtain ⟨z, hz⟩ := F_spread (S.tok (S.tk - 1)) (c := c) hat0 (by omega)
          refine ⟨e, S.tok (S.tk - 1), [some .pen, some (.int n), none, some (.int at_), some (.int c)], rp1, ⟨rfl, slr5 (A := ⟨K, (bm K pi ga).cl, pi, ga⟩) (n := n) (at_ := at_)⟩, ?_⟩
          rw [show cCall F__law_spread [cVar 4, cVar 3] [some W.pen, some (W.int n), none, some (W.int at_), some (W.int c)] (S.tok (S.tk - 1)) = .ok (.int z, S.tok (S.tk - 1)) from by simp [hz]]
          intro e2 H2 v x2 rp2 rv2
          cases rv2
          obtain ⟨at2, rest2, hpen2, hat2, hatk2⟩ := rp2.pen.pen
          refine ⟨.ref pi, rfl, pi, _, 2, 2, rfl, rfl, hpen2, rfl, ?_⟩
          have rp3 := pen_set (tk := S.tk - 1) (at_ := at2) (rest := z) rp2 hpen2 hat2 hatk2
          have x3 := (x1.trans x2).trans (pen_ext (o := .lst [.ref ga, .int at2, .int z]) rp2 hpen2)
          refine ⟨.ref pi, rfl, pi, _, 2, .int z, rfl, rfl, SqL.of (upd_same (o := .lst [.ref ga, .int at2, .int z])), rfl, .inl ⟨z, rfl, .int n, rfl, z, n, rfl, rfl, hn0, ?_⟩⟩
          refine ⟨.ref pi, rfl, pi, _, 2, .int z, rfl, rfl, SqL.of (upd_same (o := .lst [.ref ga, .int at2, .int z])), rfl, .int n, rfl, z, n, rfl, rfl, ⟨hn0, hn30'⟩, .ref pi, rfl, pi, _, 2, 2, rfl, rfl, (upd_same (o := .lst [.ref ga, .int at2, .int z])), rfl, ?_⟩
          refine ⟨_, rfl, ?_⟩
          exact fin z _ _ (x3.trans (pen_ext rp3 upd_same)) (pen_set (S := S.tok (S.tk - 1)) (tk := S.tk - 1) rp3 (upd_same (o := .lst [.ref ga, .int at2, .int z])) hat2 hatk2)
        · refine ⟨.ref pi, rfl, pi, _, 0, .ref ga, rfl, rfl, SqL.of hpen, rfl, ga, _, rfl, .inl (SqL.of hcells), _, _, rfl, rfl, _, rfl, ite2 (fun hp => ?_) (fun hp => ?_)⟩
          · have hp' : 0 < ns.length := by simpa using hp
            have hlm : (ns.map V.int).length = ns.length := List.length_map ..
            have hm0 := Int.emod_nonneg (at_ * 5 + 3) (show ((ns.map V.int).length : Int) ≠ 0 by omega)
            have hm1 := Int.emod_lt_of_pos (at_ * 5 + 3) (show (0 : Int) < ((ns.map V.int).length : Int) by omega)
            obtain ⟨k, hk⟩ : ∃ k : Nat, (at_ * 5 + 3) % ((ns.map V.int).length : Int) = (k : Int) := ⟨_, (Int.toNat_of_nonneg hm0).symm⟩
            obtain ⟨c0, hc0⟩ : ∃ c, ns[k]? = some c := by
              rw [hk] at hm1
              simp at hm1
              exact ⟨ns[k], List.getElem?_eq_getElem hm1⟩
            refine ⟨.ref pi, rfl, pi, _, 0, .ref ga, rfl, rfl, SqL.of hpen, rfl, .int at_, rfl, at_, 5, rfl, rfl, .inr ⟨by decide, by decide⟩, at_ * 5, 3, rfl, rfl, .inl ⟨at_ * 5 + 3, rfl, .ref pi, rfl, pi, _, 0, .ref ga, rfl, rfl, SqL.of hpen, rfl, ga, _, rfl, .inl (SqL.of hcells), at_ * 5 + 3, _, rfl, rfl, by omega, ga, _, _, .int c0, rfl, rfl, SqL.of hcells, at_of (j := k) hk (by rw [List.getElem?_map, hc0]; rfl), .inl ⟨c0, rfl, 10, 17, rfl, rfl, ⟨by decide, by decide, by decide⟩, .int at_, rfl, 10 ^ 17, at_, rfl, rfl, c0, 10 ^ 17 + at_, rfl, rfl, by omega, ?_⟩⟩⟩
            obtain ⟨cc, hcc⟩ : ∃ cc : Int, cc = c0 % (10 ^ 17 + at_) := ⟨_, rfl⟩
            refine ⟨.int at_, rfl, at_, 1, rfl, rfl, .ref pi, rfl, pi, _, 1, 1, rfl, rfl, hpen, rfl, ?_⟩
            have rp1 := pen_set (tk := S.tk - 1) (at_ := at_ + 1) (rest := rest) rp hpen (by omega) (by omega)
            have x1 := pen_ext (o := .lst [.ref ga, .int (at_ + 1), .int rest]) rp hpen
            obtain ⟨z, hz⟩ := F_spread (S.tok (S.tk - 1)) (c := cc) hat0 (by omega)
            refine ⟨e, S.tok (S.tk - 1), [some .pen, some (.int n), none, some (.int at_), some (.int (cc))], rp1, ⟨rfl, by subst hcc; exact slr5 (A := ⟨K, (bm K pi ga).cl, pi, ga⟩) (n := n) (at_ := at_)⟩, ?_⟩
            rw [show cCall F__law_spread [cVar 4, cVar 3] [some W.pen, some (W.int n), none, some (W.int at_), some (W.int (cc))] (S.tok (S.tk - 1)) = .ok (.int z, S.tok (S.tk - 1)) from by simp [hz]]
            intro e2 H2 v x2 rp2 rv2
            cases rv2
            obtain ⟨at2, rest2, hpen2, hat2, hatk2⟩ := rp2.pen.pen
            refine ⟨.ref pi, rfl, pi, _, 2, 2, rfl, rfl, hpen2, rfl, ?_⟩
            have rp3 := pen_set (tk := S.tk - 1) (at_ := at2) (rest := z) rp2 hpen2 hat2 hatk2
            have x3 := (x1.trans x2).trans (pen_ext (o := .lst [.ref ga, .int at2, .int z]) rp2 hpen2)
            refine ⟨.ref pi, rfl, pi, _, 2, .int z, rfl, rfl, SqL.of (upd_same (o := .lst [.ref ga, .int at2, .int z])), rfl, .inl ⟨z, rfl, .int n, rfl, z, n, rfl, rfl, hn0, ?_⟩⟩
            refine ⟨.ref pi, rfl, pi, _, 2, .int z, rfl, rfl, SqL.of (upd_same (o := .lst [.ref ga, .int at2, .int z])), rfl, .int n, rfl, z, n, rfl, rfl, ⟨hn0, hn30'⟩, .ref pi, rfl, pi, _, 2, 2, rfl, rfl, (upd_same (o := .lst [.ref ga, .int at2, .int z])), rfl, ?_⟩
            refine ⟨_, rfl, ?_⟩
            exact fin z _ _ (x3.trans (pen_ext rp3 upd_same)) (pen_set (S := S.tok (S.tk - 1)) (tk := S.tk - 1) rp3 (upd_same (o := .lst [.ref ga, .int at2, .int z])) hat2 hatk2)
          · refine ⟨.int at_, rfl, at_, 1, rfl, rfl, .ref pi, rfl, pi, _, 1, 1, rfl, rfl, hpen, rfl, ?_⟩
            have rp1 := pen_set (tk := S.tk - 1) (at_ := at_ + 1) (rest := rest) rp hpen (by omega) (by omega)
            have x1 := pen_ext (o := .lst [.ref ga, .int (at_ + 1), .int rest]) rp hpen
            obtain ⟨z, hz⟩ := F_spread (S.tok (S.tk - 1)) (c := 0) hat0 (by omega)
            refine ⟨e, S.tok (S.tk - 1), [some .pen, some (.int n), none, some (.int at_), some (.int 0)], rp1, ⟨rfl, slr5 (A := ⟨K, (bm K pi ga).cl, pi, ga⟩) (n := n) (at_ := at_)⟩, ?_⟩
            rw [show cCall F__law_spread [cVar 4, cVar 3] [some W.pen, some (W.int n), none, some (W.int at_), some (W.int 0)] (S.tok (S.tk - 1)) = .ok (.int z, S.tok (S.tk - 1)) from by simp [hz]]
            intro e2 H2 v x2 rp2 rv2
            cases rv2
            obtain ⟨at2, rest2, hpen2, hat2, hatk2⟩ := rp2.pen.pen
            refine ⟨.ref pi, rfl, pi, _, 2, 2, rfl, rfl, hpen2, rfl, ?_⟩
            have rp3 := pen_set (tk := S.tk - 1) (at_ := at2) (rest := z) rp2 hpen2 hat2 hatk2
            have x3 := (x1.trans x2).trans (pen_ext (o := .lst [.ref ga, .int at2, .int z]) rp2 hpen2)
            refine ⟨.ref pi, rfl, pi, _, 2, .int z, rfl, rfl, SqL.of (upd_same (o := .lst [.ref ga, .int at2, .int z])), rfl, .inl ⟨z, rfl, .int n, rfl, z, n, rfl, rfl, hn0, ?_⟩⟩
            refine ⟨.ref pi, rfl, pi, _, 2, .int z, rfl, rfl, SqL.of (upd_same (o := .lst [.ref ga, .int at2, .int z])), rfl, .int n, rfl, z, n, rfl, rfl, ⟨hn0, hn30'⟩, .ref pi, rfl, pi, _, 2, 2, rfl, rfl, (upd_same (o := .lst [.ref ga, .int at2, .int z])), rfl, ?_⟩
            refine ⟨_, rfl, ?_⟩
            exact fin z _ _ (x3.trans (pen_ext rp3 upd_same)) (pen_set (S := S.tok (S.tk - 1)) (tk := S.tk - 1) rp3 (upd_same (o := .lst [.ref ga, .int at2, .int z])) hat2 hatk2)
      · refine ⟨.ref pi, rfl, pi, _, 2, .int rest, rfl, rfl, SqL.of hpen, rfl, .inl ⟨rest, rfl, .int n, rfl, rest, n, rfl, rfl, hn0, ?_⟩⟩
        refine ⟨.ref pi, rfl, pi, _, 2, .int rest, rfl, rfl, SqL.of hpen, rfl, .int n, rfl, rest, n, rfl, rfl, ⟨hn0, hn30'⟩, .ref pi, rfl, pi, _, 2, 2, rfl, rfl, hpen, rfl, ?_⟩
        refine ⟨_, rfl, ?_⟩
        exact fin rest _ _ (pen_ext rp hpen) (pen_set rp hpen hat0 (by omega))
    · exact (show False from hw).elim
  · exact (show False from hw).elim
end HD
namespace HD
open PySem PySem.Spec PyProof.Rows L2 HQ
variable {P : Program} {w : World} {K : PySem.W.Frag} {mg : Str → Option Value} {base : Heap} {pi ga : Addr}
abbrev st__law_one_each : Stmt := (top 38)
theorem sc__law_one_each : FnScope ["_law_text", "_law_some"] ["_law_text"] (defScope st__law_one_each) := ⟨rfl, rfl, rfl, by decide +kernel, rfl, by decide +kernel, by decide +kernel⟩
theorem l__law_one_each (T : Tp P w K mg) : FnC P w K mg base (bm K pi ga) 1 (He.ga K "_law_one_each") 1 F__law_one_each :=
 (T.d__law_one_each).c (N := ["_law_text", "_law_some"]) (n := 1) (b := _) sc__law_one_each rfl fun X Wx d => (sb_cons (d.set 1 (se_lst (sa_cons (se_exc (d.xk T.e_NoProgram) (d.at T.g_NoProgram) (d.gl (by decide +kernel)) (d.v 0 (by decide +kernel))) (sa_cons (se_exc (d.xk T.e_NoInputs) (d.at T.g_NoInputs) (d.gl (by decide +kernel)) (d.v 0 (by decide +kernel))) (sa_cons (se_exc (d.xk T.e_NoPlan) (d.at T.g_NoPlan) (d.gl (by decide +kernel)) (d.v 0 (by decide +kernel))) (sa_cons (se_exc (d.xk T.e_NoBorrowed) (d.at T.g_NoBorrowed) (d.gl (by decide +kernel)) (d.v 0 (by decide +kernel))) (sa_cons (se_exc (d.xk T.e_NoUpdates) (d.at T.g_NoUpdates) (d.gl (by decide +kernel)) (d.v 0 (by decide +kernel))) (sa_cons (se_exc (d.xk T.e_NoUpdate) (d.at T.g_NoUpdate) (d.gl (by decide +kernel)) (d.v 0 (by decide +kernel))) sa_nil))))))) (by decide +kernel))
 (sb_cons (d.set 1 (se_add (d.v 1 (by decide +kernel)) (se_lst (sa_cons (se_exc (d.xk T.e_NoPrices) (d.at T.g_NoPrices) (d.gl (by decide +kernel)) (d.v 0 (by decide +kernel))) (sa_cons (se_exc (d.xk T.e_NoWord) (d.at T.g_NoWord) (d.gl (by decide +kernel)) (d.v 0 (by decide +kernel))) (sa_cons (se_exc (d.xk T.e_NoStarts) (d.at T.g_NoStarts) (d.gl (by decide +kernel)) (d.v 0 (by decide +kernel))) (sa_cons (se_exc (d.xk T.e_NoState) (d.at T.g_NoState) (d.gl (by decide +kernel)) (d.v 0 (by decide +kernel))) (sa_cons (se_exc (d.xk T.e_NoMove) (d.at T.g_NoMove) (d.gl (by decide +kernel)) (d.v 0 (by decide +kernel))) (sa_cons (se_exc (d.xk T.e_NoNumber) (d.at T.g_NoNumber) (d.gl (by decide +kernel)) (d.v 0 (by decide +kernel))) sa_nil)))))))) (by decide +kernel))
 (sb_one (ss_ret (se_add (d.v 1 (by decide +kernel)) (se_lst (sa_cons (se_exc (d.xk T.e_NoRoom) (d.at T.g_NoRoom) (d.gl (by decide +kernel)) (d.v 0 (by decide +kernel))) (sa_cons (se_exc (d.xk T.e_NoPlans) (d.at T.g_NoPlans) (d.gl (by decide +kernel)) (d.v 0 (by decide +kernel))) (sa_cons (se_exc (d.xk T.e_NoChange) (d.at T.g_NoChange) (d.gl (by decide +kernel)) (d.v 0 (by decide +kernel))) (sa_cons (se_exc (d.xk T.e_TooLong) (d.at T.g_TooLong) (d.gl (by decide +kernel)) (d.v 0 (by decide +kernel))) (sa_cons (se_exc (d.xk T.e_TooMany) (d.at T.g_TooMany) (d.gl (by decide +kernel)) (d.v 0 (by decide +kernel))) sa_nil)))))))))))
abbrev st__law_kinds : Stmt := (top 39)
theorem sc__law_kinds : FnScope ["_law_error", "_law_some"] ["_law_error"] (defScope st__law_kinds) := ⟨rfl, rfl, rfl, by decide +kernel, rfl, by decide +kernel, by decide +kernel⟩
theorem l__law_kinds (T : Tp P w K mg) : FnC P w K mg base (bm K pi ga) 1 (He.ga K "_law_kinds") 1 F__law_kinds :=
 (T.d__law_kinds).c (N := ["_law_error", "_law_some"]) (n := 1) (b := _) sc__law_kinds rfl fun X Wx d => (sb_cons (d.set 1 (se_lst (sa_cons (se_isE (d.gl (by decide +kernel)) (d.fre T.f_isinstance) (pe_cls (d.gl (by decide +kernel)) (d.at T.g_NoProgram)) (.own _) (d.isk T.s_NoProgram) (d.v 0 (by decide +kernel))) (sa_cons (se_isE (d.gl (by decide +kernel)) (d.fre T.f_isinstance) (pe_cls (d.gl (by decide +kernel)) (d.at T.g_NoInputs)) (.own _) (d.isk T.s_NoInputs) (d.v 0 (by decide +kernel))) (sa_cons (se_isE (d.gl (by decide +kernel)) (d.fre T.f_isinstance) (pe_cls (d.gl (by decide +kernel)) (d.at T.g_NoPlan)) (.own _) (d.isk T.s_NoPlan) (d.v 0 (by decide +kernel))) sa_nil)))) (by decide +kernel))
 (sb_cons (d.set 1 (se_add (d.v 1 (by decide +kernel)) (se_lst (sa_cons (se_isE (d.gl (by decide +kernel)) (d.fre T.f_isinstance) (pe_cls (d.gl (by decide +kernel)) (d.at T.g_NoBorrowed)) (.own _) (d.isk T.s_NoBorrowed) (d.v 0 (by decide +kernel))) (sa_cons (se_isE (d.gl (by decide +kernel)) (d.fre T.f_isinstance) (pe_cls (d.gl (by decide +kernel)) (d.at T.g_NoUpdates)) (.own _) (d.isk T.s_NoUpdates) (d.v 0 (by decide +kernel))) (sa_cons (se_isE (d.gl (by decide +kernel)) (d.fre T.f_isinstance) (pe_cls (d.gl (by decide +kernel)) (d.at T.g_NoUpdate)) (.own _) (d.isk T.s_NoUpdate) (d.v 0 (by decide +kernel))) sa_nil))))) (by decide +kernel))
 (sb_cons (d.set 1 (se_add (d.v 1 (by decide +kernel)) (se_lst (sa_cons (se_isE (d.gl (by decide +kernel)) (d.fre T.f_isinstance) (pe_cls (d.gl (by decide +kernel)) (d.at T.g_NoPrices)) (.own _) (d.isk T.s_NoPrices) (d.v 0 (by decide +kernel))) (sa_cons (se_isE (d.gl (by decide +kernel)) (d.fre T.f_isinstance) (pe_cls (d.gl (by decide +kernel)) (d.at T.g_NoWord)) (.own _) (d.isk T.s_NoWord) (d.v 0 (by decide +kernel))) (sa_cons (se_isE (d.gl (by decide +kernel)) (d.fre T.f_isinstance) (pe_cls (d.gl (by decide +kernel)) (d.at T.g_NoStarts)) (.own _) (d.isk T.s_NoStarts) (d.v 0 (by decide +kernel))) sa_nil))))) (by decide +kernel))
 (sb_cons (d.set 1 (se_add (d.v 1 (by decide +kernel)) (se_lst (sa_cons (se_isE (d.gl (by decide +kernel)) (d.fre T.f_isinstance) (pe_cls (d.gl (by decide +kernel)) (d.at T.g_NoState)) (.own _) (d.isk T.s_NoState) (d.v 0 (by decide +kernel))) (sa_cons (se_isE (d.gl (by decide +kernel)) (d.fre T.f_isinstance) (pe_cls (d.gl (by decide +kernel)) (d.at T.g_NoMove)) (.own _) (d.isk T.s_NoMove) (d.v 0 (by decide +kernel))) (sa_cons (se_isE (d.gl (by decide +kernel)) (d.fre T.f_isinstance) (pe_cls (d.gl (by decide +kernel)) (d.at T.g_NoNumber)) (.own _) (d.isk T.s_NoNumber) (d.v 0 (by decide +kernel))) sa_nil))))) (by decide +kernel))
 (sb_cons (d.set 1 (se_add (d.v 1 (by decide +kernel)) (se_lst (sa_cons (se_isE (d.gl (by decide +kernel)) (d.fre T.f_isinstance) (pe_cls (d.gl (by decide +kernel)) (d.at T.g_NoRoom)) (.own _) (d.isk T.s_NoRoom) (d.v 0 (by decide +kernel))) (sa_cons (se_isE (d.gl (by decide +kernel)) (d.fre T.f_isinstance) (pe_cls (d.gl (by decide +kernel)) (d.at T.g_NoPlans)) (.own _) (d.isk T.s_NoPlans) (d.v 0 (by decide +kernel))) (sa_cons (se_isE (d.gl (by decide +kernel)) (d.fre T.f_isinstance) (pe_cls (d.gl (by decide +kernel)) (d.at T.g_NoChange)) (.own _) (d.isk T.s_NoChange) (d.v 0 (by decide +kernel))) sa_nil))))) (by decide +kernel))
 (sb_one (ss_ret (se_add (d.v 1 (by decide +kernel)) (se_lst (sa_cons (se_isE (d.gl (by decide +kernel)) (d.fre T.f_isinstance) (pe_cls (d.gl (by decide +kernel)) (d.at T.g_TooLong)) (.own _) (d.isk T.s_TooLong) (d.v 0 (by decide +kernel))) (sa_cons (se_isE (d.gl (by decide +kernel)) (d.fre T.f_isinstance) (pe_cls (d.gl (by decide +kernel)) (d.at T.g_TooMany)) (.own _) (d.isk T.s_TooMany) (d.v 0 (by decide +kernel))) sa_nil)))))))))))
abbrev st_law : Stmt := (top 40)
theorem sc_law : FnScope ["_law_script", "_law_pen", "_law_rows", "_law_errors", "_law_again", "_law_k", "_law_error", "_law_index"] ["_law_script"] (defScope st_law) := ⟨rfl, rfl, rfl, by decide +kernel, rfl, by decide +kernel, by decide +kernel⟩
theorem l_law_rest (T : Tp P w K mg) : ∀ (X : L2.Cx) (Wx : WX), Bs P w K mg base ["_law_script", "_law_pen", "_law_rows", "_law_errors", "_law_again", "_law_k", "_law_error", "_law_index"] (defScope st_law) 7 X Wx → SB X (bm K pi ga) Wx ((defBody st_law).drop 1) law_rest := fun X Wx d => (sb_cons (d.setLc 2 [("_law_again", 4)] (by decide +kernel) (by decide +kernel) (si_rg1 (d.gl (by decide +kernel)) (d.fre T.f_range) se_int) (by decide +kernel) (fun _ b1 => (b1.nm 4 (by decide +kernel))) (fun _ b1 => (se_call b1.fr b1.takes (b1.cal (l__law_one_each T) (by decide)) (b1.at T.g__law_one_each) (sa_cons (se_ix b1.room (se_lst (sa_cons (se_str 0 (by decide +kernel)) (sa_cons (se_str 126607169618032 (by decide +kernel)) (sa_cons (se_str 275352576549260535867120289531258679313641124659317 (by decide +kernel)) sa_nil)))) (se_call b1.fr b1.takes (b1.cal (l__law_take T) (by decide)) (b1.at T.g__law_take) (sa_cons (b1.v 1 (by decide +kernel)) (sa_cons se_int sa_nil)))) sa_nil))))
 (sb_cons (d.for_ (si_seq (d.v 2 (by decide +kernel))) (d.nm 3 (by decide +kernel))
 (sb_one (d.for_ (si_en (d.gl (by decide +kernel)) (d.fre T.f_enumerate) (d.v 3 (by decide +kernel))) (stg_tup d.calm (stgs_cons (d.nm 5 (by decide +kernel)) (stgs_cons (d.nm 6 (by decide +kernel)) stgs_nil)))
 (sb_cons (ss_if (SW.st (sw_or (st_not (st_tru (se_isE (d.gl (by decide +kernel)) (d.fre T.f_isinstance) (pe_cls (d.gl (by decide +kernel)) (d.at T.g_HeldError)) (.own _) (d.isk T.s_HeldError) (d.v 6 (by decide +kernel))))) (sw_or1 (st_not (st_tru (se_isE (d.gl (by decide +kernel)) (d.fre T.f_isinstance) (pe_veC (d.gl (by decide +kernel)) (d.fre T.f_ValueError)) (.ty _) (d.isk T.s_ValueError) (d.v 6 (by decide +kernel))))))))
 (sb_one (ss_ret se_bl))
 sb_nil)
 (sb_one (ss_if (st_ne d.room (se_call d.fr d.takes (d.cal (l__law_kinds T) (by decide)) (d.at T.g__law_kinds) (sa_cons (d.v 6 (by decide +kernel)) sa_nil)) (d.toBd.lc [("_law_index", 7)] (si_rg1 (d.gl (by decide +kernel)) (d.fre T.f_range) se_int) (by decide +kernel) (fun _ b1 => (b1.nm 7 (by decide +kernel))) (fun _ b1 => (se_eq b1.room (b1.v 7 (by decide +kernel)) (b1.v 5 (by decide +kernel))))))
 (sb_one (ss_ret se_bl))
 sb_nil))))))
 (sb_cons (ss_if (st_notB (se_call d.fr d.takes (d.cal (l_is_program T) (by decide)) (d.at T.g_is_program) (sa_cons (se_ix d.room (se_lst (sa_cons se_non (sa_cons (se_tup sa_nil) (sa_cons (se_str 161797877778621005941 (by decide +kernel)) (sa_cons (se_lst (sa_cons se_int sa_nil)) sa_nil))))) (se_call d.fr d.takes (d.cal (l__law_take T) (by decide)) (d.at T.g__law_take) (sa_cons (d.v 1 (by decide +kernel)) (sa_cons se_int sa_nil)))) sa_nil)) se_bl)
 (sb_one (ss_ret se_bl))
 sb_nil)
 (sb_one (ss_ret (se_and (se_isE (d.gl (by decide +kernel)) (d.fre T.f_isinstance) (pe_veC (d.gl (by decide +kernel)) (d.fre T.f_ValueError)) (.ty _) (d.isk T.s_ValueError) (se_exc (d.xk T.e_HeldError) (d.at T.g_HeldError) (d.gl (by decide +kernel)) (se_str 161797877778621005941 (by decide +kernel)))) (se_one (se_notIn d.room se_bl (se_call d.fr d.takes (d.cal (l__law_kinds T) (by decide)) (d.at T.g__law_kinds) (sa_cons (se_exc (d.xk T.e_HeldError) (d.at T.g_HeldError) (d.gl (by decide +kernel)) (se_str 161797877778621005941 (by decide +kernel))) sa_nil))))))))))
end HD
namespace HD
open PySem PySem.Spec PyProof.Rows L2 HQ
variable {P : Program} {w : World} {K : PySem.W.Frag} {mg : Str → Option Value} {base : Heap} {pi ga : Addr}
/-- what opening a pen promises: two new lists, and nothing else is told -/
def spOpen (K : PySem.W.Frag) (ns : List Int) : Sp := fun vs H Q _ => ∃ a, vs = [.ref a] ∧ SqL K H a (ns.map V.int) ∧
  ∀ (p g : Addr) (H' : Hp) (ms : List Int), p ≠ g → H' p = some (.lst [.ref g, .int 0, .int 0]) → H' g = some (.lst (ms.map V.int)) → ms.length ≤ 12 → Q (.ref p) H'
theorem cut_int (ns : List Int) (lo hi : Option Int) : ∀ x ∈ cutV (ns.map V.int) lo hi, ∃ z, x = V.int z := by
  intro x hx
  have := List.mem_of_mem_drop (List.mem_of_mem_take hx)
  obtain ⟨z, _, rfl⟩ := List.mem_map.mp this
  exact ⟨z, rfl⟩
theorem cut_ints (ns : List Int) (lo hi : Option Int) : ∃ ms : List Int, cutV (ns.map V.int) lo hi = ms.map V.int := by
  unfold cutV
  exact ⟨_, by rw [← List.map_drop, ← List.map_take]⟩
theorem cut_12 (xs : List V) (h : 0 < (cutV xs (some 12) (some 63)).length) : (cutV xs none (some 12)).length = 12 := by
  unfold cutV at *
  have e1 : ∀ n d, HT.sIx n d (some 12) = min 12 n := fun n d => HT.sIx_nat n d 12
  have e2 : ∀ n d, HT.sIx n d (some 63) = min 63 n := fun n d => HT.sIx_nat n d 63
  rw [List.length_take, List.length_drop, e1, e2] at h
  rw [List.length_take, List.length_drop, e1, HT.sIx_none]
  omega
theorem cut_le (xs : List V) : (cutV xs none (some 12)).length ≤ 12 := by
  unfold cutV
  have e1 : ∀ n d, HT.sIx n d (some 12) = min 12 n := fun n d => HT.sIx_nat n d 12
  rw [List.length_take, e1, HT.sIx_none]
  omega
theorem sq_new {H : Hp} {a p : Addr} {o : HO} {xs : List V} (h : SqL K H a xs) (hp : H p = none) : SqL K (upd H p o) a xs := by
  have new : ∀ (b : Addr) (u : HO), H b = some u → upd H p o b = some u := fun b u q => (upd_ne fun z => by subst z; rw [hp] at q; cases q).trans q
  exact h.elim (fun h => .inl (h.elim (fun h => .inl (new _ _ h)) fun ⟨o, h⟩ => .inr ⟨o, new _ _ h⟩)) fun h => .inr h
theorem open_q (T : Tp P w K mg) (ns : List Int) : FnQ P w K mg base 1 (He.ga K "_law_open") (T.d__law_open.ex.choose) ["_law_script"] (spOpen K ns) := by
  obtain ⟨F, hb⟩ := T.d__law_open.ex.choose_spec
  refine fnq_of F sc__law_open (fun vs H Q E h => by obtain ⟨a, rfl, _⟩ := h; rfl) fun cdv U outer s H vs Q E hgd hr h => ?_
  have d : Bs P w K mg base ["_law_script", "_law_cells", "_law_k", "_law_cell"] (defScope st__law_open) 0 (cxOf (L2.CX P w) P w K mg base ["_law_script", "_law_cells", "_law_k", "_law_cell"] "_law_open" (defScope st__law_open) (He.ga K "_law_open") cdv U outer s H E) (Wof E) :=
    ⟨⟨rfl, rfl, rfl, rfl, rfl, sc__law_open.nd, ⟨rfl, rfl⟩, rfl, takes_of rfl rfl rfl rfl, hr, hgd⟩, rfl, passes_of rfl⟩
  obtain ⟨a, rfl, hsq, hQ⟩ := h
  refine ⟨_, pss_cons (ps_set (i := 1) sc__law_open.nd rfl (.inl rfl) (pe_callTy call_list_of (by rfl) T.f_list (by decide +kernel) (pa_cons (pe_slice sl_list (pv 0) po_none (po_some pe_int)) pa_nil)))
    (pss_cons (ps_for d.own d.calm (pi_enQ (by rfl) T.f_enumerate (pa_cons (pe_slice sl_list (pv 0) (po_some pe_int) (po_some pe_int)) pa_nil))
        (pg_tup d.calm (pgs_cons (pg_name (i := 2) sc__law_open.nd rfl (.inl rfl)) (pgs_cons (pg_name (i := 3) sc__law_open.nd rfl (.inl rfl)) pgs_nil)))
        (pss_one (ps_asg (pe_op op_add (pe_ix ix_list (pv 1) (pe_op op_mod (pe_callTy call_int1 (by rfl) T.f_int (by decide +kernel) (pa_cons (pv 2) pa_nil)) pe_int) (fun _ _ => rfl)) (pv 3))
          (pg_sub (pv 1) (pe_op op_mod (pe_callTy call_int1 (by rfl) T.f_int (by decide +kernel) (pa_cons (pv 2) pa_nil)) pe_int) set_list))))
     (pss_one (ps_ret (pe_lst (pa_cons (pv 1) (pa_cons pe_int (pa_cons pe_int pa_nil))))))), ?_⟩
  obtain ⟨ms0, hms0⟩ := cut_ints ns none (some 12)
  obtain ⟨xs2, hxs2⟩ : ∃ xs2, xs2 = cutV (ns.map V.int) (some 12) (some 63) := ⟨_, rfl⟩
  have hint : ∀ x ∈ xs2, ∃ z, x = V.int z := by subst hxs2; exact cut_int ns _ _
  have hle : ms0.length ≤ 12 := by
    rw [← List.length_map (f := V.int), ← hms0]; exact cut_le _
  have h12 : 0 < xs2.length → ms0.length = 12 := by
    intro q; rw [← List.length_map (f := V.int), ← hms0]; subst hxs2; exact cut_12 _ q
  refine ⟨.ref a, rfl, 12, rfl, a, _, rfl, hsq, fun p1 hp1 => ⟨p1, _, rfl, .inl (SqL.of upd_same), fun g hg => ?_⟩⟩
  refine ⟨.ref a, rfl, 12, rfl, 63, rfl, a, ns.map V.int, rfl, sq_new (sq_new hsq hp1) hg, fun p2 hp2 => ⟨true, p2, _, rfl, SqL.of upd_same, ?_⟩⟩
  have hpg : g ≠ p2 := fun z => by subst z; rw [upd_same] at hp2; cases hp2
  refine ⟨fun i m σ H' => ∃ (o1 o2 : Option V) (ms : List Int), σ = [some (.ref a), some (.ref g), o1, o2] ∧ H' g = some (.lst (ms.map V.int)) ∧ ms.length = ms0.length ∧ H' p2 = some (.lst xs2) ∧ i + m = xs2.length, ⟨xs2.length, none, none, ms0, rfl, ?_, rfl, ?_, by omega⟩, ?_⟩
  · rw [upd_ne hpg, upd_same, hms0]
  · rw [upd_same, hxs2]
  rintro i m σ H' ⟨o1, o2, ms, rfl, hgl, hlen, hp2l, him⟩
  by_cases hm : m = 0
  · refine .inl ⟨⟨xs2, SqL.of hp2l, by omega⟩, .ref g, rfl, (show 3 ≤ sizeLine by rw [sizeL]; decide), fun p hp => ?_⟩
    have hne : p ≠ g := fun z => by subst z; rw [hgl] at hp; cases hp
    exact hQ p g _ ms hne upd_same ((upd_ne hne.symm).trans hgl) (by omega)
  · refine .inr ⟨⟨xs2, SqL.of hp2l, by omega⟩, fun σ' H'' => ∃ (o1 o2 : Option V) (ms : List Int), σ' = [some (.ref a), some (.ref g), o1, o2] ∧ H'' g = some (.lst (ms.map V.int)) ∧ ms.length = ms0.length ∧ H'' p2 = some (.lst xs2), ?_, ?_⟩
    · rintro σ' H'' ⟨o1, o2, ms, rfl, q1, q2, q3⟩
      exact ⟨m - 1, by omega, o1, o2, ms, rfl, q1, q2, q3, by omega⟩
    · rintro x H'' ⟨T, y, rfl, hT, rfl, hy⟩
      have hy := hy xs2 (SqL.of hp2l)
      obtain ⟨z, rfl⟩ := hint y (List.mem_of_getElem? hy)
      have gT : g ≠ T := fun z => by subst z; rw [hgl] at hT; cases hT
      have pT : p2 ≠ T := fun z => by subst z; rw [hp2l] at hT; cases hT
      have h12' : ms.length = 12 := hlen.trans (h12 (by omega))
      obtain ⟨c, hc⟩ : ∃ c, ms[i % 12]? = some c := ⟨ms[i % 12]'(by omega), List.getElem?_eq_getElem _⟩
      have hk : ((i : Nat) : Int) % 12 = ((i % 12 : Nat) : Int) := rfl
      have hgT : upd H' T (.tup [.int ((i : Nat) : Int), .int z]) g = some (.lst (ms.map V.int)) := (upd_ne gT).trans hgl
      refine ⟨T, _, rfl, SqT.of upd_same, rfl, .int i, _, rfl, .int z, _, rfl, rfl, ?_⟩
      refine ⟨.ref g, rfl, .int i, rfl, .inl ⟨i, rfl, i, 12, rfl, rfl, (show (0 : Int) < 12 by decide), g, _, _, .int c, rfl, rfl, SqL.of hgT, at_of (j := i % 12) hk (by rw [List.getElem?_map, hc]; rfl), ?_⟩⟩
      refine ⟨.int z, rfl, c, z, rfl, rfl, ?_⟩
      refine ⟨.ref g, rfl, .int i, rfl, .inl ⟨i, rfl, i, 12, rfl, rfl, (show (0 : Int) < 12 by decide), g, _, _, i % 12, rfl, rfl, hgT, ?_, ?_⟩⟩
      · show ixN (ms.map V.int).length _ = some (i % 12)
        have hl : (ms.map V.int).length = 12 := by simpa using h12'
        simp only [hk, hl]
        unfold ixN; rw [if_pos (by omega), if_pos (by omega), Int.toNat_natCast]
      · refine ⟨_, _, ms.set (i % 12) (c + z), rfl, ?_, by simpa using hlen, (upd_ne hpg.symm).trans ((upd_ne pT).trans hp2l)⟩
        rw [upd_same, List.map_set]
end HD
namespace HD
open HQ
def lawR : HQ.R ((Out × Sl) × Hs) := law_rest [none, some .pen, none, none, none, none, none, none] S00
theorem ck_0_0 : chkL (fol 0 (fol 0 lawR)) = true := by decide +kernel
theorem ck_0_1 : chkL (fol 1 (fol 0 lawR)) = true := by decide +kernel
theorem ck_0_2 : chkL (fol 2 (fol 0 lawR)) = true := by decide +kernel
theorem ck_0 : chkL (fol 0 lawR) = true := chk_split 3 (by decide +kernel) (lt3 ck_0_0 ck_0_1 ck_0_2)
theorem ck_1_0 : chkL (fol 0 (fol 1 lawR)) = true := by decide +kernel
theorem ck_1_1 : chkL (fol 1 (fol 1 lawR)) = true := by decide +kernel
theorem ck_1_2 : chkL (fol 2 (fol 1 lawR)) = true := by decide +kernel
theorem ck_1 : chkL (fol 1 lawR) = true := chk_split 3 (by decide +kernel) (lt3 ck_1_0 ck_1_1 ck_1_2)
theorem ck_2_0 : chkL (fol 0 (fol 2 lawR)) = true := by decide +kernel
theorem ck_2_1 : chkL (fol 1 (fol 2 lawR)) = true := by decide +kernel
theorem ck_2_2 : chkL (fol 2 (fol 2 lawR)) = true := by decide +kernel
theorem ck_2 : chkL (fol 2 lawR) = true := chk_split 3 (by decide +kernel) (lt3 ck_2_0 ck_2_1 ck_2_2)
theorem ck : chkL lawR = true := chk_split 3 (by decide +kernel) (lt3 ck_0 ck_1 ck_2)
theorem G_law : HQ.wp lawR (fun q => q.1.1 = .ret (.bl true)) XF := chkL_ok _ ck
end HD
namespace HD
open PySem PySem.Spec PyProof.Rows L2 HQ
section
variable {P : Program} {w : World} {K : PySem.W.Frag} {mg : Str → Option Value} {base : Heap} {pi ga : Addr} {N : List Str} {sc : Scope} {k : Nat} {X : L2.Cx} {Wx : WX}
/-- a call by its promise, nothing raised -/
theorem pe_callQ (d : Bd P w K mg base N sc k X Wx) {j : Nat} {f : Addr} {fd : FuncData} {ps : List Str} {sp : Sp} {x : Str} {p pos : Pos} {a : Expr} {es : List Expr} {t : TA} (q : FnQ P w K mg base j f fd ps sp) (hj : j ≤ k) (hb : Binds K fd ps []) (kp : PySem.W.keepIn K (.ref f) = true) (hm : mg x = some (.ref f))
    (ha : PA X (a :: es) t) (hg : glOk sc x = true := by decide +kernel) (he : starEach (a :: es) X.env = (false, eval a X.env) :: starEach es X.env := by rfl) (hpl : (backTo pos (starEach es X.env)).any (·.1) = false := by rfl) :
    PE X (.Call (.Name x p) (a :: es) [] pos) (fun sg H Q => t sg H fun vs H1 => sp vs H1 Q fun _ _ _ => False) := by
  refine ⟨fun pins s sg H Q I h => ?_⟩
  refine wpAny_Call_Name_kw (ld_glob I (d.fr.gl hg) (d.at hm) ?_ (glOk.db hg))
  refine PySem.W.callWith_K (h₀ := X.base) I.ok.mod.kin (by rw [d.K]; exact kp) (thn (ha.run pos pins s sg H _ I h) fun us s1 ⟨vs, H1, I1, r, hsp⟩ => ⟨I1.kIn, ?_⟩) he hpl
  have q' : FnQ X.prog X.w X.K X.mg X.base j f fd ps sp := by rw [d.prog, d.w, d.K, d.mg, d.base]; exact q
  have hb' : Binds X.K fd ps [] := by rw [d.K]; exact hb
  have hl : us.length = ps.length := by rw [← r.length]; exact q'.len _ _ _ _ hsp
  have bb := hb' s1 us I1.kIn (by simpa using hl)
  rw [List.append_nil] at bb
  refine wpAny_call (codeAny_mono (q'.run X.A X.stack s1 H1 ⟨us, []⟩ us vs Q _ d.gd (d.room.mono hj) I1.env0 bb r hsp) fun r s' hq => ?_)
  match r, hq with
  | .error e, hq => obtain ⟨_, _, _, _, _, _, _, _, _, _, _, _, z⟩ := hq; exact z.elim
  | .ok (.ret u), hq => exact I1.after hq
end
variable {P : Program} {w : World} {K : PySem.W.Frag} {mg : Str → Option Value} {base : Heap}
def spLaw (K : PySem.W.Frag) (ns : List Int) : Sp := fun vs H Q _ => ∃ a, vs = [.ref a] ∧ SqL K H a (ns.map V.int) ∧ ∀ H', Q (.bl true) H'
theorem rep0 {A : Am} {H : Hp} {ms : List Int} (hne : A.pi ≠ A.ga) (hp : H A.pi = some (.lst [.ref A.ga, .int 0, .int 0])) (hg : H A.ga = some (.lst (ms.map V.int))) (hle : ms.length ≤ 12) :
    Rep A ⟨fun _ => 0, fun _ => False, fun _ => False⟩ ⟨fun _ => none, 0, 1000000000⟩ H where
  ob := fun i o h => by cases h
  inj := fun i j o u h => by cases h
  fzh := fun a h => h.elim
  hdh := fun a h => h.elim
  hdf := fun a h => h.elim
  fzp := ⟨⟨id, id⟩, id, id⟩
  pen := ⟨hne, ⟨0, 0, hp, by decide, by decide⟩, ⟨ms, hg, hle⟩⟩
theorem slrN {A : Am} {e : Emb} {nx : Nat} {H : Hp} {a : Addr} {sg : L2.St} (hsg : sg = [some (V.ref a), some (V.ref A.pi), none, none, none, none, none, none]) : ∀ (i : Nat) (w : W), ([none, some W.pen, none, none, none, none, none, none] : Sl)[i]? = some (some w) → ∃ v, sg[i]? = some (some v) ∧ VR A e nx H w v
  | 0, w, h => by simp at h
  | 1, w, h => by simp at h; subst h; subst hsg; exact ⟨_, rfl, .pen⟩
  | 2, w, h => by simp at h
  | 3, w, h => by simp at h
  | 4, w, h => by simp at h
  | 5, w, h => by simp at h
  | 6, w, h => by simp at h
  | 7, w, h => by simp at h
  | i + 8, w, h => by simp at h
theorem law_q (T : Tp P w K mg) (ns : List Int) : FnQ P w K mg base 8 (He.ga K "law") (T.d_law.ex.choose) ["_law_script"] (spLaw K ns) := by
  obtain ⟨F, hb⟩ := T.d_law.ex.choose_spec
  refine fnq_of F sc_law (fun vs H Q E h => by obtain ⟨a, rfl, _⟩ := h; rfl) fun cdv U outer s H vs Q E hgd hr h => ?_
  have d : Bs P w K mg base ["_law_script", "_law_pen", "_law_rows", "_law_errors", "_law_again", "_law_k", "_law_error", "_law_index"] (defScope st_law) 7 (cxOf (L2.CX P w) P w K mg base ["_law_script", "_law_pen", "_law_rows", "_law_errors", "_law_again", "_law_k", "_law_error", "_law_index"] "law" (defScope st_law) (He.ga K "law") cdv U outer s H E) (Wof E) :=
    ⟨⟨rfl, rfl, rfl, rfl, rfl, sc_law.nd, ⟨rfl, rfl⟩, rfl, takes_of rfl rfl rfl rfl, hr, hgd⟩, rfl, passes_of rfl⟩
  have R : PSs (cxOf (L2.CX P w) P w K mg base ["_law_script", "_law_pen", "_law_rows", "_law_errors", "_law_again", "_law_k", "_law_error", "_law_index"] "law" (defScope st_law) (He.ga K "law") cdv U outer s H E) ((defBody st_law).drop 1) (fun D sg H' => ∃ pi ga, rdS (am (cxOf (L2.CX P w) P w K mg base ["_law_script", "_law_pen", "_law_rows", "_law_errors", "_law_again", "_law_k", "_law_error", "_law_index"] "law" (defScope st_law) (He.ga K "law") cdv U outer s H E) (bm K pi ga)) (Wof E) law_rest D sg H') :=
    ⟨fun pins s' sg H' D I ⟨pi, ga, q⟩ => (l_law_rest (pi := pi) (ga := ga) T _ _ d).run pins s' sg H' D I q⟩
  obtain ⟨a, rfl, hsq, hQ⟩ := h
  refine ⟨_, pss_cons (ps_set (i := 1) sc_law.nd rfl (by first | exact .inl rfl | exact .inr rfl) (pe_callQ d.toBd (open_q T ns) (by decide) T.d__law_open.ex.choose_spec.2 T.d__law_open.ex.choose_spec.1.kp T.g__law_open (pa_cons (pv 0) pa_nil))) R, ?_⟩
  refine ⟨.ref a, rfl, a, rfl, hsq, fun p g H' ms hne hp hg hle => ⟨p, g, ⟨fun _ => 0, fun _ => False, fun _ => False⟩, ⟨fun _ => none, 0, 1000000000⟩, [none, some .pen, none, none, none, none, none, none], ?_, ⟨rfl, ?_⟩, ?_⟩⟩
  · exact rep0 hne hp hg hle
  · exact slrN rfl
  · refine wp_mono G_law (fun r q e' H' sg' x' rp' rs' => ?_) fun c sl S' q => ?_
    · obtain ⟨⟨o, sl⟩, S1⟩ := r
      have q : o = .ret (.bl true) := q
      subst q
      intro v rv
      cases rv
      exact hQ _
    · exact (show False from q).elim
end HD
namespace HD
open PySem PySem.Spec PyProof.Rows L2 HQ
def dOf (st : Stmt) (own : Option Str) (x qual : Str) : He.DefD := ⟨match own with
  | none => (x, none)
  | some c => (c, some x), x, qual, defArgs st, defBody st, defScope st, [], []⟩
def hfn0 : List He.DefD := [dOf (top 28) none "is_integer" "is_integer", dOf (top 29) none "is_kind" "is_kind", dOf (top 30) none "is_sort" "is_sort", dOf (top 31) none "is_head" "is_head", dOf (top 32) none "is_program" "is_program", dOf (top 35) none "_law_open" "_law_open", dOf (top 36) none "_law_spread" "_law_spread", dOf (top 37) none "_law_take" "_law_take", dOf (top 38) none "_law_one_each" "_law_one_each", dOf (top 39) none "_law_kinds" "_law_kinds", dOf (top 40) none "law" "law", dOf (mem 33 0) (some "Check") "__init__" "Check.__init__", dOf (mem 33 1) (some "Check") "is_right" "Check.is_right", dOf (mem 33 2) (some "Check") "is_block_right" "Check.is_block_right", dOf (mem 33 3) (some "Check") "is_call" "Check.is_call", dOf (mem 33 4) (some "Check") "is_slot" "Check.is_slot", dOf (mem 33 5) (some "Check") "is_of" "Check.is_of", dOf (mem 33 6) (some "Check") "is_block" "Check.is_block", dOf (mem 33 7) (some "Check") "is_cell" "Check.is_cell", dOf (mem 33 8) (some "Check") "child" "Check.child", dOf (mem 33 9) (some "Check") "is_channel" "Check.is_channel"]
def hfn : List He.DefD := hfn0
def hfa0 : List He.Fa := [.glo "is_integer", .glo "is_kind", .glo "is_sort", .glo "is_head", .glo "is_program", .glo "_law_open", .glo "_law_spread", .glo "_law_take", .glo "_law_one_each", .glo "_law_kinds", .glo "law", .meth "Check" "is_right", .meth "Check" "is_block_right", .meth "Check" "is_call", .meth "Check" "is_slot", .meth "Check" "is_of", .meth "Check" "is_block", .meth "Check" "is_cell", .meth "Check" "child", .meth "Check" "is_channel", .glo "Check", .cls "Check", .mkr "Check", .keep "Check", .glo "HeldError", .glo "NoProgram", .glo "NoInputs", .glo "NoPlan", .glo "NoBorrowed", .glo "NoUpdates"]
def hfa1 : List He.Fa := [.glo "NoUpdate", .glo "NoPrices", .glo "NoWord", .glo "NoStarts", .glo "NoState", .glo "NoMove", .glo "NoNumber", .glo "NoRoom", .glo "NoPlans", .glo "NoChange", .glo "TooLong", .glo "TooMany", .noat "Check" "kinds", .noat "Check" "channels", .noat "Check" "functions", .noat "Check" "number", .noat "Check" "slots", .int "MOST_NUMBER" 65535, .int "MOST_KINDS" 3, .int "MOST_CELLS" 3, .int "MOST_CHANNELS" 2, .int "MOST_FUNCTIONS" 4, .int "MOST_SLOTS" 6, .int "MOST_BODY" 8, .free "ValueError", .free "all", .free "bool", .free "enumerate", .free "int", .free "isinstance"]
def hfa2 : List He.Fa := [.free "len", .free "list", .free "range", .free "str", .free "tuple", .free "zip", .glo "SIZES"]
def hfa : List He.Fa := hfa0 ++ hfa1 ++ hfa2
def hts : List He.Tab := [(fun K => He.ga K "SIZES", tab_SIZES.map fun q => dec q.1)]
def hex (K : PySem.W.Frag) : Bool := (exkB K (clK K 1)) && ((exkB K (clK K 2)) && ((exkB K (clK K 3)) && ((exkB K (clK K 4)) && ((exkB K (clK K 5)) && ((exkB K (clK K 6)) && ((exkB K (clK K 7)) && ((exkB K (clK K 8)) && ((exkB K (clK K 9)) && ((exkB K (clK K 10)) && ((exkB K (clK K 11)) && ((exkB K (clK K 12)) && ((exkB K (clK K 13)) && ((exkB K (clK K 14)) && ((exkB K (clK K 15)) && ((exkB K (clK K 16)) && ((exkB K (clK K 17)) && ((exkB K (clK K 18)) && ((iskB K (clK K) (.ref (clK K 2)) ist_NoProgram) && ((iskB K (clK K) (.ref (clK K 3)) ist_NoInputs) && ((iskB K (clK K) (.ref (clK K 4)) ist_NoPlan) && ((iskB K (clK K) (.type "ValueError") ist_ValueError) && ((iskB K (clK K) (.ref (clK K 5)) ist_NoBorrowed) && ((iskB K (clK K) (.ref (clK K 6)) ist_NoUpdates) && ((iskB K (clK K) (.ref (clK K 7)) ist_NoUpdate) && ((iskB K (clK K) (.ref (clK K 8)) ist_NoPrices) && ((iskB K (clK K) (.ref (clK K 9)) ist_NoWord) && ((iskB K (clK K) (.ref (clK K 10)) ist_NoStarts) && ((iskB K (clK K) (.ref (clK K 11)) ist_NoState) && ((iskB K (clK K) (.ref (clK K 12)) ist_NoMove) && ((iskB K (clK K) (.ref (clK K 13)) ist_NoNumber) && ((iskB K (clK K) (.ref (clK K 14)) ist_NoRoom) && ((iskB K (clK K) (.ref (clK K 15)) ist_NoPlans) && ((iskB K (clK K) (.ref (clK K 16)) ist_NoChange) && ((iskB K (clK K) (.ref (clK K 17)) ist_TooLong) && ((iskB K (clK K) (.ref (clK K 18)) ist_TooMany) && ((iskB K (clK K) (.ref (clK K 1)) ist_HeldError) && ((tabB K (He.ga K "SIZES") tab_SIZES) && ((smB K) && ((([1, 2, 3, 4, 5, 6, 7, 8, 9, 10, 11, 12, 13, 14, 15, 16, 17, 18] : List Nat).all fun i => excB K (clK K i)))))))))))))))))))))))))))))))))))))))))
def hloose0 : List Str := ["HeldError", "NoProgram", "NoInputs", "NoPlan", "NoBorrowed", "NoUpdates", "NoUpdate", "NoPrices", "NoWord", "NoStarts", "NoState", "NoMove", "NoNumber", "NoRoom", "NoPlans", "NoChange", "TooLong", "TooMany", "MOST_NUMBER", "MOST_KINDS", "MOST_CELLS", "MOST_CHANNELS", "MOST_FUNCTIONS", "MOST_SLOTS", "MOST_BODY", "SIZES", "is_integer", "is_kind", "is_sort", "is_head"]
def hloose1 : List Str := ["is_program", "Check", "_law_open", "_law_spread", "_law_take", "_law_one_each", "_law_kinds"]
def hloose : List Str := hloose0 ++ hloose1
abbrev R : PySem.W.OpenRow := PySem.W.OpenLaw.row PySem.Challenge.rw_heldalone_k02_errors_by_hand
abbrev hk : PySem.W.Hook := hookQ 5 hfa hfn hts hex
def ob (s : PySem.W.SharedT) : AlQ := obsQ 5 hfa hfn hts hex (HandSHeadRun.getT s)
theorem ob_eq (s : PySem.W.SharedT) : ob s = hk.obs s.abs := obsQ_eq (HandSHeadRun.getT_eq s)
theorem hrun (w : World) : HandSHeadRun.RunEq R (PySem.W.view R.prog [40]) hk ob 20000 hloose w := PySem.W.byRow2 "special-get-raises" (P := fun w => HandSHeadRun.RunEq R (PySem.W.view R.prog [40]) hk ob 20000 hloose w) (fun w os => by kernel_rfl) (fun w os => by kernel_rfl) w
theorem defr {K : PySem.W.Frag} {st : Stmt} {x qual : Str} {ps : List Str} {f : Addr} (h : ∃ fd, FunD K x qual (defArgs st) (defBody st) (defScope st) [] [] f fd)
    (b : ∀ (kV doc pm : Value) (an : Option Addr) (cdv ct : Value) (us : List Value), us.length = ps.length → bindArgs (PySem.W.fnOf x qual (defArgs st) (defBody st) (defScope st) .none kV doc pm an cdv ct) ⟨us, []⟩ = pure (ps.zip us)) : DefR K st x qual ps f := by
  obtain ⟨fd, F⟩ := h
  have hb := F.bindsN b
  obtain ⟨oc, od, dV, kV, doc, pm, an, cdv, ct, osl, e, lk, hcd, hD, hK⟩ := F.ex
  rcases hD with ⟨_, z⟩ | ⟨z, _⟩
  · subst z
    exact ⟨fd, ⟨⟨oc, od, kV, doc, pm, an, cdv, ct, osl, e, lk, hcd⟩, F.kp⟩, hb⟩
  · exact absurd rfl z
theorem hasK0 {K : PySem.W.Frag} {cl : Nat → Addr} {x : Str} : HasK K cl [] x := fun c hc => absurd hc List.not_mem_nil
theorem hasKs {K : PySem.W.Frag} {cl : Nat → Addr} {x : Str} {c : Nat} {cs : List Nat} (h1 : Cls K (cl c)) (h2 : NoAttr K (cl c) x) (h : HasK K cl cs x) : HasK K cl (c :: cs) x := fun d hd => (List.mem_cons.mp hd).elim (fun e => by subst e; exact ⟨h1, h2⟩) (h d)
theorem tp {P : Program} {w : World} {K : PySem.W.Frag} {h : Heap} {mg : Str → Option Value} (X : K.In h) (G : h.Ns mainGlobals mg) (c : SaysQ hfa hfn hts hex w K) : Tp P w K mg := by
  have x_ := c.ex
  obtain ⟨x0, x_⟩ := He.ba x_
  obtain ⟨x1, x_⟩ := He.ba x_
  obtain ⟨x2, x_⟩ := He.ba x_
  obtain ⟨x3, x_⟩ := He.ba x_
  obtain ⟨x4, x_⟩ := He.ba x_
  obtain ⟨x5, x_⟩ := He.ba x_
  obtain ⟨x6, x_⟩ := He.ba x_
  obtain ⟨x7, x_⟩ := He.ba x_
  obtain ⟨x8, x_⟩ := He.ba x_
  obtain ⟨x9, x_⟩ := He.ba x_
  obtain ⟨x10, x_⟩ := He.ba x_
  obtain ⟨x11, x_⟩ := He.ba x_
  obtain ⟨x12, x_⟩ := He.ba x_
  obtain ⟨x13, x_⟩ := He.ba x_
  obtain ⟨x14, x_⟩ := He.ba x_
  obtain ⟨x15, x_⟩ := He.ba x_
  obtain ⟨x16, x_⟩ := He.ba x_
  obtain ⟨x17, x_⟩ := He.ba x_
  obtain ⟨x18, x_⟩ := He.ba x_
  obtain ⟨x19, x_⟩ := He.ba x_
  obtain ⟨x20, x_⟩ := He.ba x_
  obtain ⟨x21, x_⟩ := He.ba x_
  obtain ⟨x22, x_⟩ := He.ba x_
  obtain ⟨x23, x_⟩ := He.ba x_
  obtain ⟨x24, x_⟩ := He.ba x_
  obtain ⟨x25, x_⟩ := He.ba x_
  obtain ⟨x26, x_⟩ := He.ba x_
  obtain ⟨x27, x_⟩ := He.ba x_
  obtain ⟨x28, x_⟩ := He.ba x_
  obtain ⟨x29, x_⟩ := He.ba x_
  obtain ⟨x30, x_⟩ := He.ba x_
  obtain ⟨x31, x_⟩ := He.ba x_
  obtain ⟨x32, x_⟩ := He.ba x_
  obtain ⟨x33, x_⟩ := He.ba x_
  obtain ⟨x34, x_⟩ := He.ba x_
  obtain ⟨x35, x_⟩ := He.ba x_
  obtain ⟨x36, x_⟩ := He.ba x_
  obtain ⟨x37, x_⟩ := He.ba x_
  obtain ⟨x38, x_⟩ := He.ba x_
  have x39 := x_
  have exl := List.all_eq_true.mp x39
  have tb := congrArg (fun z : He.AlT => z.2) c.t
  have tb0 : He.dicW K (He.ga K "SIZES") = some (He.keysIn w.params (tab_SIZES.map fun q => dec q.1)) := (List.cons.inj tb).1
  exact {
    d_is_integer := defr (c.t.d.def_ 0 rfl) (fun _ _ _ _ _ _ us hl => match us, hl with | [_, _, _], _ => rfl)
    g_is_integer := He.glo_ok X G (c.t.d.fact 0 rfl)
    d_is_kind := defr (c.t.d.def_ 1 rfl) (fun _ _ _ _ _ _ us hl => match us, hl with | [_, _], _ => rfl)
    g_is_kind := He.glo_ok X G (c.t.d.fact 1 rfl)
    d_is_sort := defr (c.t.d.def_ 2 rfl) (fun _ _ _ _ _ _ us hl => match us, hl with | [_, _], _ => rfl)
    g_is_sort := He.glo_ok X G (c.t.d.fact 2 rfl)
    d_is_head := defr (c.t.d.def_ 3 rfl) (fun _ _ _ _ _ _ us hl => match us, hl with | [_, _], _ => rfl)
    g_is_head := He.glo_ok X G (c.t.d.fact 3 rfl)
    d_is_program := defr (c.t.d.def_ 4 rfl) (fun _ _ _ _ _ _ us hl => match us, hl with | [_], _ => rfl)
    g_is_program := He.glo_ok X G (c.t.d.fact 4 rfl)
    d__law_open := defr (c.t.d.def_ 5 rfl) (fun _ _ _ _ _ _ us hl => match us, hl with | [_], _ => rfl)
    g__law_open := He.glo_ok X G (c.t.d.fact 5 rfl)
    d__law_spread := defr (c.t.d.def_ 6 rfl) (fun _ _ _ _ _ _ us hl => match us, hl with | [_, _], _ => rfl)
    g__law_spread := He.glo_ok X G (c.t.d.fact 6 rfl)
    d__law_take := defr (c.t.d.def_ 7 rfl) (fun _ _ _ _ _ _ us hl => match us, hl with | [_, _], _ => rfl)
    g__law_take := He.glo_ok X G (c.t.d.fact 7 rfl)
    d__law_one_each := defr (c.t.d.def_ 8 rfl) (fun _ _ _ _ _ _ us hl => match us, hl with | [_], _ => rfl)
    g__law_one_each := He.glo_ok X G (c.t.d.fact 8 rfl)
    d__law_kinds := defr (c.t.d.def_ 9 rfl) (fun _ _ _ _ _ _ us hl => match us, hl with | [_], _ => rfl)
    g__law_kinds := He.glo_ok X G (c.t.d.fact 9 rfl)
    d_law := defr (c.t.d.def_ 10 rfl) (fun _ _ _ _ _ _ us hl => match us, hl with | [_], _ => rfl)
    g_law := He.glo_ok X G (c.t.d.fact 10 rfl)
    d_Check___init__ := defr (c.t.d.def_ 11 rfl) (fun _ _ _ _ _ _ us hl => match us, hl with | [_, _, _], _ => rfl)
    d_Check_is_right := defr (c.t.d.def_ 12 rfl) (fun _ _ _ _ _ _ us hl => match us, hl with | [_, _], _ => rfl)
    m_Check_is_right := (He.meth_ok (c.t.d.fact 11 rfl))
    d_Check_is_block_right := defr (c.t.d.def_ 13 rfl) (fun _ _ _ _ _ _ us hl => match us, hl with | [_, _], _ => rfl)
    m_Check_is_block_right := (He.meth_ok (c.t.d.fact 12 rfl))
    d_Check_is_call := defr (c.t.d.def_ 14 rfl) (fun _ _ _ _ _ _ us hl => match us, hl with | [_, _], _ => rfl)
    m_Check_is_call := (He.meth_ok (c.t.d.fact 13 rfl))
    d_Check_is_slot := defr (c.t.d.def_ 15 rfl) (fun _ _ _ _ _ _ us hl => match us, hl with | [_, _], _ => rfl)
    m_Check_is_slot := (He.meth_ok (c.t.d.fact 14 rfl))
    d_Check_is_of := defr (c.t.d.def_ 16 rfl) (fun _ _ _ _ _ _ us hl => match us, hl with | [_, _, _], _ => rfl)
    m_Check_is_of := (He.meth_ok (c.t.d.fact 15 rfl))
    d_Check_is_block := defr (c.t.d.def_ 17 rfl) (fun _ _ _ _ _ _ us hl => match us, hl with | [_, _], _ => rfl)
    m_Check_is_block := (He.meth_ok (c.t.d.fact 16 rfl))
    d_Check_is_cell := defr (c.t.d.def_ 18 rfl) (fun _ _ _ _ _ _ us hl => match us, hl with | [_, _, _], _ => rfl)
    m_Check_is_cell := (He.meth_ok (c.t.d.fact 17 rfl))
    d_Check_child := defr (c.t.d.def_ 19 rfl) (fun _ _ _ _ _ _ us hl => match us, hl with | [_, _], _ => rfl)
    m_Check_child := (He.meth_ok (c.t.d.fact 18 rfl))
    d_Check_is_channel := defr (c.t.d.def_ 20 rfl) (fun _ _ _ _ _ _ us hl => match us, hl with | [_, _], _ => rfl)
    m_Check_is_channel := (He.meth_ok (c.t.d.fact 19 rfl))
    g_Check := He.glo_ok X G (c.t.d.fact 20 rfl)
    c_Check := (He.cls_ok (c.t.d.fact 21 rfl))
    m_Check := (He.mkr_ok (c.t.d.fact 22 rfl))
    k_Check := (He.keep_ok (c.t.d.fact 23 rfl))
    g_HeldError := He.glo_ok X G (c.t.d.fact 24 rfl)
    e_HeldError := exkB_ok x0
    g_NoProgram := He.glo_ok X G (c.t.d.fact 25 rfl)
    e_NoProgram := exkB_ok x1
    g_NoInputs := He.glo_ok X G (c.t.d.fact 26 rfl)
    e_NoInputs := exkB_ok x2
    g_NoPlan := He.glo_ok X G (c.t.d.fact 27 rfl)
    e_NoPlan := exkB_ok x3
    g_NoBorrowed := He.glo_ok X G (c.t.d.fact 28 rfl)
    e_NoBorrowed := exkB_ok x4
    g_NoUpdates := He.glo_ok X G (c.t.d.fact 29 rfl)
    e_NoUpdates := exkB_ok x5
    g_NoUpdate := He.glo_ok X G (c.t.d.fact 30 rfl)
    e_NoUpdate := exkB_ok x6
    g_NoPrices := He.glo_ok X G (c.t.d.fact 31 rfl)
    e_NoPrices := exkB_ok x7
    g_NoWord := He.glo_ok X G (c.t.d.fact 32 rfl)
    e_NoWord := exkB_ok x8
    g_NoStarts := He.glo_ok X G (c.t.d.fact 33 rfl)
    e_NoStarts := exkB_ok x9
    g_NoState := He.glo_ok X G (c.t.d.fact 34 rfl)
    e_NoState := exkB_ok x10
    g_NoMove := He.glo_ok X G (c.t.d.fact 35 rfl)
    e_NoMove := exkB_ok x11
    g_NoNumber := He.glo_ok X G (c.t.d.fact 36 rfl)
    e_NoNumber := exkB_ok x12
    g_NoRoom := He.glo_ok X G (c.t.d.fact 37 rfl)
    e_NoRoom := exkB_ok x13
    g_NoPlans := He.glo_ok X G (c.t.d.fact 38 rfl)
    e_NoPlans := exkB_ok x14
    g_NoChange := He.glo_ok X G (c.t.d.fact 39 rfl)
    e_NoChange := exkB_ok x15
    g_TooLong := He.glo_ok X G (c.t.d.fact 40 rfl)
    e_TooLong := exkB_ok x16
    g_TooMany := He.glo_ok X G (c.t.d.fact 41 rfl)
    e_TooMany := exkB_ok x17
    s_NoProgram := iskB_ok x18 (fun q hq => excB_ok (exl q.1 (by revert q; decide)))
    s_NoInputs := iskB_ok x19 (fun q hq => excB_ok (exl q.1 (by revert q; decide)))
    s_NoPlan := iskB_ok x20 (fun q hq => excB_ok (exl q.1 (by revert q; decide)))
    s_ValueError := iskB_ok x21 (fun q hq => excB_ok (exl q.1 (by revert q; decide)))
    s_NoBorrowed := iskB_ok x22 (fun q hq => excB_ok (exl q.1 (by revert q; decide)))
    s_NoUpdates := iskB_ok x23 (fun q hq => excB_ok (exl q.1 (by revert q; decide)))
    s_NoUpdate := iskB_ok x24 (fun q hq => excB_ok (exl q.1 (by revert q; decide)))
    s_NoPrices := iskB_ok x25 (fun q hq => excB_ok (exl q.1 (by revert q; decide)))
    s_NoWord := iskB_ok x26 (fun q hq => excB_ok (exl q.1 (by revert q; decide)))
    s_NoStarts := iskB_ok x27 (fun q hq => excB_ok (exl q.1 (by revert q; decide)))
    s_NoState := iskB_ok x28 (fun q hq => excB_ok (exl q.1 (by revert q; decide)))
    s_NoMove := iskB_ok x29 (fun q hq => excB_ok (exl q.1 (by revert q; decide)))
    s_NoNumber := iskB_ok x30 (fun q hq => excB_ok (exl q.1 (by revert q; decide)))
    s_NoRoom := iskB_ok x31 (fun q hq => excB_ok (exl q.1 (by revert q; decide)))
    s_NoPlans := iskB_ok x32 (fun q hq => excB_ok (exl q.1 (by revert q; decide)))
    s_NoChange := iskB_ok x33 (fun q hq => excB_ok (exl q.1 (by revert q; decide)))
    s_TooLong := iskB_ok x34 (fun q hq => excB_ok (exl q.1 (by revert q; decide)))
    s_TooMany := iskB_ok x35 (fun q hq => excB_ok (exl q.1 (by revert q; decide)))
    s_HeldError := iskB_ok x36 (fun q hq => excB_ok (exl q.1 (by revert q; decide)))
    h_kinds := (hasKs ((He.cls_ok (c.t.d.fact 21 rfl))) ((He.noat_ok (c.t.d.fact 42 rfl))) hasK0)
    h_channels := (hasKs ((He.cls_ok (c.t.d.fact 21 rfl))) ((He.noat_ok (c.t.d.fact 43 rfl))) hasK0)
    h_functions := (hasKs ((He.cls_ok (c.t.d.fact 21 rfl))) ((He.noat_ok (c.t.d.fact 44 rfl))) hasK0)
    h_number := (hasKs ((He.cls_ok (c.t.d.fact 21 rfl))) ((He.noat_ok (c.t.d.fact 45 rfl))) hasK0)
    h_slots := (hasKs ((He.cls_ok (c.t.d.fact 21 rfl))) ((He.noat_ok (c.t.d.fact 46 rfl))) hasK0)
    i_MOST_NUMBER := He.int_ok X G (c.t.d.fact 47 rfl)
    i_MOST_KINDS := He.int_ok X G (c.t.d.fact 48 rfl)
    i_MOST_CELLS := He.int_ok X G (c.t.d.fact 49 rfl)
    i_MOST_CHANNELS := He.int_ok X G (c.t.d.fact 50 rfl)
    i_MOST_FUNCTIONS := He.int_ok X G (c.t.d.fact 51 rfl)
    i_MOST_SLOTS := He.int_ok X G (c.t.d.fact 52 rfl)
    i_MOST_BODY := He.int_ok X G (c.t.d.fact 53 rfl)
    f_ValueError := He.free_ok X G (c.t.d.fact 54 rfl)
    f_all := He.free_ok X G (c.t.d.fact 55 rfl)
    f_bool := He.free_ok X G (c.t.d.fact 56 rfl)
    f_enumerate := He.free_ok X G (c.t.d.fact 57 rfl)
    f_int := He.free_ok X G (c.t.d.fact 58 rfl)
    f_isinstance := He.free_ok X G (c.t.d.fact 59 rfl)
    f_len := He.free_ok X G (c.t.d.fact 60 rfl)
    f_list := He.free_ok X G (c.t.d.fact 61 rfl)
    f_range := He.free_ok X G (c.t.d.fact 62 rfl)
    f_str := He.free_ok X G (c.t.d.fact 63 rfl)
    f_tuple := He.free_ok X G (c.t.d.fact 64 rfl)
    f_zip := He.free_ok X G (c.t.d.fact 65 rfl)
    g_SIZES := He.glo_ok X G (c.t.d.fact 66 rfl)
    t_SIZES := tab_ok tb0 x37
    sm := smB_ok x38
  }
theorem law_b {P : Program} {w : World} {K : PySem.W.Frag} {mg : Str → Option Value} (T : Tp P w K mg) (s : Shared) (u : Value) : BindsTo s (T.d_law.ex.choose) ⟨[u], []⟩ [("_law_script", u)] := by
  obtain ⟨F, _⟩ := T.d_law.ex.choose_spec
  obtain ⟨oc, od, kV, doc, pm, an, cdv, ct, osl, e, lk, hcd⟩ := F.ex
  rw [e]
  exact .of_eq rfl
end HD
open PySem PySem.W PySem.Calls PyProof.Rows
theorem PySem.Challenge.cw_heldalone_k02_errors_by_hand_holds : PySem.Challenge.rw_heldalone_k02_errors_by_hand.Holds := by
  w_on; o_law
  refine HandSHeadRun.head_any (r := OpenLaw.row PySem.Challenge.rw_heldalone_k02_errors_by_hand) (q := view (OpenLaw.row PySem.Challenge.rw_heldalone_k02_errors_by_hand).prog [40]) (H := HD.hk) (ob := HD.ob) (M := 20000) (loose := HD.hloose) (d := HandSHeadRun.topDef (OpenLaw.row PySem.Challenge.rw_heldalone_k02_errors_by_hand).prog 40) (kwd := []) HD.ob_eq
    (by kernel_rfl) (fun s => by kernel_rfl) HD.hrun (by kernel_rfl) (by kernel_rfl) (by kernel_rfl) (by rfl) (by first | assumption | decide +kernel) (by decide +kernel) ⟨rfl, rfl, rfl, rfl, rfl, by decide +kernel⟩ ?hw ?hc
  case hw => w_witness2
  case hc =>
    refine HQ.walk_q (l := PySem.Challenge.rw_heldalone_k02_errors_by_hand) (n := 63) (k := 8) (x := "_law_script") rfl (by decide) (by kernel_rfl) ⟨rfl, by decide, by decide⟩ ?F
    intro w mg fa h Y G hmg0
    obtain ⟨K, KX, c⟩ := Y
    have hmg : mg ("law" : PySem.Str) = some (.ref fa) := by
      have e : (HandSHeadRun.topDef (OpenLaw.row PySem.Challenge.rw_heldalone_k02_errors_by_hand).prog 40).name = ("law" : PySem.Str) := by kernel_rfl
      rw [← e]
      exact hmg0
    have T : HD.Tp (PySem.Challenge.rw_heldalone_k02_errors_by_hand).prog w K mg := HD.tp KX G c
    have e := hmg.symm.trans T.g_law
    cases e
    refine ⟨K, _, KX, ?_, fun a ns hl => ⟨HD.spLaw K ns, fun H _ hs => ⟨a, rfl, hs, fun _ => rfl⟩, fun base _ _ => HD.law_q T ns⟩⟩
    exact fun s u => HD.law_b T s u

