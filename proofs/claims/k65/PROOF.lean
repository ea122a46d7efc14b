import PyProof.Rows.All
import Wide.All
import OpenK.AllK
import Wide.FinOn
import KE.KStateDown
import Lean
import HandS.ForMost
import HandS.ForExc
import HandS.Defaults
import HandS.MakeKw
import HandS.MakeKwOnly
import HandS.Flow
import HandS.Style
import HandS.Finally
import HandS.RevRange
import HandS.IsInst
import HandS.SetFor
import HandS.Deep
import HandS.TupAny
import HandS.DictTup
import HandS.DictComp
import HandS.SortRule
import HandS.SortInts
import HandS.TupSets
import KE.KUnpackStar
import HandS.Small
import HandS.HeadHook4
import HandS.TupLen
import HandS.Walk
import HandS.Steps
import HandS.Wide
import HandS.Head0
import HandS.Head1
import HandS.Head2
import HandS.HeadEnd
import PySem.Challenge.RW_pyheap_k65_whole_broken_up
set_option Elab.async false
set_option linter.all false
set_option maxRecDepth 100000
set_option maxHeartbeats 4000000
noncomputable section
namespace PM
open PySem PySem.Spec PyProof.Rows L2
/-! ## the small machine: values, objects, a heap as a tree -/
inductive MV where
  | non | bl (b : Bool) | int (i : Int) | str (s : Str) | sym (f i : Nat) | ref (n : Nat) | opq
  deriving DecidableEq
inductive MKey where
  | int (i : Int) | str (s : Str) | sym (f i : Nat)
  deriving DecidableEq
inductive MObj where
  | lst (xs : List MV)
  | tup (xs : List MV)
  | ktup (xs : List MV)
  | dk (kvs : List (MKey × MV))
  | dkL (kvs : List (MKey × MV))
  | dt (kvs : List (List MKey × MV))
  | dtL (kvs : List (List MKey × MV))
  | ins (c : Nat) (fs : List (Nat × MV))
  | xd (fs : List (Nat × MV))
inductive T where
  | nil
  | node (l : T) (o : Option MObj) (r : T)
namespace T
def get (t : T) : Nat → Option MObj := T.rec (motive := fun _ => Nat → Option MObj) (fun _ => none) (fun _ o _ l r n => Nat.rec (motive := fun _ => Option MObj) o (fun n _ => cond (Nat.beq (Nat.mod n 2) 0) (l (Nat.div n 2)) (r (Nat.div n 2))) n) t
def set (t : T) : Nat → MObj → T := T.rec (motive := fun _ => Nat → MObj → T) (fun n x => Nat.rec (motive := fun _ => T) (.node .nil (some x) .nil) (fun _ _ => .nil) n) (fun l o r lf rf n x => Nat.rec (motive := fun _ => T) (.node l (some x) r) (fun n _ => cond (Nat.beq (Nat.mod n 2) 0) (.node (lf (Nat.div n 2) x) o r) (.node l o (rf (Nat.div n 2) x))) n) t
theorem par0 {n : Nat} (h : n % 2 = 0) : Nat.beq (Nat.mod n 2) 0 = true := by
  rw [show Nat.mod n 2 = 0 from h]
  rfl
theorem par1 {n : Nat} (h : ¬ n % 2 = 0) : Nat.beq (Nat.mod n 2) 0 = false := by
  rw [show Nat.mod n 2 = 1 from (by have h2 : n % 2 = 1 := by omega
                                    exact h2)]
  rfl
theorem get_zero (l r : T) (o : Option MObj) : (T.node l o r).get 0 = o := rfl
theorem get_succ (l r : T) (o : Option MObj) (n : Nat) : (T.node l o r).get (n + 1) = if n % 2 = 0 then l.get (n / 2) else r.get (n / 2) := by
  show cond (Nat.beq (Nat.mod n 2) 0) (l.get (n / 2)) (r.get (n / 2)) = _
  by_cases h : n % 2 = 0
  · rw [if_pos h, par0 h] <;> rfl
  · rw [if_neg h, par1 h] <;> rfl
theorem set_succ (l r : T) (o : Option MObj) (n : Nat) (x : MObj) : (T.node l o r).set (n + 1) x = if n % 2 = 0 then .node (l.set (n / 2) x) o r else .node l o (r.set (n / 2) x) := by
  show cond (Nat.beq (Nat.mod n 2) 0) (T.node (l.set (n / 2) x) o r) (T.node l o (r.set (n / 2) x)) = _
  by_cases h : n % 2 = 0
  · rw [if_pos h, par0 h] <;> rfl
  · rw [if_neg h, par1 h] <;> rfl
theorem nil_get (n : Nat) : T.nil.get n = none := by cases n <;> rfl
/-- where the place is there, set does what it says -/
theorem get_set : ∀ (t : T) (n : Nat) (x : MObj), ((t.set n x).get n).isSome = true → ∀ m, (t.set n x).get m = if m = n then some x else t.get m
  | .nil, 0, x, _, m => by
    cases m with
    | zero => rfl
    | succ m =>
      rw [if_neg (by omega), nil_get]
      show (T.node .nil (some x) .nil).get (m + 1) = none
      rw [get_succ, nil_get]
      split <;> rfl
  | .nil, n + 1, x, h, m => by
    have h2 : (T.nil.get (n + 1)).isSome = true := h
    rw [nil_get] at h2
    cases h2
  | .node l o r, 0, x, _, m => by
    cases m with
    | zero => rfl
    | succ m =>
      rw [if_neg (by omega)]
      show (T.node l (some x) r).get (m + 1) = (T.node l o r).get (m + 1)
      rw [get_succ, get_succ]
  | .node l o r, n + 1, x, h, m => by
    rw [set_succ] at h ⊢
    by_cases p : n % 2 = 0
    · rw [if_pos p] at h ⊢
      rw [get_succ, if_pos p] at h
      cases m with
      | zero => rw [get_zero, get_zero, if_neg (by omega)]
      | succ m =>
        rw [get_succ, get_succ]
        by_cases q : m % 2 = 0
        · rw [if_pos q, if_pos q, get_set l (n / 2) x h (m / 2)]
          by_cases e : m = n
          · rw [if_pos (by omega), if_pos (by omega)]
          · rw [if_neg (by omega), if_neg (by omega)]
        · rw [if_neg q, if_neg q, if_neg (by omega)]
    · rw [if_neg p] at h ⊢
      rw [get_succ, if_neg p] at h
      cases m with
      | zero => rw [get_zero, get_zero, if_neg (by omega)]
      | succ m =>
        rw [get_succ, get_succ]
        by_cases q : m % 2 = 0
        · rw [if_pos q, if_pos q, if_neg (by omega)]
        · rw [if_neg q, if_neg q, get_set r (n / 2) x h (m / 2)]
          by_cases e : m = n
          · rw [if_pos (by omega), if_pos (by omega)]
          · rw [if_neg (by omega), if_neg (by omega)]
/-- where all below are there, a new one may be put -/
theorem set_new : ∀ (t : T) (n : Nat) (x : MObj), (∀ m, m < n → (t.get m).isSome = true) → ((t.set n x).get n).isSome = true
  | .nil, 0, x, h => rfl
  | .nil, n + 1, x, h => by
    have := h 0 (Nat.succ_pos _)
    rw [nil_get] at this
    cases this
  | .node l o r, 0, x, h => rfl
  | .node l o r, n + 1, x, h => by
    rw [set_succ]
    by_cases p : n % 2 = 0
    · rw [if_pos p, get_succ, if_pos p]
      refine set_new l _ x fun m hm => ?_
      have := h (2 * m + 1) (by omega)
      rw [get_succ, if_pos (by omega), show 2 * m / 2 = m by omega] at this
      exact this
    · rw [if_neg p, get_succ, if_neg p]
      refine set_new r _ x fun m hm => ?_
      have := h (2 * m + 1 + 1) (by omega)
      rw [get_succ, if_neg (by omega), show (2 * m + 1) / 2 = m by omega] at this
      exact this
/-- an object that is there may be put anew -/
theorem set_there : ∀ (t : T) (n : Nat) (x y : MObj), t.get n = some y → ((t.set n x).get n).isSome = true
  | .nil, n, x, y, h => by rw [nil_get] at h; cases h
  | .node l o r, 0, x, y, h => rfl
  | .node l o r, n + 1, x, y, h => by
    rw [get_succ] at h
    rw [set_succ]
    by_cases p : n % 2 = 0
    · rw [if_pos p] at h ⊢
      rw [get_succ, if_pos p]
      exact set_there l _ x y h
    · rw [if_neg p] at h ⊢
      rw [get_succ, if_neg p]
      exact set_there r _ x y h
end T
structure MS where
  nx : Nat
  hp : T
structure MEx where
  c : Nat
  d : Option Nat
inductive Out (α : Type) where
  | ok (a : α) (M : MS)
  | ex (x : MEx) (M : MS)
  | bad
def Out.bind {α β : Type} : Out α → (α → MS → Out β) → Out β
  | .ok a M, f => f a M
  | .ex x M, _ => .ex x M
  | .bad, _ => .bad
abbrev Env := List (Option MV)
abbrev MX := Env → MS → Out MV
abbrev MT := Env → MS → Out Bool
abbrev ML := Env → MS → Out (List MV)
/-- how a statement ends -/
inductive SOut where
  | nx (e : Env) (M : MS)
  | rt (v : MV) (M : MS)
  | bk (e : Env) (M : MS)
  | ct (e : Env) (M : MS)
  | ex (x : MEx) (e : Env) (M : MS)
  | bad
abbrev MSt := Env → MS → SOut
def MS.get (M : MS) (n : Nat) : Option MObj := M.hp.get n
def MS.put (M : MS) (n : Nat) (o : MObj) : MS := ⟨M.nx, M.hp.set n o⟩
def MS.new (M : MS) (o : MObj) (k : Nat → MS → Out α) : Out α := k M.nx ⟨M.nx + 1, M.hp.set M.nx o⟩
/-! ## what it means -/
structure Cfg where
  K : PySem.W.Frag
  cls : Nat → Addr
  fname : Nat → Str
  finj : ∀ i j, fname i = fname j → i = j
  tau : Nat → Nat → Str
  tinj : ∀ f i j, tau f i = tau f j → i = j
  tok : ∀ f i, PyData.strOk (tau f i) = true
  scr : Addr
  ns : List Int
  od : Addr → Obj
  n0 : Nat
  ra : Nat → Addr
section
variable (G : Cfg) (ρ : Nat → Addr)
def im : MV → V
  | .non => .non
  | .bl b => .bl b
  | .int i => .int i
  | .str s => .str s
  | .sym f i => .str (G.tau f i)
  | .ref n => .ref (ρ n)
  | .opq => .ref G.scr
def imK : MKey → Key
  | .int i => .inl i
  | .str s => .inr s
  | .sym f i => .inr (G.tau f i)
abbrev ims (xs : List MV) : List V := xs.map (im G ρ)
abbrev imD (kvs : List (MKey × MV)) : List (Key × V) := kvs.map fun p => (imK G p.1, im G ρ p.2)
abbrev imDt (kvs : List (List MKey × MV)) : List (List Key × V) := kvs.map fun p => (p.1.map (imK G), im G ρ p.2)
abbrev imF (fs : List (Nat × MV)) : List (Str × V) := fs.map fun p => (G.fname p.1, im G ρ p.2)
end
def okV (nx : Nat) : MV → Prop
  | .ref n => n < nx
  | _ => True
def okVs (nx : Nat) (xs : List MV) : Prop := ∀ x ∈ xs, okV nx x
def okO (nx : Nat) : MObj → Prop
  | .lst xs => okVs nx xs
  | .tup xs => okVs nx xs
  | .ktup xs => okVs nx xs
  | .dk kvs => ∀ p ∈ kvs, okV nx p.2
  | .dkL kvs => ∀ p ∈ kvs, okV nx p.2
  | .dt kvs => ∀ p ∈ kvs, okV nx p.2
  | .dtL kvs => ∀ p ∈ kvs, okV nx p.2
  | .ins _ fs => ∀ p ∈ fs, okV nx p.2
  | .xd fs => ∀ p ∈ fs, okV nx p.2
def tupOf : Option MObj → Option (List MV)
  | some (.tup xs) => some xs
  | some (.ktup xs) => some xs
  | _ => none
def isMut : MObj → Bool
  | .tup _ => false
  | .ktup _ => false
  | _ => true
/-- a list that is locked, or of the written part -/
def SqF (K : PySem.W.Frag) (H : Hp) (a : Addr) (xs : List V) : Prop :=
  (∃ o, H a = some (.frz o (.lst xs))) ∨
    ∃ (o : Obj) (its : Array Value) (n : Nat), K.lookup a = some o ∧ o.cls = .type "list" ∧ o.dict = none ∧ o.data = .seq its n ∧ its.size ≤ sizeLine ∧ Vals xs its.toList
theorem SqF.l {K : PySem.W.Frag} {H : Hp} {a : Addr} {xs : List V} (h : SqF K H a xs) : SqL K H a xs := by
  rcases h with ⟨o, h⟩ | h
  · exact .inl (.inr ⟨o, h⟩)
  · exact .inr h
section
variable (G : Cfg) (ρ : Nat → Addr) (H : Hp)
def cont (a : Addr) : MObj → Prop
  | .lst xs => H a = some (.lst (ims G ρ xs))
  | .tup xs => H a = some (.tup (ims G ρ xs))
  | .ktup xs => SqT G.K H a (ims G ρ xs)
  | .dk kvs => H a = some (.dK (imD G ρ kvs))
  | .dkL kvs => H a = some (.frz (G.od a) (.dK (imD G ρ kvs)))
  | .dt kvs => H a = some (.dT (imDt G ρ kvs))
  | .dtL kvs => H a = some (.frz (G.od a) (.dT (imDt G ρ kvs)))
  | .ins c fs => ∃ dx, H a = some (.ins (G.cls c) dx (imF G ρ fs))
  | .xd fs => H a = some (.xd (imF G ρ fs))
end
structure Rl (G : Cfg) (ρ : Nat → Addr) (M : MS) (H : Hp) : Prop where
  o : ∀ n ob, M.get n = some ob → n < M.nx ∧ okO M.nx ob ∧ cont G ρ H (ρ n) ob
  j : ∀ n m ob ob', M.get n = some ob → M.get m = some ob' → isMut ob = true → isMut ob' = true → ρ n = ρ m → n = m
  s : SqF G.K H G.scr (G.ns.map V.int)
  c : G.n0 ≤ M.nx ∧ ∀ n, n < G.n0 → ρ n = G.ra n
  f : ∀ n, n < M.nx → (M.get n).isSome = true
/-- the map of addresses grows -/
def Ex (ρ : Nat → Addr) (nx : Nat) (ρ' : Nat → Addr) (nx' : Nat) : Prop := nx ≤ nx' ∧ ∀ n, n < nx → ρ' n = ρ n
theorem Ex.refl {ρ : Nat → Addr} {nx : Nat} : Ex ρ nx ρ nx := ⟨Nat.le_refl _, fun _ _ => rfl⟩
theorem Ex.trans {ρ ρ1 ρ2 : Nat → Addr} {n n1 n2 : Nat} (a : Ex ρ n ρ1 n1) (b : Ex ρ1 n1 ρ2 n2) : Ex ρ n ρ2 n2 :=
  ⟨Nat.le_trans a.1 b.1, fun m h => (b.2 m (Nat.lt_of_lt_of_le h a.1)).trans (a.2 m h)⟩
section
variable {G : Cfg} {ρ ρ' : Nat → Addr} {nx nx' : Nat}
theorem im_ex (e : Ex ρ nx ρ' nx') : ∀ {v : MV}, okV nx v → im G ρ' v = im G ρ v
  | .ref n, h => by show V.ref (ρ' n) = V.ref (ρ n); rw [e.2 n h]
  | .non, _ => rfl
  | .bl _, _ => rfl
  | .int _, _ => rfl
  | .str _, _ => rfl
  | .sym _ _, _ => rfl
  | .opq, _ => rfl
theorem okV.mono (e : nx ≤ nx') : ∀ {v : MV}, okV nx v → okV nx' v
  | .ref n, h => Nat.lt_of_lt_of_le h e
  | .non, _ => trivial
  | .bl _, _ => trivial
  | .int _, _ => trivial
  | .str _, _ => trivial
  | .sym _ _, _ => trivial
  | .opq, _ => trivial
theorem okVs.mono (e : nx ≤ nx') {xs : List MV} (h : okVs nx xs) : okVs nx' xs := fun x hx => (h x hx).mono e
theorem ims_ex (e : Ex ρ nx ρ' nx') {xs : List MV} (h : okVs nx xs) : ims G ρ' xs = ims G ρ xs := List.map_congr_left fun x hx => im_ex e (h x hx)
theorem imD_ex (e : Ex ρ nx ρ' nx') {kvs : List (MKey × MV)} (h : ∀ p ∈ kvs, okV nx p.2) : imD G ρ' kvs = imD G ρ kvs := List.map_congr_left fun p hp => by rw [im_ex e (h p hp)]
theorem imDt_ex (e : Ex ρ nx ρ' nx') {kvs : List (List MKey × MV)} (h : ∀ p ∈ kvs, okV nx p.2) : imDt G ρ' kvs = imDt G ρ kvs := List.map_congr_left fun p hp => by rw [im_ex e (h p hp)]
theorem imF_ex (e : Ex ρ nx ρ' nx') {fs : List (Nat × MV)} (h : ∀ p ∈ fs, okV nx p.2) : imF G ρ' fs = imF G ρ fs := List.map_congr_left fun p hp => by rw [im_ex e (h p hp)]
theorem okO.mono (e : nx ≤ nx') : ∀ {o : MObj}, okO nx o → okO nx' o
  | .lst _, h => okVs.mono e h
  | .tup _, h => okVs.mono e h
  | .ktup _, h => okVs.mono e h
  | .dk _, h => fun p hp => (h p hp).mono e
  | .dkL _, h => fun p hp => (h p hp).mono e
  | .dt _, h => fun p hp => (h p hp).mono e
  | .dtL _, h => fun p hp => (h p hp).mono e
  | .ins _ _, h => fun p hp => (h p hp).mono e
  | .xd _, h => fun p hp => (h p hp).mono e
theorem cont_ex {H : Hp} {a : Addr} (e : Ex ρ nx ρ' nx') : ∀ {o : MObj}, okO nx o → cont G ρ H a o → cont G ρ' H a o
  | .lst _, h, c => by show H a = _; rw [ims_ex e h]; exact c
  | .tup _, h, c => by show H a = _; rw [ims_ex e h]; exact c
  | .ktup _, h, c => by show SqT _ _ _ _; rw [ims_ex e h]; exact c
  | .dk _, h, c => by show H a = _; rw [imD_ex e h]; exact c
  | .dkL _, h, c => by show H a = _; rw [imD_ex e h]; exact c
  | .dt _, h, c => by show H a = _; rw [imDt_ex e h]; exact c
  | .dtL _, h, c => by show H a = _; rw [imDt_ex e h]; exact c
  | .ins _ _, h, ⟨dx, c⟩ => ⟨dx, by rw [imF_ex e h]; exact c⟩
  | .xd _, h, c => by show H a = _; rw [imF_ex e h]; exact c
/-- another place is written: what is at a stays -/
theorem SqT.upd_ne {K : PySem.W.Frag} {H : Hp} {a b : Addr} {u : HO} {xs : List V} (h : SqT K H a xs) (hb : ∀ o, H b = some o → (∀ ys, o ≠ .tup ys) ∧ ∀ ob ys, o ≠ .frz ob (.tup ys)) : SqT K (upd H b u) a xs := by
  rcases h with (h | ⟨ob, h⟩) | h
  · exact .inl (.inl (by rw [L2.upd_ne (fun e => (hb _ (e ▸ h)).1 _ rfl)]; exact h))
  · exact .inl (.inr ⟨ob, by rw [L2.upd_ne (fun e => (hb _ (e ▸ h)).2 _ _ rfl)]; exact h⟩)
  · exact .inr h
theorem cont_upd {H : Hp} {a b : Addr} {u : HO} (ne : a ≠ b) (hb : ∀ o, H b = some o → (∀ ys, o ≠ .tup ys) ∧ ∀ ob ys, o ≠ .frz ob (.tup ys)) : ∀ {o : MObj}, cont G ρ H a o → cont G ρ (upd H b u) a o
  | .lst _, c => by show upd H b u a = _; rw [L2.upd_ne ne]; exact c
  | .tup _, c => by show upd H b u a = _; rw [L2.upd_ne ne]; exact c
  | .ktup _, c => SqT.upd_ne c hb
  | .dk _, c => by show upd H b u a = _; rw [L2.upd_ne ne]; exact c
  | .dkL _, c => by show upd H b u a = _; rw [L2.upd_ne ne]; exact c
  | .dt _, c => by show upd H b u a = _; rw [L2.upd_ne ne]; exact c
  | .dtL _, c => by show upd H b u a = _; rw [L2.upd_ne ne]; exact c
  | .ins _ _, ⟨dx, c⟩ => ⟨dx, by rw [L2.upd_ne ne]; exact c⟩
  | .xd _, c => by show upd H b u a = _; rw [L2.upd_ne ne]; exact c
theorem cont_tup {H : Hp} {a b : Addr} {u : HO} {xs : List MV} (hb : ∀ o, H b = some o → (∀ ys, o ≠ .tup ys) ∧ ∀ ob ys, o ≠ .frz ob (.tup ys)) (c : cont G ρ H a (.tup xs)) : cont G ρ (upd H b u) a (.tup xs) := by
  show upd H b u a = _
  rw [L2.upd_ne (fun e => (hb _ (e ▸ c)).1 _ rfl)]
  exact c
theorem cont_ktup {H : Hp} {a b : Addr} {u : HO} {xs : List MV} (hb : ∀ o, H b = some o → (∀ ys, o ≠ .tup ys) ∧ ∀ ob ys, o ≠ .frz ob (.tup ys)) (c : cont G ρ H a (.ktup xs)) : cont G ρ (upd H b u) a (.ktup xs) := SqT.upd_ne c hb
/-- what stands at a mutable object -/
theorem cont_mut {H : Hp} {a : Addr} : ∀ {ob : MObj}, isMut ob = true → cont G ρ H a ob → ∃ o, H a = some o ∧ (∀ ys, o ≠ .tup ys) ∧ (∀ of ys, o ≠ .frz of (.tup ys)) ∧ ∀ of ys, o ≠ .frz of (.lst ys)
  | .lst _, _, c => ⟨_, c, fun _ e => (nomatch e), fun _ _ e => (nomatch e), fun _ _ e => (nomatch e)⟩
  | .dk _, _, c => ⟨_, c, fun _ e => (nomatch e), fun _ _ e => (nomatch e), fun _ _ e => (nomatch e)⟩
  | .dkL _, _, c => ⟨_, c, fun _ e => (nomatch e), fun _ _ e => (by injection e with _ e; cases e), fun _ _ e => (by injection e with _ e; cases e)⟩
  | .dt _, _, c => ⟨_, c, fun _ e => (nomatch e), fun _ _ e => (nomatch e), fun _ _ e => (nomatch e)⟩
  | .dtL _, _, c => ⟨_, c, fun _ e => (nomatch e), fun _ _ e => (by injection e with _ e; cases e), fun _ _ e => (by injection e with _ e; cases e)⟩
  | .ins _ _, _, ⟨_, c⟩ => ⟨_, c, fun _ e => (nomatch e), fun _ _ e => (nomatch e), fun _ _ e => (nomatch e)⟩
  | .xd _, _, c => ⟨_, c, fun _ e => (nomatch e), fun _ _ e => (nomatch e), fun _ _ e => (nomatch e)⟩
theorem SqF.upd {K : PySem.W.Frag} {H : Hp} {a b : Addr} {u : HO} {xs : List V} (h : SqF K H a xs) (hb : ∀ o, H b = some o → ∀ of ys, o ≠ .frz of (.lst ys)) : SqF K (L2.upd H b u) a xs := by
  rcases h with ⟨ob, h⟩ | h
  · exact .inl ⟨ob, by rw [L2.upd_ne (fun e => (hb _ (e ▸ h)) _ _ rfl)]; exact h⟩
  · exact .inr h
end
section
variable {G : Cfg} {ρ : Nat → Addr} {M : MS} {H : Hp}
theorem MS.put_get {n : Nat} {o x : MObj} (h : M.get n = some o) (m : Nat) : (M.put n x).get m = if m = n then some x else M.get m := T.get_set M.hp n x (T.set_there M.hp n x o h) m
/-- THE WRITE: the object n is changed -/
theorem Rl.write (R : Rl G ρ M H) {n : Nat} {ob ob' : MObj} {u : HO} (h : M.get n = some ob) (hm : isMut ob = true) (hm' : isMut ob' = true) (hk : okO M.nx ob') (hc : cont G ρ (upd H (ρ n) u) (ρ n) ob') :
    Rl G ρ (M.put n ob') (upd H (ρ n) u) := by
  obtain ⟨hn, _, hcn⟩ := R.o n ob h
  obtain ⟨o0, e0, t1, t2, t3⟩ := cont_mut hm hcn
  have hb : ∀ o, H (ρ n) = some o → (∀ ys, o ≠ .tup ys) ∧ ∀ of ys, o ≠ .frz of (.tup ys) := fun o e => by rw [e0] at e; cases e; exact ⟨t1, t2⟩
  refine ⟨fun m o q => ?_, fun m m' o o' q q' x x' e => ?_, R.s.upd fun o e => (by rw [e0] at e; cases e; exact t3), R.c, fun m hm => (by rw [MS.put_get h]; split; rfl; exact R.f m hm)⟩
  · rw [MS.put_get h] at q
    by_cases z : m = n
    · rw [if_pos z] at q
      cases q
      subst z
      exact ⟨hn, hk, hc⟩
    · rw [if_neg z] at q
      obtain ⟨a1, a2, a3⟩ := R.o m o q
      refine ⟨a1, a2, ?_⟩
      cases hmo : isMut o with
      | true => exact cont_upd (fun e => z (R.j m n o ob q h hmo hm e)) hb a3
      | false =>
        cases o with
        | tup xs => exact cont_tup hb a3
        | ktup xs => exact cont_ktup hb a3
        | _ => cases hmo
  · rw [MS.put_get h] at q q'
    by_cases z : m = n
    · by_cases z' : m' = n
      · rw [z, z']
      · rw [if_neg z'] at q'
        subst z
        exact R.j m m' ob o' h q' hm x' e
    · rw [if_neg z] at q
      by_cases z' : m' = n
      · subst z'
        exact R.j m m' o ob q h x hm e
      · rw [if_neg z'] at q'
        exact R.j m m' o o' q q' x x' e
theorem Rl.none_at (R : Rl G ρ M H) : M.hp.get M.nx = none := by
  cases q : M.hp.get M.nx with
  | none => rfl
  | some o => exact absurd (R.o _ _ q).1 (Nat.lt_irrefl _)
theorem Rl.some_at (R : Rl G ρ M H) (o : MObj) : ((M.hp.set M.nx o).get M.nx).isSome = true := T.set_new _ _ _ R.f
theorem Rl.lt (R : Rl G ρ M H) {n : Nat} {ob : MObj} (h : M.get n = some ob) : n < M.nx := (R.o n ob h).1
def bump (ρ : Nat → Addr) (n : Nat) (p : Addr) : Nat → Addr := fun m => if m = n then p else ρ m
theorem Ex.bump {ρ : Nat → Addr} {n : Nat} {p : Addr} : Ex ρ n (bump ρ n p) (n + 1) := ⟨Nat.le_succ _, fun m h => if_neg (Nat.ne_of_lt h)⟩
/-- THE NEW OBJECT: H' holds what H held, and the new one at p -/
theorem Rl.newG (R : Rl G ρ M H) {p : Addr} {ob : MObj} {H' : Hp} (hp : H p = none) (hk : okO (M.nx + 1) ob) (hs : ∀ b o, H b = some o → H' b = some o) (hc : cont G (bump ρ M.nx p) H' p ob)
    (h1 : ((M.hp.set M.nx ob).get M.nx).isSome = true) (h2 : M.hp.get M.nx = none) : Rl G (bump ρ M.nx p) ⟨M.nx + 1, M.hp.set M.nx ob⟩ H' := by
  have gt : ∀ m, (MS.mk (M.nx + 1) (M.hp.set M.nx ob)).get m = if m = M.nx then some ob else M.get m := T.get_set M.hp M.nx ob h1
  have keep : ∀ (a : Addr) (o : MObj), cont G ρ H a o → cont G ρ H' a o := fun a o c => by
    cases o with
    | lst xs => exact hs _ _ c
    | tup xs => exact hs _ _ c
    | ktup xs =>
      rcases (show SqT _ _ _ _ from c) with (c | ⟨ob, c⟩) | c
      · exact .inl (.inl (hs _ _ c))
      · exact .inl (.inr ⟨ob, hs _ _ c⟩)
      · exact .inr c
    | dk kvs => exact hs _ _ c
    | dkL kvs => exact hs _ _ c
    | dt kvs => exact hs _ _ c
    | dtL kvs => exact hs _ _ c
    | ins cc fs => obtain ⟨dx, c⟩ := c; exact ⟨dx, hs _ _ c⟩
    | xd fs => exact hs _ _ c
  refine ⟨fun m o q => ?_, fun m m' o o' q q' x x' e => ?_, ?_, ⟨Nat.le_succ_of_le R.c.1, fun n hn => (if_neg (Nat.ne_of_lt (Nat.lt_of_lt_of_le hn R.c.1))).trans (R.c.2 n hn)⟩, fun m hm => (by rw [gt]; split; rfl; exact R.f m (by have hm : m < M.nx + 1 := hm; omega))⟩
  · rw [gt] at q
    by_cases z : m = M.nx
    · rw [if_pos z] at q
      cases q
      subst z
      refine ⟨Nat.lt_succ_self _, hk, ?_⟩
      show cont G (bump ρ M.nx p) H' (bump ρ M.nx p M.nx) ob
      rw [show bump ρ M.nx p M.nx = p from if_pos rfl]
      exact hc
    · rw [if_neg z] at q
      obtain ⟨a1, a2, a3⟩ := R.o m o q
      refine ⟨Nat.lt_succ_of_lt a1, a2.mono (Nat.le_succ _), ?_⟩
      show cont G (bump ρ M.nx p) H' (bump ρ M.nx p m) o
      rw [show bump ρ M.nx p m = ρ m from if_neg z]
      exact cont_ex Ex.bump a2 (keep _ _ a3)
  · rw [gt] at q q'
    have apart : ∀ k ok, M.get k = some ok → isMut ok = true → ρ k ≠ p := fun k ok hk' hmk ep => by
      obtain ⟨u, eu, _⟩ := cont_mut hmk (R.o k ok hk').2.2
      rw [ep, hp] at eu
      cases eu
    by_cases z : m = M.nx
    · by_cases z' : m' = M.nx
      · rw [z, z']
      · rw [if_neg z'] at q'
        have e2 : bump ρ M.nx p m = bump ρ M.nx p m' := e
        rw [show bump ρ M.nx p m = p from if_pos z, show bump ρ M.nx p m' = ρ m' from if_neg z'] at e2
        exact absurd e2.symm (apart m' o' q' x')
    · rw [if_neg z] at q
      have e2 : bump ρ M.nx p m = bump ρ M.nx p m' := e
      rw [show bump ρ M.nx p m = ρ m from if_neg z] at e2
      by_cases z' : m' = M.nx
      · rw [show bump ρ M.nx p m' = p from if_pos z'] at e2
        exact absurd e2 (apart m o q x)
      · rw [if_neg z'] at q'
        rw [show bump ρ M.nx p m' = ρ m' from if_neg z'] at e2
        exact R.j m m' o o' q q' x x' e2
  · rcases R.s with ⟨o, q⟩ | q
    · exact .inl ⟨o, hs _ _ q⟩
    · exact .inr q
end
end PM
end
noncomputable section
namespace PM
open PySem PySem.Spec PyProof.Rows L2
/-! ## readings by the small machine -/
def REnv (G : Cfg) (ρ : Nat → Addr) (nx : Nat) (σ : L2.St) (e : Env) : Prop := σ.length = e.length ∧ ∀ (i : Nat) v, e[i]? = some (some v) → okV nx v ∧ σ[i]? = some (some (im G ρ v))
theorem REnv.mono {G : Cfg} {ρ ρ' : Nat → Addr} {nx nx' : Nat} {σ : L2.St} {e : Env} (h : REnv G ρ nx σ e) (x : Ex ρ nx ρ' nx') : REnv G ρ' nx' σ e :=
  ⟨h.1, fun i v q => let ⟨a, b⟩ := h.2 i v q; ⟨a.mono x.1, by rw [im_ex x a]; exact b⟩⟩
theorem REnv.set {G : Cfg} {ρ : Nat → Addr} {nx : Nat} {σ : L2.St} {e : Env} (h : REnv G ρ nx σ e) (i : Nat) {v : MV} (hv : okV nx v) : REnv G ρ nx (σ.set i (some (im G ρ v))) (e.set i (some v)) := by
  refine ⟨by rw [List.length_set, List.length_set]; exact h.1, fun j u q => ?_⟩
  by_cases z : i = j
  · subst z
    by_cases hi : i < e.length
    · rw [List.getElem?_set_self hi] at q
      cases q
      exact ⟨hv, by rw [List.getElem?_set_self (by rw [h.1]; exact hi)]⟩
    · rw [List.getElem?_eq_none (by rw [List.length_set]; omega)] at q
      cases q
  · rw [List.getElem?_set_ne z] at q
    rw [List.getElem?_set_ne z]
    exact h.2 j u q
theorem REnv.unset {G : Cfg} {ρ : Nat → Addr} {nx : Nat} {σ : L2.St} {e : Env} (h : REnv G ρ nx σ e) (i : Nat) (o : Option V) : REnv G ρ nx (σ.set i o) (e.set i none) := by
  refine ⟨by rw [List.length_set, List.length_set]; exact h.1, fun j u q => ?_⟩
  by_cases z : i = j
  · subst z
    by_cases hi : i < e.length
    · rw [List.getElem?_set_self hi] at q
      cases q
    · rw [List.getElem?_eq_none (by rw [List.length_set]; omega)] at q
      cases q
  · rw [List.getElem?_set_ne z] at q
    rw [List.getElem?_set_ne z]
    exact h.2 j u q
section
variable (G : Cfg) (ρ : Nat → Addr) (nx : Nat) (W : WX)
/-- the end of an expression -/
def Po {α β : Type} (ok : Nat → α → Prop) (img : (Nat → Addr) → α → β) (σ : L2.St) (o : Out α) (Q : β → Hp → Prop) : Prop := match o with
  | .ok v M => ∀ ρ' H', Ex ρ nx ρ' M.nx → Rl G ρ' M H' → ok M.nx v → Q (img ρ' v) H'
  | .ex x M => ∀ ρ' H', Ex ρ nx ρ' M.nx → Rl G ρ' M H' → W (.ref (G.cls x.c)) (x.d.map ρ') σ H'
  | .bad => False
abbrev PoE (σ : L2.St) (o : Out MV) (Q : VK) : Prop := Po G ρ nx W okV (im G) σ o Q
abbrev PoL (σ : L2.St) (o : Out (List MV)) (Q : List V → Hp → Prop) : Prop := Po G ρ nx W okVs (ims G) σ o Q
abbrev PoT (σ : L2.St) (o : Out Bool) (Q : Bool → Hp → Prop) : Prop := Po G ρ nx W (fun _ _ => True) (fun _ b => b) σ o Q
/-- the end of a statement -/
def PoS (o : SOut) (D : Ends) : Prop := match o with
  | .nx e M => ∀ ρ' H' σ', Ex ρ nx ρ' M.nx → Rl G ρ' M H' → REnv G ρ' M.nx σ' e → D.nx σ' H'
  | .rt v M => ∀ ρ' H', Ex ρ nx ρ' M.nx → Rl G ρ' M H' → okV M.nx v → D.rt (im G ρ' v) H'
  | .bk e M => ∀ ρ' H' σ', Ex ρ nx ρ' M.nx → Rl G ρ' M H' → REnv G ρ' M.nx σ' e → D.bk σ' H'
  | .ct e M => ∀ ρ' H' σ', Ex ρ nx ρ' M.nx → Rl G ρ' M H' → REnv G ρ' M.nx σ' e → D.ct σ' H'
  | .ex x e M => ∀ ρ' H' σ', Ex ρ nx ρ' M.nx → Rl G ρ' M H' → REnv G ρ' M.nx σ' e → W (.ref (G.cls x.c)) (x.d.map ρ') σ' H'
  | .bad => False
end
theorem Po.mono {α β : Type} {ok : Nat → α → Prop} {img : (Nat → Addr) → α → β} {G : Cfg} {ρ ρ1 : Nat → Addr} {nx nx1 : Nat} {W : WX} {σ : L2.St} {o : Out α} {Q : β → Hp → Prop} (x : Ex ρ nx ρ1 nx1) (h : Po G ρ nx W ok img σ o Q) : Po G ρ1 nx1 W ok img σ o Q := by
  cases o with
  | ok v M => exact fun ρ' H' y => h ρ' H' (x.trans y)
  | ex e M => exact fun ρ' H' y => h ρ' H' (x.trans y)
  | bad => exact h
theorem PoS.mono {G : Cfg} {ρ ρ1 : Nat → Addr} {nx nx1 : Nat} {W : WX} {o : SOut} {D : Ends} (x : Ex ρ nx ρ1 nx1) (h : PoS G ρ nx W o D) : PoS G ρ1 nx1 W o D := by
  cases o with
  | nx e M => exact fun ρ' H' σ' y => h ρ' H' σ' (x.trans y)
  | rt v M => exact fun ρ' H' y => h ρ' H' (x.trans y)
  | bk e M => exact fun ρ' H' σ' y => h ρ' H' σ' (x.trans y)
  | ct e M => exact fun ρ' H' σ' y => h ρ' H' σ' (x.trans y)
  | ex e en M => exact fun ρ' H' σ' y => h ρ' H' σ' (x.trans y)
  | bad => exact h
section
variable (G : Cfg) (W : WX)
def SE (m : MX) : TE := fun σ H Q => ∃ ρ M e, Rl G ρ M H ∧ REnv G ρ M.nx σ e ∧ PoE G ρ M.nx W σ (m e M) Q
def SL (m : ML) : TA := fun σ H Q => ∃ ρ M e, Rl G ρ M H ∧ REnv G ρ M.nx σ e ∧ PoL G ρ M.nx W σ (m e M) Q
def ST (m : MT) : TT := fun σ H Q => ∃ ρ M e, Rl G ρ M H ∧ REnv G ρ M.nx σ e ∧ PoT G ρ M.nx W σ (m e M) Q
def SS (m : MSt) : TS := fun D σ H => ∃ ρ M e, Rl G ρ M H ∧ REnv G ρ M.nx σ e ∧ PoS G ρ M.nx W (m e M) D
end
abbrev RE (X : Cx) (G : Cfg) (W : WX) (e : Expr) (m : MX) : Prop := PE X e (SE G W m)
abbrev RL (X : Cx) (G : Cfg) (W : WX) (e : List Expr) (m : ML) : Prop := PA X e (SL G W m)
abbrev RT (X : Cx) (G : Cfg) (W : WX) (e : Expr) (m : MT) : Prop := PT X e (ST G W m)
abbrev RTw (X : Cx) (G : Cfg) (W : WX) (e : Expr) (m : MT) : Prop := PW X e (ST G W m)
abbrev RS (X : Cx) (G : Cfg) (W : WX) (s : Stmt) (m : MSt) : Prop := PS X s (SS G W m)
abbrev RSs (X : Cx) (G : Cfg) (W : WX) (s : List Stmt) (m : MSt) : Prop := PSs X s (SS G W m)
theorem PE.imp {X : Cx} {e : Expr} {t t' : TE} (h : PE X e t) (i : ∀ σ H Q, t' σ H Q → t σ H Q) : PE X e t' := ⟨fun pins s σ H Q I w => h.run pins s σ H Q I (i σ H Q w)⟩
theorem PT.imp {X : Cx} {e : Expr} {t t' : TT} (h : PT X e t) (i : ∀ σ H Q, t' σ H Q → t σ H Q) : PT X e t' := ⟨fun pins s σ H Q I w => h.run pins s σ H Q I (i σ H Q w)⟩
theorem PW.imp {X : Cx} {e : Expr} {t t' : TT} (h : PW X e t) (i : ∀ σ H Q, t' σ H Q → t σ H Q) : PW X e t' := ⟨fun wh pins s σ H Q I w => h.run wh pins s σ H Q I (i σ H Q w)⟩
theorem PA.imp {X : Cx} {e : List Expr} {t t' : TA} (h : PA X e t) (i : ∀ σ H Q, t' σ H Q → t σ H Q) : PA X e t' := ⟨fun pos pins s σ H Q I w => h.run pos pins s σ H Q I (i σ H Q w)⟩
theorem PS.imp {X : Cx} {e : Stmt} {t t' : TS} (h : PS X e t) (i : ∀ D σ H, t' D σ H → t D σ H) : PS X e t' := ⟨fun pins s σ H D I w => h.run pins s σ H D I (i D σ H w)⟩
theorem PSs.imp {X : Cx} {e : List Stmt} {t t' : TS} (h : PSs X e t) (i : ∀ D σ H, t' D σ H → t D σ H) : PSs X e t' := ⟨fun pins s σ H D I w => h.run pins s σ H D I (i D σ H w)⟩
/-! ## how one thing follows another -/
section
variable {G : Cfg} {W : WX} {ρ : Nat → Addr} {M : MS} {σ : L2.St} {H : Hp}
/-- what an operation by values asks (r) follows from its reckoning (f) -/
def CU (G : Cfg) (W : WX) (r : V → Hp → VK → Prop) (f : MV → MS → Out MV) : Prop :=
  ∀ ρ M H σ v Q, Rl G ρ M H → okV M.nx v → PoE G ρ M.nx W σ (f v M) Q → r (im G ρ v) H Q
def CB (G : Cfg) (W : WX) (r : R2) (f : MV → MV → MS → Out MV) : Prop :=
  ∀ ρ M H σ v u Q, Rl G ρ M H → okV M.nx v → okV M.nx u → PoE G ρ M.nx W σ (f v u M) Q → r (im G ρ v) (im G ρ u) H Q
def CN (G : Cfg) (W : WX) (r : List V → Hp → VK → Prop) (f : List MV → MS → Out MV) : Prop :=
  ∀ ρ M H σ vs Q, Rl G ρ M H → okVs M.nx vs → PoE G ρ M.nx W σ (f vs M) Q → r (ims G ρ vs) H Q
/-- one part, then k -/
theorem se_at {α β : Type} {ok : Nat → α → Prop} {img : (Nat → Addr) → α → β} {e : Env} {ma : MX} {k : MV → MS → Out α} {Q : β → Hp → Prop} {R' : V → Hp → Prop}
    (R : Rl G ρ M H) (E : REnv G ρ M.nx σ e) (p : Po G ρ M.nx W ok img σ ((ma e M).bind k) Q)
    (c : ∀ ρ1 M1 H1 v, Ex ρ M.nx ρ1 M1.nx → Rl G ρ1 M1 H1 → okV M1.nx v → REnv G ρ1 M1.nx σ e → Po G ρ1 M1.nx W ok img σ (k v M1) Q → R' (im G ρ1 v) H1) : SE G W ma σ H R' := by
  refine ⟨ρ, M, e, R, E, ?_⟩
  cases q : ma e M with
  | ok v M1 =>
    rw [q] at p
    exact fun ρ1 H1 x R1 o1 => c ρ1 M1 H1 v x R1 o1 (E.mono x) (Po.mono x p)
  | ex x M1 => rw [q] at p; exact p
  | bad => rw [q] at p; exact p
theorem sl_at {α β : Type} {ok : Nat → α → Prop} {img : (Nat → Addr) → α → β} {e : Env} {ma : ML} {k : List MV → MS → Out α} {Q : β → Hp → Prop} {R' : List V → Hp → Prop}
    (R : Rl G ρ M H) (E : REnv G ρ M.nx σ e) (p : Po G ρ M.nx W ok img σ ((ma e M).bind k) Q)
    (c : ∀ ρ1 M1 H1 v, Ex ρ M.nx ρ1 M1.nx → Rl G ρ1 M1 H1 → okVs M1.nx v → REnv G ρ1 M1.nx σ e → Po G ρ1 M1.nx W ok img σ (k v M1) Q → R' (ims G ρ1 v) H1) : SL G W ma σ H R' := by
  refine ⟨ρ, M, e, R, E, ?_⟩
  cases q : ma e M with
  | ok v M1 =>
    rw [q] at p
    exact fun ρ1 H1 x R1 o1 => c ρ1 M1 H1 v x R1 o1 (E.mono x) (Po.mono x p)
  | ex x M1 => rw [q] at p; exact p
  | bad => rw [q] at p; exact p
theorem st_at {α β : Type} {ok : Nat → α → Prop} {img : (Nat → Addr) → α → β} {e : Env} {ma : MT} {k : Bool → MS → Out α} {Q : β → Hp → Prop} {R' : Bool → Hp → Prop}
    (R : Rl G ρ M H) (E : REnv G ρ M.nx σ e) (p : Po G ρ M.nx W ok img σ ((ma e M).bind k) Q)
    (c : ∀ ρ1 M1 H1 v, Ex ρ M.nx ρ1 M1.nx → Rl G ρ1 M1 H1 → REnv G ρ1 M1.nx σ e → Po G ρ1 M1.nx W ok img σ (k v M1) Q → R' v H1) : ST G W ma σ H R' := by
  refine ⟨ρ, M, e, R, E, ?_⟩
  cases q : ma e M with
  | ok v M1 =>
    rw [q] at p
    exact fun ρ1 H1 x R1 _ => c ρ1 M1 H1 v x R1 (E.mono x) (Po.mono x p)
  | ex x M1 => rw [q] at p; exact p
  | bad => rw [q] at p; exact p
/-- the same where a statement follows -/
def bindS (o : Out α) (e : Env) (k : α → MS → SOut) : SOut := match o with
  | .ok a M => k a M
  | .ex x M => .ex x e M
  | .bad => .bad
theorem se_atS {e : Env} {ma : MX} {k : MV → MS → SOut} {D : Ends} {R' : V → Hp → Prop}
    (R : Rl G ρ M H) (E : REnv G ρ M.nx σ e) (p : PoS G ρ M.nx W (bindS (ma e M) e k) D)
    (c : ∀ ρ1 M1 H1 v, Ex ρ M.nx ρ1 M1.nx → Rl G ρ1 M1 H1 → okV M1.nx v → REnv G ρ1 M1.nx σ e → PoS G ρ1 M1.nx W (k v M1) D → R' (im G ρ1 v) H1) : SE G W ma σ H R' := by
  refine ⟨ρ, M, e, R, E, ?_⟩
  cases q : ma e M with
  | ok v M1 =>
    rw [q] at p
    exact fun ρ1 H1 x R1 o1 => c ρ1 M1 H1 v x R1 o1 (E.mono x) (PoS.mono x p)
  | ex x M1 =>
    rw [q] at p
    exact fun ρ1 H1 y R1 => p ρ1 H1 σ y R1 (E.mono y)
  | bad => rw [q] at p; exact p
theorem sl_atS {e : Env} {ma : ML} {k : List MV → MS → SOut} {D : Ends} {R' : List V → Hp → Prop}
    (R : Rl G ρ M H) (E : REnv G ρ M.nx σ e) (p : PoS G ρ M.nx W (bindS (ma e M) e k) D)
    (c : ∀ ρ1 M1 H1 v, Ex ρ M.nx ρ1 M1.nx → Rl G ρ1 M1 H1 → okVs M1.nx v → REnv G ρ1 M1.nx σ e → PoS G ρ1 M1.nx W (k v M1) D → R' (ims G ρ1 v) H1) : SL G W ma σ H R' := by
  refine ⟨ρ, M, e, R, E, ?_⟩
  cases q : ma e M with
  | ok v M1 =>
    rw [q] at p
    exact fun ρ1 H1 x R1 o1 => c ρ1 M1 H1 v x R1 o1 (E.mono x) (PoS.mono x p)
  | ex x M1 =>
    rw [q] at p
    exact fun ρ1 H1 y R1 => p ρ1 H1 σ y R1 (E.mono y)
  | bad => rw [q] at p; exact p
theorem st_atS {e : Env} {ma : MT} {k : Bool → MS → SOut} {D : Ends} {R' : Bool → Hp → Prop}
    (R : Rl G ρ M H) (E : REnv G ρ M.nx σ e) (p : PoS G ρ M.nx W (bindS (ma e M) e k) D)
    (c : ∀ ρ1 M1 H1 v, Ex ρ M.nx ρ1 M1.nx → Rl G ρ1 M1 H1 → REnv G ρ1 M1.nx σ e → PoS G ρ1 M1.nx W (k v M1) D → R' v H1) : ST G W ma σ H R' := by
  refine ⟨ρ, M, e, R, E, ?_⟩
  cases q : ma e M with
  | ok v M1 =>
    rw [q] at p
    exact fun ρ1 H1 x R1 _ => c ρ1 M1 H1 v x R1 (E.mono x) (PoS.mono x p)
  | ex x M1 =>
    rw [q] at p
    exact fun ρ1 H1 y R1 => p ρ1 H1 σ y R1 (E.mono y)
  | bad => rw [q] at p; exact p
end
/-! ## expressions -/
def mVar (i : Nat) : MX := fun e M => match e[i]? with
  | some (some v) => .ok v M
  | _ => .bad
def mC (v : MV) : MX := fun _ M => .ok v M
def mUn (f : MV → MS → Out MV) (a : MX) : MX := fun e M => (a e M).bind f
def mBi (f : MV → MV → MS → Out MV) (a b : MX) : MX := fun e M => (a e M).bind fun x M1 => (b e M1).bind fun y M2 => f x y M2
def mNil : ML := fun _ M => .ok [] M
def mCons (a : MX) (b : ML) : ML := fun e M => (a e M).bind fun x M1 => (b e M1).bind fun xs M2 => .ok (x :: xs) M2
def mFn (f : List MV → MS → Out MV) (a : ML) : MX := fun e M => (a e M).bind f
section
variable {X : Cx} {G : Cfg} {W : WX} {pos : Pos} {a b : Expr} {ma mb : MX}
theorem re_var (i : Nat) {x : Str} (hN : X.N[i]? = some x := by rfl) (hv : Vis X.env.scope x := by first | exact Or.inl rfl | exact Or.inr (Or.inl rfl) | exact Or.inr (Or.inr rfl)) (hd : (x == ("__debug__" : Str)) = false := by decide)
    (hcd : (x == ("__classdict__" : Str)) = false := by decide) : RE X G W (.Name x pos) (mVar i) := by
  refine PE.imp (pe_var hN hv hd hcd) fun σ H Q h => ?_
  obtain ⟨ρ, M, e, R, E, p⟩ := h
  unfold mVar at p
  cases q : e[i]? with
  | none => rw [q] at p; exact p.elim
  | some o =>
    cases o with
    | none => rw [q] at p; exact p.elim
    | some v =>
      rw [q] at p
      obtain ⟨o1, e1⟩ := E.2 i v q
      exact ⟨_, e1, p ρ H Ex.refl R o1⟩
theorem re_c {e : Expr} {v : MV} (h : ∀ ρ, PE X e (tC (im G ρ v))) (hv : ∀ n, okV n v) : RE X G W e (mC v) := by
  refine PE.imp (h fun _ => 0) fun σ H Q hq => ?_
  obtain ⟨ρ, M, en, R, E, p⟩ := hq
  have q := p ρ H Ex.refl R (hv _)
  have e1 : im G (fun _ => 0) v = im G ρ v := by
    cases v with
    | ref n => exact absurd (hv 0) (Nat.not_lt_zero _)
    | _ => rfl
  show Q (im G (fun _ => 0) v) H
  rw [e1]
  exact q
theorem re_int {i : Int} {j} : RE X G W (.Constant (.int i) j pos) (mC (.int i)) := re_c (fun _ => pe_int) fun _ => trivial
theorem re_bl {i : Bool} {j} : RE X G W (.Constant (.bool i) j pos) (mC (.bl i)) := re_c (fun _ => pe_bl) fun _ => trivial
theorem re_non {j} : RE X G W (.Constant .none j pos) (mC .non) := re_c (fun _ => pe_non) fun _ => trivial
theorem re_str {s : Str} {j} : RE X G W (.Constant (.str s) j pos) (mC (.str s)) := re_c (fun _ => pe_str) fun _ => trivial
/-- a module's constant -/
theorem re_glob {x : Str} {v : MV} {u : Value} (hg : Gl X x) (hm : X.mg x = some u) (r : ∀ ρ, RelV (im G ρ v) u) (hv : ∀ n, okV n v) (hd : (x == ("__debug__" : Str)) = false := by decide) : RE X G W (.Name x pos) (mC v) :=
  re_c (fun ρ => pe_glob hg hm (r ρ) hd) hv
theorem re_un {e : Expr} {r : V → Hp → VK → Prop} {f : MV → MS → Out MV} (h : PE X e (tUn r (SE G W ma))) (c : CU G W r f) : RE X G W e (mUn f ma) :=
  PE.imp h fun σ H Q ⟨_, _, _, R, E, p⟩ => se_at R E p fun ρ M H v _ R o _ p => c ρ M H σ v Q R o p
theorem re_bi {e : Expr} {r : R2} {f : MV → MV → MS → Out MV} (h : PE X e (tOp r (SE G W ma) (SE G W mb))) (c : CB G W r f) : RE X G W e (mBi f ma mb) :=
  PE.imp h fun σ H Q ⟨_, _, _, R, E, p⟩ => se_at R E p fun ρ M H v _ R o E p => se_at R E p fun ρ2 M2 H2 u x R2 o2 E2 p2 => by
    rw [← im_ex x o]
    exact c ρ2 M2 H2 σ v u Q R2 (o.mono x.1) o2 p2
theorem re_fn {e : Expr} {r : List V → Hp → VK → Prop} {f : List MV → MS → Out MV} {ml : ML} (h : PE X e (fun σ H Q => SL G W ml σ H fun vs H1 => r vs H1 Q)) (c : CN G W r f) : RE X G W e (mFn f ml) :=
  PE.imp h fun σ H Q ⟨_, _, _, R, E, p⟩ => sl_at R E p fun ρ M H v _ R o _ p => c ρ M H σ v Q R o p
theorem rl_nil : RL X G W [] mNil := PA.imp pa_nil fun σ H Q ⟨ρ, M, e, R, E, p⟩ => p ρ H Ex.refl R fun _ h => (nomatch h)
theorem rl_cons {es : List Expr} {ml : ML} (ha : RE X G W a ma) (hr : RL X G W es ml) (hs : starEach (a :: es) X.env = (false, eval a X.env) :: starEach es X.env := by rfl) : RL X G W (a :: es) (mCons ma ml) :=
  PA.imp (pa_cons ha hr hs) fun σ H Q ⟨_, _, _, R, E, p⟩ => se_at R E p fun ρ M H v _ R o E p => sl_at R E p fun ρ2 M2 H2 vs x R2 o2 E2 p2 => by
    have q := p2 ρ2 H2 Ex.refl R2 (fun y hy => (List.mem_cons.mp hy).elim (fun z => z ▸ o.mono x.1) fun z => o2 y z)
    rw [← im_ex x o]
    exact q
end
end PM
end
noncomputable section
namespace PM
open PySem PySem.Spec PyProof.Rows L2
/-! ## data -/
inductive MD where
  | non | bl (b : Bool) | int (i : Int) | str (s : Str) | sym (f i : Nat) | lst (xs : List MD) | tup (xs : List MD)
/-- the data that a value holds, so many levels deep -/
def datM (M : MS) : Nat → MV → Option MD
  | 0, _ => none
  | _ + 1, .non => some .non
  | _ + 1, .bl b => some (.bl b)
  | _ + 1, .int i => some (.int i)
  | _ + 1, .str s => if PyData.strOk s = true then some (.str s) else none
  | _ + 1, .sym f i => some (.sym f i)
  | k + 1, .ref n => match M.get n with
    | some (.lst xs) => (xs.mapM (datM M k)).map .lst
    | some (.tup xs) => (xs.mapM (datM M k)).map .tup
    | some (.ktup xs) => (xs.mapM (datM M k)).map .tup
    | _ => none
  | _ + 1, .opq => none
def eqL (f : MD → MD → Option Bool) : List MD → List MD → Option Bool
  | [], [] => some true
  | x :: xs, y :: ys => match f x y with
    | some true => eqL f xs ys
    | some false => some false
    | none => none
  | _, _ => some false
def eqD : Nat → MD → MD → Option Bool
  | 0, _, _ => none
  | k + 1, x, y => match x, y with
    | .non, .non => some true
    | .bl a, .bl b => some (a == b)
    | .bl a, .int j => some ((if a then (1 : Int) else 0) == j)
    | .int i, .bl b => some (i == (if b then (1 : Int) else 0))
    | .int i, .int j => some (i == j)
    | .str a, .str b => some (a == b)
    | .sym f i, .sym g j => if f = g then some (decide (i = j)) else none
    | .sym _ _, .str _ => none
    | .str _, .sym _ _ => none
    | .lst xs, .lst ys => eqL (eqD k) xs ys
    | .tup xs, .tup ys => eqL (eqD k) xs ys
    | _, _ => some false
mutual
def md (G : Cfg) : MD → PyData
  | .non => .none
  | .bl b => .bool b
  | .int i => .int i
  | .str s => .str s
  | .sym f i => .str (G.tau f i)
  | .lst xs => .list (mds G xs)
  | .tup xs => .tuple (mds G xs)
def mds (G : Cfg) : List MD → List PyData
  | [] => []
  | x :: xs => md G x :: mds G xs
end
section
variable {G : Cfg} {ρ : Nat → Addr} {M : MS} {H : Hp}
theorem mapM_nil {f : MV → Option MD} {ds : List MD} (h : ([] : List MV).mapM f = some ds) : ds = [] := by
  have e : ([] : List MV).mapM f = some [] := rfl
  rw [e] at h
  cases h
  rfl
theorem mapM_cons {f : MV → Option MD} {x : MV} {xs : List MV} {ds : List MD} (h : (x :: xs).mapM f = some ds) : ∃ d r, f x = some d ∧ xs.mapM f = some r ∧ ds = d :: r := by
  rw [List.mapM_cons] at h
  cases q : f x with
  | none => rw [q] at h; cases h
  | some d =>
    rw [q] at h
    cases q2 : xs.mapM f with
    | none => rw [q2] at h; cases h
    | some r =>
      rw [q2] at h
      cases h
      exact ⟨d, r, rfl, rfl, rfl⟩
def DatOk (G : Cfg) (H : Hp) (k : Nat) (v : V) (d : MD) : Prop := Dp G.K H v (md G d) ∧ (md G d).canLay0 = true ∧ (md G d).depth ≤ k
theorem datL_ok {k : Nat} {f : MV → Option MD} (hf : ∀ v d, f v = some d → DatOk G H k (im G ρ v) d) : ∀ (xs : List MV) (ds : List MD), xs.mapM f = some ds →
    DpAll G.K H (ims G ρ xs) (mds G ds) ∧ PyData.canLayAll0 (mds G ds) = true ∧ PyData.depthAll (mds G ds) ≤ k
  | [], ds, h => by
    rw [mapM_nil h]
    exact ⟨.nil, rfl, Nat.zero_le _⟩
  | x :: xs, ds, h => by
    obtain ⟨d, r, h1, h2, rfl⟩ := mapM_cons h
    obtain ⟨a1, a2, a3⟩ := hf x d h1
    obtain ⟨b1, b2, b3⟩ := datL_ok hf xs r h2
    refine ⟨.cons a1 b1, ?_, ?_⟩
    · show (PyData.canLay0 (md G d) && PyData.canLayAll0 (mds G r)) = true
      rw [a2, b2]
      rfl
    · show max (PyData.depth (md G d)) (PyData.depthAll (mds G r)) ≤ k
      omega
theorem datM_ok (R : Rl G ρ M H) : ∀ (k : Nat) (v : MV) (d : MD), datM M k v = some d → DatOk G H k (im G ρ v) d
  | 0, v, d, h => by cases h
  | k + 1, .non, d, h => by cases h; exact ⟨.non, rfl, Nat.zero_le _⟩
  | k + 1, .bl b, d, h => by cases h; exact ⟨.bl b, rfl, Nat.zero_le _⟩
  | k + 1, .int i, d, h => by cases h; exact ⟨.int i, rfl, Nat.zero_le _⟩
  | k + 1, .str s, d, h => by
    have h2 : (if PyData.strOk s = true then some (MD.str s) else none) = some d := h
    by_cases q : PyData.strOk s = true
    · rw [if_pos q] at h2
      cases h2
      exact ⟨.str s, q, Nat.zero_le _⟩
    · rw [if_neg q] at h2
      cases h2
  | k + 1, .sym f i, d, h => by cases h; exact ⟨.str _, G.tok f i, Nat.zero_le _⟩
  | k + 1, .ref n, d, h => by
    have h2 : (match M.get n with
      | some (.lst xs) => (xs.mapM (datM M k)).map MD.lst
      | some (.tup xs) => (xs.mapM (datM M k)).map MD.tup
      | some (.ktup xs) => (xs.mapM (datM M k)).map MD.tup
      | _ => none) = some d := h
    cases q : M.get n with
    | none => rw [q] at h2; cases h2
    | some ob =>
      rw [q] at h2
      have c := (R.o n ob q).2.2
      cases ob with
      | lst xs =>
        have h3 : (xs.mapM (datM M k)).map MD.lst = some d := h2
        obtain ⟨ds, e1, e2⟩ := Option.map_eq_some_iff.mp h3
        obtain ⟨b1, b2, b3⟩ := datL_ok (fun v d => datM_ok R k v d) xs ds e1
        subst e2
        exact ⟨.lst (SqL.of c) b1, b2, Nat.succ_le_succ b3⟩
      | tup xs =>
        have h3 : (xs.mapM (datM M k)).map MD.tup = some d := h2
        obtain ⟨ds, e1, e2⟩ := Option.map_eq_some_iff.mp h3
        obtain ⟨b1, b2, b3⟩ := datL_ok (fun v d => datM_ok R k v d) xs ds e1
        subst e2
        exact ⟨.tup (SqT.of c) b1, b2, Nat.succ_le_succ b3⟩
      | ktup xs =>
        have h3 : (xs.mapM (datM M k)).map MD.tup = some d := h2
        obtain ⟨ds, e1, e2⟩ := Option.map_eq_some_iff.mp h3
        obtain ⟨b1, b2, b3⟩ := datL_ok (fun v d => datM_ok R k v d) xs ds e1
        subst e2
        exact ⟨.tup c b1, b2, Nat.succ_le_succ b3⟩
      | _ => cases h2
  | k + 1, .opq, d, h => by cases h
theorem DatOk.sh {k : Nat} {v : V} {d : MD} (h : DatOk G H k v d) (hk : k ≤ 64) : SeqAt.shaped (md G d) = true := by
  unfold SeqAt.shaped
  rw [h.2.1]
  exact decide_eq_true (Nat.le_trans h.2.2 hk)
theorem eqL_ok {f : MD → MD → Option Bool} (hf : ∀ x y b, f x y = some b → PyData.eqv (md G x) (md G y) = b) : ∀ (xs ys : List MD) (b : Bool), eqL f xs ys = some b → PyData.eqvAll (mds G xs) (mds G ys) = b
  | [], [], b, h => by cases h; rfl
  | [], _ :: _, b, h => by cases h; rfl
  | _ :: _, [], b, h => by cases h; rfl
  | x :: xs, y :: ys, b, h => by
    have h2 : (match f x y with
      | some true => eqL f xs ys
      | some false => some false
      | none => none) = some b := h
    show (PyData.eqv (md G x) (md G y) && PyData.eqvAll (mds G xs) (mds G ys)) = b
    cases q : f x y with
    | none => rw [q] at h2; cases h2
    | some c =>
      rw [hf x y c q]
      rw [q] at h2
      cases c with
      | false => cases h2; rfl
      | true =>
        rw [eqL_ok hf xs ys b h2]
        rfl
theorem eqD_ok : ∀ (k : Nat) (x y : MD) (b : Bool), eqD k x y = some b → PyData.eqv (md G x) (md G y) = b
  | 0, x, y, b, h => by cases h
  | k + 1, x, y, b, h => by
    cases x with
    | lst xs =>
      cases y with
      | lst ys => exact eqL_ok (fun x y b => eqD_ok k x y b) xs ys b h
      | _ => cases h; rfl
    | tup xs =>
      cases y with
      | tup ys => exact eqL_ok (fun x y b => eqD_ok k x y b) xs ys b h
      | _ => cases h; rfl
    | sym f i =>
      cases y with
      | sym g j =>
        have h2 : (if f = g then some (decide (i = j)) else none) = some b := h
        by_cases q : f = g
        · rw [if_pos q] at h2
          cases h2
          subst q
          show (G.tau f i == G.tau f j) = decide (i = j)
          by_cases z : i = j
          · subst z
            rw [beq_self_eq_true]
            simp
          · rw [decide_eq_false z]
            exact beq_eq_false_iff_ne.mpr fun e => z (G.tinj f i j e)
        · rw [if_neg q] at h2
          cases h2
      | str _ => cases h
      | _ => cases h; rfl
    | str s =>
      cases y with
      | sym _ _ => cases h
      | _ => cases h; rfl
    | _ => cases y <;> (cases h; rfl)
end
end PM
end
noncomputable section
namespace PM
open PySem PySem.Spec PyProof.Rows L2
def CAP : Nat := 1000000
theorem cap_line {n : Nat} (h : n < CAP) : n < sizeLine := Nat.lt_of_lt_of_le h (by rw [sizeLine_eq]; decide)
theorem cap_le {n : Nat} (h : n ≤ 2 * CAP) : n ≤ sizeLine := Nat.le_trans h (by rw [sizeLine_eq]; decide)
/-! ## looks at a value -/
section
variable {α : Type}
def asI (v : MV) (k : Int → Out α) : Out α := match v with
  | .int i => k i
  | _ => .bad
def asB (v : MV) (k : Bool → Out α) : Out α := match v with
  | .bl i => k i
  | _ => .bad
def asR (v : MV) (k : Nat → Out α) : Out α := match v with
  | .ref n => k n
  | _ => .bad
def asL (v : MV) (M : MS) (k : Nat → List MV → Out α) : Out α := match v with
  | .ref n => (match M.get n with
    | some (.lst xs) => k n xs
    | _ => .bad)
  | _ => .bad
def asT (v : MV) (M : MS) (k : Nat → List MV → Out α) : Out α := match v with
  | .ref n => (match tupOf (M.get n) with
    | some xs => k n xs
    | none => .bad)
  | _ => .bad
def asIns (v : MV) (M : MS) (k : Nat → Nat → List (Nat × MV) → Out α) : Out α := match v with
  | .ref n => (match M.get n with
    | some (.ins c fs) => k n c fs
    | _ => .bad)
  | _ => .bad
def guardO (b : Bool) (k : Out α) : Out α := match b with
  | true => k
  | false => .bad
def someO {β : Type} (o : Option β) (k : β → Out α) : Out α := match o with
  | some x => k x
  | none => .bad
variable {β : Type} {ok : Nat → α → Prop} {img : (Nat → Addr) → α → β} {G : Cfg} {W : WX} {ρ : Nat → Addr} {nx : Nat} {M : MS} {H : Hp} {σ : L2.St} {Q : β → Hp → Prop} {v : MV}
theorem asI_inv {k : Int → Out α} (p : Po G ρ nx W ok img σ (asI v k) Q) : ∃ i, v = .int i ∧ Po G ρ nx W ok img σ (k i) Q := by
  cases v with
  | int i => exact ⟨i, rfl, p⟩
  | _ => exact p.elim
theorem asB_inv {k : Bool → Out α} (p : Po G ρ nx W ok img σ (asB v k) Q) : ∃ i, v = .bl i ∧ Po G ρ nx W ok img σ (k i) Q := by
  cases v with
  | bl i => exact ⟨i, rfl, p⟩
  | _ => exact p.elim
theorem asR_inv {k : Nat → Out α} (p : Po G ρ nx W ok img σ (asR v k) Q) : ∃ i, v = .ref i ∧ Po G ρ nx W ok img σ (k i) Q := by
  cases v with
  | ref i => exact ⟨i, rfl, p⟩
  | _ => exact p.elim
theorem asL_inv {k : Nat → List MV → Out α} (p : Po G ρ nx W ok img σ (asL v M k) Q) : ∃ n xs, v = .ref n ∧ M.get n = some (.lst xs) ∧ Po G ρ nx W ok img σ (k n xs) Q := by
  unfold asL at p
  cases v with
  | ref n =>
    dsimp only at p
    cases q : M.get n with
    | none => rw [q] at p; exact p.elim
    | some o =>
      rw [q] at p
      cases o with
      | lst xs => exact ⟨n, xs, rfl, q, p⟩
      | _ => exact p.elim
  | _ => exact p.elim
theorem asT_inv {k : Nat → List MV → Out α} (p : Po G ρ nx W ok img σ (asT v M k) Q) : ∃ n xs, v = .ref n ∧ tupOf (M.get n) = some xs ∧ Po G ρ nx W ok img σ (k n xs) Q := by
  unfold asT at p
  cases v with
  | ref n =>
    dsimp only at p
    cases q : tupOf (M.get n) with
    | none => rw [q] at p; exact p.elim
    | some xs =>
      rw [q] at p
      exact ⟨n, xs, rfl, q, p⟩
  | _ => exact p.elim
theorem asIns_inv {k : Nat → Nat → List (Nat × MV) → Out α} (p : Po G ρ nx W ok img σ (asIns v M k) Q) : ∃ n c fs, v = .ref n ∧ M.get n = some (.ins c fs) ∧ Po G ρ nx W ok img σ (k n c fs) Q := by
  unfold asIns at p
  cases v with
  | ref n =>
    dsimp only at p
    cases q : M.get n with
    | none => rw [q] at p; exact p.elim
    | some o =>
      rw [q] at p
      cases o with
      | ins c fs => exact ⟨n, c, fs, rfl, q, p⟩
      | _ => exact p.elim
  | _ => exact p.elim
theorem guardO_inv {b : Bool} {k : Out α} (p : Po G ρ nx W ok img σ (guardO b k) Q) : b = true ∧ Po G ρ nx W ok img σ k Q := by
  cases b with
  | true => exact ⟨rfl, p⟩
  | false => exact p.elim
theorem someO_inv {γ : Type} {o : Option γ} {k : γ → Out α} (p : Po G ρ nx W ok img σ (someO o k) Q) : ∃ x, o = some x ∧ Po G ρ nx W ok img σ (k x) Q := by
  cases o with
  | some x => exact ⟨x, rfl, p⟩
  | none => exact p.elim
/-- a new object -/
theorem new_inv (R : Rl G ρ M H) {o : MObj} {k : Nat → MS → Out α} (p : Po G ρ M.nx W ok img σ (M.new o k) Q) : ((M.hp.set M.nx o).get M.nx).isSome = true ∧ M.hp.get M.nx = none ∧ Po G ρ M.nx W ok img σ (k M.nx ⟨M.nx + 1, M.hp.set M.nx o⟩) Q :=
  ⟨R.some_at o, R.none_at, p⟩
theorem Po.fin (R : Rl G ρ M H) {a : α} (p : Po G ρ M.nx W ok img σ (.ok a M) Q) (h : ok M.nx a) : Q (img ρ a) H := p ρ H Ex.refl R h
end
section
variable {G : Cfg} {W : WX} {ρ : Nat → Addr} {M : MS} {H : Hp} {σ : L2.St} {Q : VK}
theorem ims_bump {p : Addr} {xs : List MV} (h : okVs M.nx xs) : ims G (bump ρ M.nx p) xs = ims G ρ xs := ims_ex Ex.bump h
theorem same_upd {H : Hp} {p : Addr} {u : HO} (hp : H p = none) : ∀ b o, H b = some o → upd H p u b = some o := fun b o e => by rw [upd_ne (ne_of_none e hp)]; exact e
/-- a new list -/
theorem new_lst {β γ : Type} {ok : Nat → β → Prop} {img : (Nat → Addr) → β → γ} {Q : γ → Hp → Prop} (R : Rl G ρ M H) {xs : List MV} {k : Nat → MS → Out β} (p : Po G ρ M.nx W ok img σ (M.new (.lst xs) k) Q) (h : okVs M.nx xs) {a : Addr} (ha : H a = none) :
    ∃ M', M'.nx = M.nx + 1 ∧ Rl G (bump ρ M.nx a) M' (upd H a (.lst (ims G ρ xs))) ∧ Ex ρ M.nx (bump ρ M.nx a) M'.nx ∧ Po G (bump ρ M.nx a) M'.nx W ok img σ (k M.nx M') Q := by
  obtain ⟨h1, h2, p⟩ := new_inv R p
  refine ⟨_, rfl, R.newG (ob := .lst xs) ha (okVs.mono (Nat.le_succ _) h) (same_upd ha) ?_ h1 h2, Ex.bump, p.mono Ex.bump⟩
  show upd H a _ a = _
  rw [upd_same, ims_bump h]
theorem new_tup {β γ : Type} {ok : Nat → β → Prop} {img : (Nat → Addr) → β → γ} {Q : γ → Hp → Prop} (R : Rl G ρ M H) {xs : List MV} {k : Nat → MS → Out β} (p : Po G ρ M.nx W ok img σ (M.new (.tup xs) k) Q) (h : okVs M.nx xs) {a : Addr} (ha : H a = none) :
    ∃ M', M'.nx = M.nx + 1 ∧ Rl G (bump ρ M.nx a) M' (upd H a (.tup (ims G ρ xs))) ∧ Ex ρ M.nx (bump ρ M.nx a) M'.nx ∧ Po G (bump ρ M.nx a) M'.nx W ok img σ (k M.nx M') Q := by
  obtain ⟨h1, h2, p⟩ := new_inv R p
  refine ⟨_, rfl, R.newG (ob := .tup xs) ha (okVs.mono (Nat.le_succ _) h) (same_upd ha) ?_ h1 h2, Ex.bump, p.mono Ex.bump⟩
  show upd H a _ a = _
  rw [upd_same, ims_bump h]
theorem im_new {a : Addr} : im G (bump ρ M.nx a) (.ref M.nx) = .ref a := by
  show V.ref (bump ρ M.nx a M.nx) = _
  rw [show bump ρ M.nx a M.nx = a from if_pos rfl]
/-- .. handed back -/
theorem new_lst_ok (R : Rl G ρ M H) {xs : List MV} (p : PoE G ρ M.nx W σ (M.new (.lst xs) fun n M => .ok (.ref n) M) Q) (h : okVs M.nx xs) : ∀ a, H a = none → Q (.ref a) (upd H a (.lst (ims G ρ xs))) := fun a ha => by
  obtain ⟨M', e, R', _, p'⟩ := new_lst R p h ha
  have q := Po.fin R' p' (show M.nx < M'.nx by omega)
  rw [im_new] at q
  exact q
theorem new_tup_ok (R : Rl G ρ M H) {xs : List MV} (p : PoE G ρ M.nx W σ (M.new (.tup xs) fun n M => .ok (.ref n) M) Q) (h : okVs M.nx xs) : ∀ a, H a = none → Q (.ref a) (upd H a (.tup (ims G ρ xs))) := fun a ha => by
  obtain ⟨M', e, R', _, p'⟩ := new_tup R p h ha
  have q := Po.fin R' p' (show M.nx < M'.nx by omega)
  rw [im_new] at q
  exact q
theorem new_dk_ok (R : Rl G ρ M H) {xs : List (MKey × MV)} (p : PoE G ρ M.nx W σ (M.new (.dk xs) fun n M => .ok (.ref n) M) Q) (h : ∀ q ∈ xs, okV M.nx q.2) : ∀ a, H a = none → Q (.ref a) (upd H a (.dK (imD G ρ xs))) := fun a ha => by
  obtain ⟨h1, h2, p⟩ := new_inv R p
  have R' := R.newG (ob := .dk xs) ha (fun q hq => (h q hq).mono (Nat.le_succ _)) (same_upd ha) (H' := upd H a (.dK (imD G ρ xs))) (by
    show upd H a _ a = _
    rw [upd_same, imD_ex Ex.bump h]) h1 h2
  have q := Po.fin R' (p.mono Ex.bump) (show M.nx < M.nx + 1 by omega)
  rw [im_new] at q
  exact q
theorem new_dt_ok (R : Rl G ρ M H) {xs : List (List MKey × MV)} (p : PoE G ρ M.nx W σ (M.new (.dt xs) fun n M => .ok (.ref n) M) Q) (h : ∀ q ∈ xs, okV M.nx q.2) : ∀ a, H a = none → Q (.ref a) (upd H a (.dT (imDt G ρ xs))) := fun a ha => by
  obtain ⟨h1, h2, p⟩ := new_inv R p
  have R' := R.newG (ob := .dt xs) ha (fun q hq => (h q hq).mono (Nat.le_succ _)) (same_upd ha) (H' := upd H a (.dT (imDt G ρ xs))) (by
    show upd H a _ a = _
    rw [upd_same, imDt_ex Ex.bump h]) h1 h2
  have q := Po.fin R' (p.mono Ex.bump) (show M.nx < M.nx + 1 by omega)
  rw [im_new] at q
  exact q
theorem Rl.lst (R : Rl G ρ M H) {n : Nat} {xs : List MV} (h : M.get n = some (.lst xs)) : H (ρ n) = some (.lst (ims G ρ xs)) ∧ okVs M.nx xs := ⟨(R.o n _ h).2.2, (R.o n _ h).2.1⟩
theorem Rl.tup (R : Rl G ρ M H) {n : Nat} {xs : List MV} (h : tupOf (M.get n) = some xs) : SqT G.K H (ρ n) (ims G ρ xs) ∧ okVs M.nx xs := by
  cases q : M.get n with
  | none => rw [q] at h; cases h
  | some o =>
    rw [q] at h
    cases o with
    | tup ys =>
      cases h
      exact ⟨SqT.of (R.o n _ q).2.2, (R.o n _ q).2.1⟩
    | ktup ys =>
      cases h
      exact ⟨(R.o n _ q).2.2, (R.o n _ q).2.1⟩
    | _ => cases h
theorem Rl.tupH (R : Rl G ρ M H) {n : Nat} {xs : List MV} (h : M.get n = some (.tup xs)) : H (ρ n) = some (.tup (ims G ρ xs)) ∧ okVs M.nx xs := ⟨(R.o n _ h).2.2, (R.o n _ h).2.1⟩
theorem Rl.ltT (R : Rl G ρ M H) {n : Nat} {xs : List MV} (h : tupOf (M.get n) = some xs) : n < M.nx := by
  cases q : M.get n with
  | none => rw [q] at h; cases h
  | some o => exact R.lt q
theorem Rl.ins (R : Rl G ρ M H) {n c : Nat} {fs : List (Nat × MV)} (h : M.get n = some (.ins c fs)) : (∃ dx, H (ρ n) = some (.ins (G.cls c) dx (imF G ρ fs))) ∧ ∀ p ∈ fs, okV M.nx p.2 := ⟨(R.o n _ h).2.2, (R.o n _ h).2.1⟩
/-- a list is changed -/
theorem Rl.setL (R : Rl G ρ M H) {n : Nat} {xs ys : List MV} (h : M.get n = some (.lst xs)) (hy : okVs M.nx ys) : Rl G ρ (M.put n (.lst ys)) (upd H (ρ n) (.lst (ims G ρ ys))) :=
  R.write h rfl rfl hy upd_same
theorem okVs_app {nx : Nat} {xs ys : List MV} (h : okVs nx xs) (h' : okVs nx ys) : okVs nx (xs ++ ys) := fun x hx => (List.mem_append.mp hx).elim (h x) (h' x)
end
/-! ## numbers -/
def oAdd (x y : MV) (M : MS) : Out MV := match x, y with
  | .int i, .int j => .ok (.int (i + j)) M
  | .str a, .str b => guardO (decide (a.length + b.length ≤ CAP)) (.ok (.str (a ++ b)) M)
  | .ref n, .ref m => (match M.get n, M.get m with
    | some (.lst xs), some (.lst ys) => guardO (decide (xs.length + ys.length ≤ CAP)) (M.new (.lst (xs ++ ys)) fun n M => .ok (.ref n) M)
    | some (.tup xs), some (.tup ys) => guardO (decide (xs.length + ys.length ≤ CAP) && (!xs.isEmpty && !ys.isEmpty)) (M.new (.tup (xs ++ ys)) fun n M => .ok (.ref n) M)
    | _, _ => .bad)
  | _, _ => .bad
def oInt (f : Int → Int → Int) (x y : MV) (M : MS) : Out MV := asI x fun i => asI y fun j => .ok (.int (f i j)) M
def oIntIf (c : Int → Int → Bool) (f : Int → Int → Int) (x y : MV) (M : MS) : Out MV := asI x fun i => asI y fun j => guardO (c i j) (.ok (.int (f i j)) M)
def oCmp (f : Int → Int → Bool) (x y : MV) (M : MS) : Out MV := asI x fun i => asI y fun j => .ok (.bl (f i j)) M
def cMul (i j : Int) : Bool := (decide (-(2 ^ 64) < i) && decide (i < 2 ^ 64)) || (decide (-(2 ^ 64) < j) && decide (j < 2 ^ 64))
def cDiv (_ j : Int) : Bool := decide (0 < j) && decide (j < 1073741824)
def cMod (_ j : Int) : Bool := decide (0 < j)
def cPow (i j : Int) : Bool := decide (0 ≤ j) && (decide (j ≤ 1000000) && decide (i.natAbs < 2 ^ 64))
section
variable {G : Cfg} {W : WX} {X : Cx}
abbrev rAddAll (K : PySem.W.Frag) : R2 := fun x y H Q => (rI0 (fun i j => .int (i + j))) x y H Q ∨ (∃ i j, x = .str i ∧ y = .str j ∧ i.length + j.length ≤ sizeLine ∧ Q (.str (i ++ j)) H) ∨ rCat x y H Q ∨ rCatT K x y H Q
theorem op_addAll : OpR X (binaryOp .Add) (rAddAll X.K) := op_add.or (op_add_str.or (op_cat.or op_catT))
theorem cb_add : CB G W (rAddAll G.K) oAdd := by
  intro ρ M H σ v u Q R ov ou p
  cases v with
  | int i =>
    cases u with
    | int j => exact .inl ⟨i, j, rfl, rfl, Po.fin R p trivial⟩
    | _ => exact p.elim
  | str a =>
    cases u with
    | str b =>
      obtain ⟨h, p⟩ := guardO_inv p
      have h2 := of_decide_eq_true h
      exact .inr (.inl ⟨a, b, rfl, rfl, cap_le (by omega), Po.fin R p trivial⟩)
    | _ => exact p.elim
  | ref n =>
    cases u with
    | ref m =>
      have p1 : PoE G ρ M.nx W σ (match M.get n, M.get m with
        | some (.lst xs), some (.lst ys) => guardO (decide (xs.length + ys.length ≤ CAP)) (M.new (.lst (xs ++ ys)) fun n M => .ok (.ref n) M)
        | some (.tup xs), some (.tup ys) => guardO (decide (xs.length + ys.length ≤ CAP) && (!xs.isEmpty && !ys.isEmpty)) (M.new (.tup (xs ++ ys)) fun n M => .ok (.ref n) M)
        | _, _ => .bad) Q := p
      cases q : M.get n with
      | none => rw [q] at p1; exact p1.elim
      | some o =>
        cases q2 : M.get m with
        | none => rw [q, q2] at p1; cases o <;> exact p1.elim
        | some o2 =>
          rw [q, q2] at p1
          cases o with
          | lst xs =>
            cases o2 with
            | lst ys =>
              obtain ⟨h, p⟩ := guardO_inv p1
              have h2 := of_decide_eq_true h
              obtain ⟨c1, k1⟩ := R.lst q
              obtain ⟨c2, k2⟩ := R.lst q2
              refine .inr (.inr (.inl ⟨_, _, _, _, rfl, rfl, c1, c2, by simp only [List.length_map]; exact cap_le (by omega), ?_⟩))
              rw [← List.map_append]
              exact new_lst_ok R p (okVs_app k1 k2)
            | _ => exact p1.elim
          | tup xs =>
            cases o2 with
            | tup ys =>
              obtain ⟨h, p⟩ := guardO_inv p1
              obtain ⟨h2, h3⟩ := Bool.and_eq_true_iff.mp h
              obtain ⟨h4, h5⟩ := Bool.and_eq_true_iff.mp h3
              have h2 := of_decide_eq_true h2
              obtain ⟨c1, k1⟩ := R.tup (show tupOf (M.get n) = some xs by rw [q] <;> rfl)
              obtain ⟨c2, k2⟩ := R.tup (show tupOf (M.get m) = some ys by rw [q2] <;> rfl)
              refine .inr (.inr (.inr ⟨_, _, _, _, rfl, rfl, c1, c2, ?_, by simp only [List.length_map]; exact cap_le (by omega), fun z => ?_, fun _ => ?_⟩))
              · cases xs with
                | nil => cases h4
                | cons x xs => exact List.cons_ne_nil _ _
              · cases ys with
                | nil => cases h5
                | cons x xs => exact absurd z (List.cons_ne_nil _ _)
              · rw [← List.map_append]
                exact new_tup_ok R p (okVs_app k1 k2)
            | _ => exact p1.elim
          | _ => exact p1.elim
    | _ => exact p.elim
  | _ => exact p.elim
theorem cb_int (f : Int → Int → Int) : CB G W (rI0 fun i j => .int (f i j)) (oInt f) := by
  intro ρ M H σ v u Q R ov ou p
  obtain ⟨i, rfl, p1⟩ := asI_inv p
  obtain ⟨j, rfl, p2⟩ := asI_inv p1
  exact ⟨i, j, rfl, rfl, Po.fin R p2 trivial⟩
theorem cb_intIf {C : Int → Int → Prop} {c : Int → Int → Bool} (hc : ∀ i j, c i j = true → C i j) (f : Int → Int → Int) : CB G W (rI C fun i j => .int (f i j)) (oIntIf c f) := by
  intro ρ M H σ v u Q R ov ou p
  obtain ⟨i, rfl, p1⟩ := asI_inv p
  obtain ⟨j, rfl, p2⟩ := asI_inv p1
  obtain ⟨h, p3⟩ := guardO_inv p2
  exact ⟨i, j, rfl, rfl, hc i j h, Po.fin R p3 trivial⟩
theorem cb_cmp (f : Int → Int → Bool) : CB G W (rI0 fun i j => .bl (f i j)) (oCmp f) := by
  intro ρ M H σ v u Q R ov ou p
  obtain ⟨i, rfl, p1⟩ := asI_inv p
  obtain ⟨j, rfl, p2⟩ := asI_inv p1
  exact ⟨i, j, rfl, rfl, Po.fin R p2 trivial⟩
theorem cMul_ok (i j : Int) (h : cMul i j = true) : CMul i j := by
  unfold cMul at h
  simp only [Bool.or_eq_true, Bool.and_eq_true, decide_eq_true_eq] at h
  exact h
theorem cDiv_ok (i j : Int) (h : cDiv i j = true) : CDiv i j := by
  unfold cDiv at h
  simp only [Bool.and_eq_true, decide_eq_true_eq] at h
  exact h
theorem cPow_ok (i j : Int) (h : cPow i j = true) : CPow i j := by
  unfold cPow at h
  simp only [Bool.and_eq_true, decide_eq_true_eq] at h
  exact h
variable {a b : Expr} {ma mb : MX} {pos : Pos}
theorem re_add (hK : X.K = G.K) (ha : RE X G W a ma) (hb : RE X G W b mb) : RE X G W (.BinOp a .Add b pos) (mBi oAdd ma mb) := re_bi (r := rAddAll G.K) (pe_op (by rw [← hK]; exact op_addAll) ha hb) cb_add
theorem re_sub (ha : RE X G W a ma) (hb : RE X G W b mb) : RE X G W (.BinOp a .Sub b pos) (mBi (oInt fun i j => i - j) ma mb) := re_bi (pe_op op_sub ha hb) (cb_int _)
theorem re_mul (ha : RE X G W a ma) (hb : RE X G W b mb) : RE X G W (.BinOp a .Mult b pos) (mBi (oIntIf cMul fun i j => i * j) ma mb) := re_bi (pe_op op_mul ha hb) (cb_intIf cMul_ok _)
theorem re_fdiv (ha : RE X G W a ma) (hb : RE X G W b mb) : RE X G W (.BinOp a .FloorDiv b pos) (mBi (oIntIf cDiv fun i j => i / j) ma mb) := re_bi (pe_op op_fdiv ha hb) (cb_intIf cDiv_ok _)
theorem re_mod (ha : RE X G W a ma) (hb : RE X G W b mb) : RE X G W (.BinOp a .Mod b pos) (mBi (oIntIf cMod fun i j => i % j) ma mb) := re_bi (pe_op op_mod ha hb) (cb_intIf (fun _ _ h => of_decide_eq_true h) _)
theorem re_pow (ha : RE X G W a ma) (hb : RE X G W b mb) : RE X G W (.BinOp a .Pow b pos) (mBi (oIntIf cPow fun i j => i ^ j.toNat) ma mb) := re_bi (pe_op op_pow ha hb) (cb_intIf cPow_ok _)
/-! ## comparisons -/
def oEq (neg : Bool) (x y : MV) (M : MS) : Out MV := someO (datM M 12 x) fun d => someO (datM M 12 y) fun e => someO (eqD 13 d e) fun b => .ok (.bl (if neg then !b else b)) M
theorem cb_eq : CB G W (rEqD G.K) (oEq false) := by
  intro ρ M H σ v u Q R ov ou p
  obtain ⟨d, h1, p⟩ := someO_inv p
  obtain ⟨e, h2, p⟩ := someO_inv p
  obtain ⟨b, h3, p⟩ := someO_inv p
  have k1 := datM_ok R _ _ _ h1
  have k2 := datM_ok R _ _ _ h2
  refine ⟨md G d, md G e, k1.1, k2.1, k1.sh (by decide), k2.sh (by decide), ?_⟩
  rw [eqD_ok _ _ _ _ h3]
  exact Po.fin R p trivial
theorem cb_ne : CB G W (rNeD G.K) (oEq true) := by
  intro ρ M H σ v u Q R ov ou p
  obtain ⟨d, h1, p⟩ := someO_inv p
  obtain ⟨e, h2, p⟩ := someO_inv p
  obtain ⟨b, h3, p⟩ := someO_inv p
  have k1 := datM_ok R _ _ _ h1
  have k2 := datM_ok R _ _ _ h2
  refine ⟨md G d, md G e, k1.1, k2.1, k1.sh (by decide), k2.sh (by decide), ?_⟩
  rw [eqD_ok _ _ _ _ h3]
  exact Po.fin R p trivial
def isNon : MV → Bool
  | .non => true
  | _ => false
theorem isNon_im {ρ : Nat → Addr} (v : MV) : decide (im G ρ v = .non) = isNon v := by
  cases v <;> first
    | rfl
    | exact decide_eq_false (fun e => by cases e)
def oIs (neg : Bool) (x y : MV) (M : MS) : Out MV := guardO (isNon y) (.ok (.bl (if neg then !isNon x else isNon x)) M)
theorem non_of {v : MV} (h : isNon v = true) : v = .non := by cases v <;> first | rfl | cases h
theorem cb_is : CB G W (fun x y H Q => y = .non ∧ Q (.bl (decide (x = .non))) H) (oIs false) := by
  intro ρ M H σ v u Q R ov ou p
  obtain ⟨h, p⟩ := guardO_inv p
  rw [non_of h]
  refine ⟨rfl, ?_⟩
  rw [isNon_im]
  exact Po.fin R p trivial
theorem cb_isnot : CB G W (fun x y H Q => y = .non ∧ Q (.bl (!decide (x = .non))) H) (oIs true) := by
  intro ρ M H σ v u Q R ov ou p
  obtain ⟨h, p⟩ := guardO_inv p
  rw [non_of h]
  refine ⟨rfl, ?_⟩
  rw [isNon_im]
  exact Po.fin R p trivial
/-! ### in: a list of data, a tuple of plain things -/
def flatM : MV → Bool
  | .non => true
  | .bl _ => true
  | .int _ => true
  | .str _ => true
  | _ => false
def eqF : MV → MV → Bool
  | .non, .non => true
  | .bl a, .bl b => a == b
  | .bl a, .int b => (if a then (1 : Int) else 0) == b
  | .int a, .bl b => a == (if b then (1 : Int) else 0)
  | .int a, .int b => a == b
  | .str a, .str b => a == b
  | _, _ => false
def anyD (d : MD) : List MD → Option Bool
  | [] => some false
  | z :: zs => match eqD 13 z d with
    | some true => some true
    | some false => anyD d zs
    | none => none
def oIn (neg : Bool) (x y : MV) (M : MS) : Out MV := match y with
  | .ref n => (match M.get n with
    | some (.lst xs) => someO (datM M 12 x) fun d => someO (xs.mapM (datM M 12)) fun ds => someO (anyD d ds) fun b => .ok (.bl (if neg then !b else b)) M
    | some (.tup xs) => guardO (flatM x && xs.all flatM) (.ok (.bl (if neg then !(xs.any fun y => eqF y x) else xs.any fun y => eqF y x)) M)
    | some (.ktup xs) => guardO (flatM x && xs.all flatM) (.ok (.bl (if neg then !(xs.any fun y => eqF y x) else xs.any fun y => eqF y x)) M)
    | _ => .bad)
  | _ => .bad
theorem anyD_ok {d : MD} : ∀ (ds : List MD) (b : Bool), anyD d ds = some b → ((mds G ds).any fun z => PyData.eqv z (md G d)) = b
  | [], b, h => by cases h; rfl
  | z :: zs, b, h => by
    have h2 : (match eqD 13 z d with
      | some true => some true
      | some false => anyD d zs
      | none => none) = some b := h
    show (PyData.eqv (md G z) (md G d) || (mds G zs).any fun z => PyData.eqv z (md G d)) = b
    cases q : eqD 13 z d with
    | none => rw [q] at h2; cases h2
    | some c =>
      rw [eqD_ok _ _ _ _ q]
      rw [q] at h2
      cases c with
      | true => cases h2; rfl
      | false =>
        rw [anyD_ok zs b h2]
        rfl
theorem flat_im {ρ : Nat → Addr} {v : MV} (h : flatM v = true) : flatV (im G ρ v) = true := by
  cases v <;> first | rfl | cases h
theorem eqF_im {ρ : Nat → Addr} {x y : MV} (hx : flatM x = true) (hy : flatM y = true) : eqV (im G ρ x) (im G ρ y) = eqF x y := by
  cases x <;> cases y <;> first | exact (Bool.false_ne_true hx).elim | exact (Bool.false_ne_true hy).elim | rfl
theorem anyF_im {ρ : Nat → Addr} {x : MV} (hx : flatM x = true) : ∀ (xs : List MV), xs.all flatM = true → (ims G ρ xs).all flatV = true ∧ inV (im G ρ x) (ims G ρ xs) = xs.any fun y => eqF y x
  | [], _ => ⟨rfl, rfl⟩
  | y :: ys, h => by
    rw [List.all_cons, Bool.and_eq_true] at h
    obtain ⟨a1, a2⟩ := anyF_im hx ys h.2
    constructor
    · show (flatV (im G ρ y) && (ims G ρ ys).all flatV) = true
      rw [flat_im h.1, a1]
      rfl
    · show (eqV (im G ρ y) (im G ρ x) || inV (im G ρ x) (ims G ρ ys)) = _
      rw [eqF_im h.1 hx, a2]
      rfl
abbrev rInAll (K : PySem.W.Frag) (neg : Bool) : R2 := fun x y H Q => (∃ d ds, Dp K H x d ∧ Dp K H y (.list ds) ∧ SeqAt.shaped d = true ∧ SeqAt.shaped (.list ds) = true ∧ Q (.bl (if neg then !ds.any fun z => PyData.eqv z d else ds.any fun z => PyData.eqv z d)) H) ∨ rIn K neg x y H Q
theorem op_inAll (hu : X.A.units + 65 < cLine) : OpR X (compareOp .In) (rInAll X.K false) := OpR.or (r := rInD X.K) (op_inD hu) op_in_seq
theorem op_notInAll (hu : X.A.units + 65 < cLine) : OpR X (compareOp .NotIn) (rInAll X.K true) := OpR.or (r := rNotInD X.K) (op_notInD hu) op_notIn_seq
theorem cb_in (neg : Bool) : CB G W (rInAll G.K neg) (oIn neg) := by
  intro ρ M H σ v u Q R ov ou p
  cases u with
  | ref n =>
    have p1 : PoE G ρ M.nx W σ (match M.get n with
      | some (.lst xs) => someO (datM M 12 v) fun d => someO (xs.mapM (datM M 12)) fun ds => someO (anyD d ds) fun b => .ok (.bl (if neg then !b else b)) M
      | some (.tup xs) => guardO (flatM v && xs.all flatM) (.ok (.bl (if neg then !(xs.any fun y => eqF y v) else xs.any fun y => eqF y v)) M)
      | some (.ktup xs) => guardO (flatM v && xs.all flatM) (.ok (.bl (if neg then !(xs.any fun y => eqF y v) else xs.any fun y => eqF y v)) M)
      | _ => .bad) Q := p
    cases q : M.get n with
    | none => rw [q] at p1; exact p1.elim
    | some o =>
      rw [q] at p1
      cases o with
      | lst xs =>
        obtain ⟨d, h1, p⟩ := someO_inv p1
        obtain ⟨ds, h2, p⟩ := someO_inv p
        obtain ⟨b, h3, p⟩ := someO_inv p
        have k1 := datM_ok R _ _ _ h1
        have k2 : DatOk G H 13 (im G ρ (.ref n)) (.lst ds) := datM_ok R 13 (.ref n) (.lst ds) (by
          show (match M.get n with
            | some (.lst xs) => (xs.mapM (datM M 12)).map MD.lst
            | some (.tup xs) => (xs.mapM (datM M 12)).map MD.tup
            | some (.ktup xs) => (xs.mapM (datM M 12)).map MD.tup
            | _ => none) = _
          rw [q]
          show (xs.mapM (datM M 12)).map MD.lst = _
          rw [h2]
          rfl)
        refine .inl ⟨md G d, mds G ds, k1.1, k2.1, k1.sh (by decide), k2.sh (by decide), ?_⟩
        rw [anyD_ok ds b h3]
        exact Po.fin R p trivial
      | tup xs =>
        obtain ⟨h, p⟩ := guardO_inv p1
        obtain ⟨h1, h2⟩ := Bool.and_eq_true_iff.mp h
        obtain ⟨c, k⟩ := R.tup (show tupOf (M.get n) = some xs by rw [q] <;> rfl)
        obtain ⟨a1, a2⟩ := anyF_im (G := G) (ρ := ρ) h1 xs h2
        refine .inr ⟨_, _, rfl, .inr c, flat_im h1, a1, ?_⟩
        rw [a2]
        exact Po.fin R p trivial
      | ktup xs =>
        obtain ⟨h, p⟩ := guardO_inv p1
        obtain ⟨h1, h2⟩ := Bool.and_eq_true_iff.mp h
        obtain ⟨c, k⟩ := R.tup (show tupOf (M.get n) = some xs by rw [q] <;> rfl)
        obtain ⟨a1, a2⟩ := anyF_im (G := G) (ρ := ρ) h1 xs h2
        refine .inr ⟨_, _, rfl, .inr c, flat_im h1, a1, ?_⟩
        rw [a2]
        exact Po.fin R p trivial
      | _ => exact p1.elim
  | _ => exact p.elim
end
end PM
end
noncomputable section
namespace PM
open PySem PySem.Spec PyProof.Rows L2
/-! ## dicts as lists of pairs -/
section
variable {κ β : Type} [DecidableEq κ]
def aGet (l : List (κ × β)) (k : κ) : Option β := match l with
  | [] => none
  | p :: r => if p.1 = k then some p.2 else aGet r k
def aSet (l : List (κ × β)) (k : κ) (v : β) : List (κ × β) := match l with
  | [] => []
  | p :: r => (if p.1 = k then (p.1, v) else p) :: aSet r k v
def aPut (l : List (κ × β)) (k : κ) (v : β) : List (κ × β) := match aGet l k with
  | some _ => aSet l k v
  | none => l ++ [(k, v)]
def aDrop (l : List (κ × β)) (k : κ) : List (κ × β) := match l with
  | [] => []
  | p :: r => if p.1 = k then aDrop r k else p :: aDrop r k
theorem aSet_eq (k : κ) (v : β) : ∀ l : List (κ × β), aSet l k v = l.map fun p => if p.1 = k then (p.1, v) else p
  | [] => rfl
  | p :: r => by
    show _ :: aSet r k v = _
    rw [aSet_eq k v r]
    rfl
theorem mem_aPut {l : List (κ × β)} {k : κ} {v : β} {p : κ × β} (h : p ∈ aPut l k v) : p ∈ l ∨ p.2 = v := by
  unfold aPut at h
  split at h
  · rw [aSet_eq] at h
    obtain ⟨q, hq, e⟩ := List.mem_map.mp h
    by_cases z : q.1 = k
    · rw [if_pos z] at e
      right
      rw [← e]
    · rw [if_neg z] at e
      left
      rw [← e]
      exact hq
  · rcases List.mem_append.mp h with h | h
    · exact .inl h
    · right
      rw [List.mem_singleton.mp h]
theorem mem_aDrop {k : κ} {p : κ × β} : ∀ {l : List (κ × β)}, p ∈ aDrop l k → p ∈ l
  | [], h => h
  | q :: r, h => by
    have h2 : p ∈ (if q.1 = k then aDrop r k else q :: aDrop r k) := h
    by_cases z : q.1 = k
    · rw [if_pos z] at h2
      exact List.mem_cons_of_mem _ (mem_aDrop h2)
    · rw [if_neg z] at h2
      rcases List.mem_cons.mp h2 with e | e
      · rw [e]; exact List.mem_cons_self
      · exact List.mem_cons_of_mem _ (mem_aDrop e)
theorem mem_aGet {k : κ} {v : β} : ∀ {l : List (κ × β)}, aGet l k = some v → (k, v) ∈ l
  | [], h => by cases h
  | q :: r, h => by
    have h2 : (if q.1 = k then some q.2 else aGet r k) = some v := h
    by_cases z : q.1 = k
    · rw [if_pos z] at h2
      cases h2
      rw [← z]
      exact List.mem_cons_self
    · rw [if_neg z] at h2
      exact List.mem_cons_of_mem _ (mem_aGet h2)
variable {κ' : Type} [DecidableEq κ'] {f : κ → κ'} {g : β → V} {k : κ}
theorem valV_im : ∀ {l : List (κ × β)}, (∀ p ∈ l, f p.1 = f k → p.1 = k) → valV (l.map fun p => (f p.1, g p.2)) (f k) = (aGet l k).map g
  | [], _ => rfl
  | p :: r, h => by
    have ih := valV_im (l := r) fun q hq => h q (List.mem_cons_of_mem _ hq)
    show valV ((f p.1, g p.2) :: r.map _) (f k) = ((if p.1 = k then some p.2 else aGet r k)).map g
    by_cases z : p.1 = k
    · rw [if_pos z, valV_pos (by show f p.1 = f k; rw [z])]
      rfl
    · rw [if_neg z, valV_neg (fun e => z (h p List.mem_cons_self e)), ih]
theorem dropK_im : ∀ {l : List (κ × β)}, (∀ p ∈ l, f p.1 = f k → p.1 = k) → dropK (l.map fun p => (f p.1, g p.2)) (f k) = (aDrop l k).map fun p => (f p.1, g p.2)
  | [], _ => rfl
  | p :: r, h => by
    have ih := dropK_im (l := r) fun q hq => h q (List.mem_cons_of_mem _ hq)
    show dropK ((f p.1, g p.2) :: r.map _) (f k) = (if p.1 = k then aDrop r k else p :: aDrop r k).map _
    by_cases z : p.1 = k
    · rw [if_pos z, dropK_pos (by show f p.1 = f k; rw [z]), ih]
    · rw [if_neg z, dropK_neg (fun e => z (h p List.mem_cons_self e)), ih]
      rfl
theorem putK_im {l : List (κ × β)} {v : β} (h : ∀ p ∈ l, f p.1 = f k → p.1 = k) : putK (l.map fun p => (f p.1, g p.2)) (f k) (g v) = (aPut l k v).map fun p => (f p.1, g p.2) := by
  unfold putK aPut
  rw [valV_any, valV_im h]
  cases q : aGet l k with
  | none =>
    rw [if_neg (by simp)]
    simp
  | some x =>
    rw [if_pos (by simp)]
    dsimp only
    rw [aSet_eq, List.map_map, List.map_map]
    refine List.map_congr_left fun p hp => ?_
    show (if f p.1 = f k then (f p.1, g v) else (f p.1, g p.2)) = _
    show _ = (fun q : κ × β => (f q.1, g q.2)) (if p.1 = k then (p.1, v) else p)
    by_cases z : p.1 = k
    · rw [if_pos z, if_pos (by rw [z])]
    · rw [if_neg z, if_neg (fun e => z (h p hp e))]
theorem length_aPut_le (l : List (κ × β)) (k : κ) (v : β) : (aPut l k v).length ≤ l.length + 1 := by
  unfold aPut
  split
  · rw [aSet_eq, List.length_map]; omega
  · rw [List.length_append]; simp
end
/-! ## keys -/
def keyOf : MV → Option MKey
  | .int i => some (.int i)
  | .str s => some (.str s)
  | .sym f i => some (.sym f i)
  | _ => none
/-- two keys of which it is known whether they are one -/
def cmpK : MKey → MKey → Bool
  | .sym f _, .sym g _ => decide (f = g)
  | .sym _ _, .str _ => false
  | .str _, .sym _ _ => false
  | _, _ => true
def cmpKs : List MKey → List MKey → Bool
  | x :: xs, y :: ys => cmpK x y && cmpKs xs ys
  | _, _ => true
section
variable {G : Cfg} {ρ : Nat → Addr} {M : MS} {H : Hp}
theorem keyOf_im {v : MV} {k : MKey} (h : keyOf v = some k) : im G ρ v = kV (imK G k) := by
  cases v <;> first
    | (cases h; rfl)
    | cases h
theorem cmpK_ok {a b : MKey} (h : cmpK a b = true) (e : imK G a = imK G b) : a = b := by
  cases a with
  | int i =>
    cases b with
    | int j => cases (Sum.inl.inj e); rfl
    | _ => cases e
  | str s =>
    cases b with
    | str t => cases (Sum.inr.inj e); rfl
    | int _ => cases e
    | sym _ _ => cases h
  | sym f i =>
    cases b with
    | sym g j =>
      have q : f = g := of_decide_eq_true h
      subst q
      rw [G.tinj f i j (Sum.inr.inj e)]
    | int _ => cases e
    | str _ => cases h
theorem cmpKs_ok : ∀ {a b : List MKey}, cmpKs a b = true → a.map (imK G) = b.map (imK G) → a = b
  | [], [], _, _ => rfl
  | [], _ :: _, _, e => by cases e
  | _ :: _, [], _, e => by cases e
  | x :: xs, y :: ys, h, e => by
    obtain ⟨h1, h2⟩ := Bool.and_eq_true_iff.mp (show (cmpK x y && cmpKs xs ys) = true from h)
    rw [List.map_cons, List.map_cons] at e
    injection e with e1 e2
    rw [cmpK_ok h1 e1, cmpKs_ok h2 e2]
def keysOf : List MV → Option (List MKey)
  | [] => some []
  | x :: xs => match keyOf x, keysOf xs with
    | some k, some ks => some (k :: ks)
    | _, _ => none
theorem keysOf_im : ∀ {xs : List MV} {ks : List MKey}, keysOf xs = some ks → ims G ρ xs = (ks.map (imK G)).map kV
  | [], ks, h => by cases h; rfl
  | x :: xs, ks, h => by
    have h2 : (match keyOf x, keysOf xs with
      | some k, some ks => some (k :: ks)
      | _, _ => none) = some ks := h
    cases q : keyOf x with
    | none => rw [q] at h2; cases h2
    | some k =>
      cases q2 : keysOf xs with
      | none => rw [q, q2] at h2; cases h2
      | some ks' =>
        rw [q, q2] at h2
        cases h2
        show im G ρ x :: ims G ρ xs = _
        rw [keyOf_im q, keysOf_im q2]
        rfl
end
/-! ## a dict's look, by either kind of keys -/
inductive DK where
  | k (n : Nat) (kvs : List (MKey × MV)) (key : MKey) (locked : Bool)
  | t (n : Nat) (kvs : List (List MKey × MV)) (key : List MKey) (locked : Bool)
/-- the dict and the key, where it is known which key is which -/
def dkOf (d y : MV) (M : MS) : Option DK := match d with
  | .ref n => (match M.get n with
    | some (.dk kvs) => (match keyOf y with
      | some k => if kvs.all (fun p => cmpK p.1 k) then some (.k n kvs k false) else none
      | none => none)
    | some (.dkL kvs) => (match keyOf y with
      | some k => if kvs.all (fun p => cmpK p.1 k) then some (.k n kvs k true) else none
      | none => none)
    | some (.dt kvs) => (match y with
      | .ref m => (match M.get m with
        | some (.tup xs) => (match keysOf xs with
          | some ks => if kvs.all (fun p => cmpKs p.1 ks) then some (.t n kvs ks false) else none
          | none => none)
        | _ => none)
      | _ => none)
    | some (.dtL kvs) => (match y with
      | .ref m => (match M.get m with
        | some (.tup xs) => (match keysOf xs with
          | some ks => if kvs.all (fun p => cmpKs p.1 ks) then some (.t n kvs ks true) else none
          | none => none)
        | _ => none)
      | _ => none)
    | _ => none)
  | _ => none
def DK.val : DK → Option MV
  | .k _ kvs key _ => aGet kvs key
  | .t _ kvs key _ => aGet kvs key
def DK.free : DK → Bool
  | .k _ kvs _ l => !l && decide (kvs.length < CAP)
  | .t _ kvs _ l => !l && decide (kvs.length < CAP)
def DK.put (M : MS) (v : MV) : DK → MS
  | .k n kvs key _ => M.put n (.dk (aPut kvs key v))
  | .t n kvs key _ => M.put n (.dt (aPut kvs key v))
def DK.drop (M : MS) : DK → MS
  | .k n kvs key _ => M.put n (.dk (aDrop kvs key))
  | .t n kvs key _ => M.put n (.dt (aDrop kvs key))
section
variable {G : Cfg} {ρ : Nat → Addr} {M : MS} {H : Hp}
/-- what is known behind dkOf -/
inductive DkAt (G : Cfg) (ρ : Nat → Addr) (M : MS) (H : Hp) (d y : MV) : DK → Prop where
  | k (n : Nat) (kvs : List (MKey × MV)) (key : MKey) (e : d = .ref n) (h : M.get n = some (.dk kvs)) (hy : im G ρ y = kV (imK G key)) (c : ∀ p ∈ kvs, imK G p.1 = imK G key → p.1 = key) : DkAt G ρ M H d y (.k n kvs key false)
  | kL (n : Nat) (kvs : List (MKey × MV)) (key : MKey) (e : d = .ref n) (h : M.get n = some (.dkL kvs)) (hy : im G ρ y = kV (imK G key)) (c : ∀ p ∈ kvs, imK G p.1 = imK G key → p.1 = key) : DkAt G ρ M H d y (.k n kvs key true)
  | t (n : Nat) (kvs : List (List MKey × MV)) (key : List MKey) (b : Addr) (e : d = .ref n) (h : M.get n = some (.dt kvs)) (hy : im G ρ y = .ref b) (hb : H b = some (.tup ((key.map (imK G)).map kV))) (c : ∀ p ∈ kvs, p.1.map (imK G) = key.map (imK G) → p.1 = key) : DkAt G ρ M H d y (.t n kvs key false)
  | tL (n : Nat) (kvs : List (List MKey × MV)) (key : List MKey) (b : Addr) (e : d = .ref n) (h : M.get n = some (.dtL kvs)) (hy : im G ρ y = .ref b) (hb : H b = some (.tup ((key.map (imK G)).map kV))) (c : ∀ p ∈ kvs, p.1.map (imK G) = key.map (imK G) → p.1 = key) : DkAt G ρ M H d y (.t n kvs key true)
theorem dkOf_ok (R : Rl G ρ M H) {d y : MV} {q : DK} (h : dkOf d y M = some q) : DkAt G ρ M H d y q := by
  unfold dkOf at h
  cases d with
  | ref n =>
    dsimp only at h
    cases e : M.get n with
    | none => rw [e] at h; cases h
    | some o =>
      rw [e] at h
      cases o with
      | dk kvs =>
        dsimp only at h
        cases e2 : keyOf y with
        | none => rw [e2] at h; cases h
        | some k =>
          rw [e2] at h
          dsimp only at h
          by_cases z : (kvs.all fun p => cmpK p.1 k) = true
          · rw [if_pos z] at h
            cases h
            exact .k n kvs k rfl e (keyOf_im e2) fun p hp => cmpK_ok (List.all_eq_true.mp z p hp)
          · rw [if_neg z] at h
            cases h
      | dkL kvs =>
        dsimp only at h
        cases e2 : keyOf y with
        | none => rw [e2] at h; cases h
        | some k =>
          rw [e2] at h
          dsimp only at h
          by_cases z : (kvs.all fun p => cmpK p.1 k) = true
          · rw [if_pos z] at h
            cases h
            exact .kL n kvs k rfl e (keyOf_im e2) fun p hp => cmpK_ok (List.all_eq_true.mp z p hp)
          · rw [if_neg z] at h
            cases h
      | dt kvs =>
        dsimp only at h
        cases y with
        | ref m =>
          dsimp only at h
          cases e2 : M.get m with
          | none => rw [e2] at h; cases h
          | some o2 =>
            rw [e2] at h
            cases o2 with
            | tup xs =>
              dsimp only at h
              cases e3 : keysOf xs with
              | none => rw [e3] at h; cases h
              | some ks =>
                rw [e3] at h
                dsimp only at h
                by_cases z : (kvs.all fun p => cmpKs p.1 ks) = true
                · rw [if_pos z] at h
                  cases h
                  have c := (R.tupH e2).1
                  rw [keysOf_im e3] at c
                  exact .t n kvs ks _ rfl e rfl c fun p hp => cmpKs_ok (List.all_eq_true.mp z p hp)
                · rw [if_neg z] at h
                  cases h
            | _ => cases h
        | _ => cases h
      | dtL kvs =>
        dsimp only at h
        cases y with
        | ref m =>
          dsimp only at h
          cases e2 : M.get m with
          | none => rw [e2] at h; cases h
          | some o2 =>
            rw [e2] at h
            cases o2 with
            | tup xs =>
              dsimp only at h
              cases e3 : keysOf xs with
              | none => rw [e3] at h; cases h
              | some ks =>
                rw [e3] at h
                dsimp only at h
                by_cases z : (kvs.all fun p => cmpKs p.1 ks) = true
                · rw [if_pos z] at h
                  cases h
                  have c := (R.tupH e2).1
                  rw [keysOf_im e3] at c
                  exact .tL n kvs ks _ rfl e rfl c fun p hp => cmpKs_ok (List.all_eq_true.mp z p hp)
                · rw [if_neg z] at h
                  cases h
            | _ => cases h
        | _ => cases h
      | _ => cases h
  | _ => cases h
theorem DkAt.get (R : Rl G ρ M H) {d y : MV} {q : DK} (h : DkAt G ρ M H d y q) : ∃ a, im G ρ d = .ref a ∧ DGet H a (im G ρ y) (q.val.map (im G ρ)) := by
  cases h with
  | k n kvs key e h hy c =>
    subst e
    refine ⟨ρ n, rfl, ?_⟩
    rw [hy]
    refine .inl ⟨imD G ρ kvs, imK G key, .inl (R.o n _ h).2.2, rfl, (valV_im c).symm⟩
  | kL n kvs key e h hy c =>
    subst e
    refine ⟨ρ n, rfl, ?_⟩
    rw [hy]
    exact .inl ⟨imD G ρ kvs, imK G key, .inr ⟨_, (R.o n _ h).2.2⟩, rfl, (valV_im c).symm⟩
  | t n kvs key b e h hy hb c =>
    subst e
    refine ⟨ρ n, rfl, ?_⟩
    rw [hy]
    exact .inr ⟨imDt G ρ kvs, key.map (imK G), b, .inl (R.o n _ h).2.2, rfl, hb, (valV_im (f := fun ks : List MKey => ks.map (imK G)) c).symm⟩
  | tL n kvs key b e h hy hb c =>
    subst e
    refine ⟨ρ n, rfl, ?_⟩
    rw [hy]
    exact .inr ⟨imDt G ρ kvs, key.map (imK G), b, .inr ⟨_, (R.o n _ h).2.2⟩, rfl, hb, (valV_im (f := fun ks : List MKey => ks.map (imK G)) c).symm⟩
theorem DkAt.okv (R : Rl G ρ M H) {d y : MV} {q : DK} (h : DkAt G ρ M H d y q) {v : MV} (hv : q.val = some v) : okV M.nx v := by
  cases h with
  | k n kvs key e h hy c => exact (show okO M.nx (.dk kvs) from (R.o n _ h).2.1) _ (mem_aGet (show aGet kvs key = some v from hv))
  | kL n kvs key e h hy c => exact (show okO M.nx (.dkL kvs) from (R.o n _ h).2.1) _ (mem_aGet (show aGet kvs key = some v from hv))
  | t n kvs key b e h hy hb c => exact (show okO M.nx (.dt kvs) from (R.o n _ h).2.1) _ (mem_aGet (show aGet kvs key = some v from hv))
  | tL n kvs key b e h hy hb c => exact (show okO M.nx (.dtL kvs) from (R.o n _ h).2.1) _ (mem_aGet (show aGet kvs key = some v from hv))
theorem DK.put_nx {M : MS} {v : MV} : ∀ {q : DK}, (q.put M v).nx = M.nx
  | .k _ _ _ _ => rfl
  | .t _ _ _ _ => rfl
theorem DK.drop_nx {M : MS} : ∀ {q : DK}, (q.drop M).nx = M.nx
  | .k _ _ _ _ => rfl
  | .t _ _ _ _ => rfl
theorem DkAt.put (R : Rl G ρ M H) {d y : MV} {q : DK} (h : DkAt G ρ M H d y q) (hf : q.free = true) {v : MV} (hv : okV M.nx v) : ∃ a H', im G ρ d = .ref a ∧ DPut H a (im G ρ y) (im G ρ v) H' ∧ Rl G ρ (q.put M v) H' := by
  cases h with
  | k n kvs key e h hy c =>
    subst e
    obtain ⟨_, h2⟩ := Bool.and_eq_true_iff.mp (show (!false && decide (kvs.length < CAP)) = true from hf)
    have h3 := of_decide_eq_true h2
    refine ⟨ρ n, upd H (ρ n) (.dK (putK (imD G ρ kvs) (imK G key) (im G ρ v))), rfl, ?_, ?_⟩
    · rw [hy]
      exact DPut.k (R.o n _ h).2.2 (by rw [List.length_map]; exact cap_line h3)
    · refine R.write h rfl rfl (fun p hp => (mem_aPut hp).elim (fun z => (R.o n _ h).2.1 p z) fun z => by rw [z]; exact hv) ?_
      show upd H _ _ _ = _
      rw [upd_same, putK_im c]
  | t n kvs key b e h hy hb c =>
    subst e
    obtain ⟨_, h2⟩ := Bool.and_eq_true_iff.mp (show (!false && decide (kvs.length < CAP)) = true from hf)
    have h3 := of_decide_eq_true h2
    refine ⟨ρ n, upd H (ρ n) (.dT (putK (imDt G ρ kvs) (key.map (imK G)) (im G ρ v))), rfl, ?_, ?_⟩
    · rw [hy]
      exact DPut.t (R.o n _ h).2.2 hb (by rw [List.length_map]; exact cap_line h3)
    · refine R.write h rfl rfl (fun p hp => (mem_aPut hp).elim (fun z => (R.o n _ h).2.1 p z) fun z => by rw [z]; exact hv) ?_
      show upd H _ _ _ = _
      rw [upd_same, putK_im (f := fun ks : List MKey => ks.map (imK G)) c]
  | kL n kvs key e h hy c => cases hf
  | tL n kvs key b e h hy hb c => cases hf
end
/-! ## the operations on dicts -/
def oDGet (d y : MV) (M : MS) : Out MV := someO (dkOf d y M) fun q => someO q.val fun v => .ok v M
def oDIn (neg : Bool) (y d : MV) (M : MS) : Out MV := someO (dkOf d y M) fun q => .ok (.bl (if neg then !q.val.isSome else q.val.isSome)) M
def asD (v : MV) (M : MS) (k : Out α) : Out α := match v with
  | .ref n => (match M.get n with
    | some (.dk _) => k
    | some (.dkL _) => k
    | some (.dt _) => k
    | some (.dtL _) => k
    | _ => .bad)
  | _ => .bad
theorem asD_inv {α β : Type} {ok : Nat → α → Prop} {img : (Nat → Addr) → α → β} {G : Cfg} {W : WX} {ρ : Nat → Addr} {M : MS} {H : Hp} {σ : L2.St} {Q : β → Hp → Prop} {v : MV} {k : Out α} (R : Rl G ρ M H) (p : Po G ρ M.nx W ok img σ (asD v M k) Q) :
    ∃ a, im G ρ v = .ref a ∧ IsD H a ∧ Po G ρ M.nx W ok img σ k Q := by
  unfold asD at p
  cases v with
  | ref n =>
    dsimp only at p
    cases q : M.get n with
    | none => rw [q] at p; exact p.elim
    | some o =>
      rw [q] at p
      cases o with
      | dk kvs => exact ⟨ρ n, rfl, .inl ⟨_, .inl (R.o n _ q).2.2⟩, p⟩
      | dkL kvs => exact ⟨ρ n, rfl, .inl ⟨_, .inr ⟨_, (R.o n _ q).2.2⟩⟩, p⟩
      | dt kvs => exact ⟨ρ n, rfl, .inr ⟨_, .inl (R.o n _ q).2.2⟩, p⟩
      | dtL kvs => exact ⟨ρ n, rfl, .inr ⟨_, .inr ⟨_, (R.o n _ q).2.2⟩⟩, p⟩
      | _ => exact p.elim
  | _ => exact p.elim
section
variable {X : Cx} {G : Cfg} {W : WX} {pos pos' : Pos} {a b c : Expr} {ma mb mc : MX}
theorem re_dget (hu : X.A.units + 1 < cLine) (ha : RE X G W a ma) (hb : RE X G W b mb) (hs : NoSl b := by exact fun _ _ => rfl) : RE X G W (.Subscript a b pos) (mBi oDGet ma mb) :=
  PE.imp (pe_dget hu ha hb hs) fun σ H Q ⟨_, _, _, R, E, p⟩ => se_at R E p fun ρ M H v _ R o E p => se_at R E p fun ρ2 M2 H2 u x R2 o2 E2 p2 => by
    rw [← im_ex x o]
    obtain ⟨q, h1, p3⟩ := someO_inv p2
    obtain ⟨w, h2, p4⟩ := someO_inv p3
    have D := dkOf_ok R2 h1
    obtain ⟨ad, e, g⟩ := D.get R2
    rw [h2] at g
    exact ⟨ad, _, e, g, Po.fin R2 p4 (D.okv R2 h2)⟩
theorem pc_to {op : CmpOp} {t t' : TE} (h : PC X op a b t) (i : ∀ σ H Q, t' σ H Q → t σ H Q) : PC X op a b t' := ⟨fun pins s σ H Q I w => h.run pins s σ H Q I (i σ H Q w)⟩
theorem rc_din (hu : X.A.units + 1 < cLine) (ha : RE X G W a ma) (hb : RE X G W b mb) : PC X .In a b (SE G W (mBi (oDIn false) ma mb)) :=
  pc_to (pc_din hu ha hb) fun σ H Q ⟨_, _, _, R, E, p⟩ => se_at R E p fun ρ M H v _ R o E p => se_at R E p fun ρ2 M2 H2 u x R2 o2 E2 p2 => by
    rw [← im_ex x o]
    obtain ⟨q, h1, p3⟩ := someO_inv p2
    obtain ⟨ad, e, g⟩ := (dkOf_ok R2 h1).get R2
    refine ⟨ad, _, e, g, ?_⟩
    rw [Option.isSome_map]
    exact Po.fin R2 p3 trivial
theorem rc_dnotin (hu : X.A.units + 1 < cLine) (ha : RE X G W a ma) (hb : RE X G W b mb) : PC X .NotIn a b (SE G W (mBi (oDIn true) ma mb)) :=
  pc_to (pc_dnotin hu ha hb) fun σ H Q ⟨_, _, _, R, E, p⟩ => se_at R E p fun ρ M H v _ R o E p => se_at R E p fun ρ2 M2 H2 u x R2 o2 E2 p2 => by
    rw [← im_ex x o]
    obtain ⟨q, h1, p3⟩ := someO_inv p2
    obtain ⟨ad, e, g⟩ := (dkOf_ok R2 h1).get R2
    refine ⟨ad, _, e, g, ?_⟩
    rw [Option.isSome_map]
    exact Po.fin R2 p3 trivial
/-- d.get(k, x) -/
def mGet2 (d y x : MX) : MX := fun e M => (d e M).bind fun dv M1 => asD dv M1 ((y e M1).bind fun yv M2 => (x e M2).bind fun xv M3 => someO (dkOf dv yv M3) fun q => .ok (q.val.getD xv) M3)
theorem re_get2 {o e f : Expr} {apos cpos : Pos} {md_ me mf : MX} (hu : X.A.units + 1 < cLine) (ho : RE X G W o md_) (he : RE X G W e me) (hf : RE X G W f mf) (m : M2 X o "get" apos e f cpos := by exact ⟨rfl, rfl, rfl, rfl⟩) :
    RE X G W (.Call (.Attribute o "get" apos) [e, f] [] cpos) (mGet2 md_ me mf) :=
  PE.imp (pe_dget2 hu ho he hf m) fun σ H Q ⟨_, _, _, R, E, p⟩ => se_at R E p fun ρ M H v _ R o E p => by
    obtain ⟨ad, ea, isd, p⟩ := asD_inv R p
    refine ⟨ad, ea, isd, se_at R E p fun ρ2 M2 H2 u x R2 o2 E2 p2 => se_at R2 E2 p2 fun ρ3 M3 H3 z x3 R3 o3 E3 p3 => ?_⟩
    obtain ⟨q, h1, p4⟩ := someO_inv p3
    have D := dkOf_ok R3 h1
    obtain ⟨ad', e', g⟩ := D.get R3
    have e1 : ad = ad' := by
      rw [← im_ex (x.trans x3) o, e'] at ea
      exact (V.ref.inj ea).symm
    subst e1
    refine ⟨q.val.map (im G ρ3), ?_, ?_⟩
    · rw [← im_ex x3 o2]
      exact g
    · have h2 := Po.fin R3 p4 (show okV M3.nx (q.val.getD z) by
        cases hq : q.val with
        | none => exact o3
        | some w => exact D.okv R3 hq)
      cases hq : q.val with
      | none => rw [hq] at h2; exact h2
      | some w => rw [hq] at h2; exact h2
/-- d.pop(k), a dict of ints and texts -/
def mDPop (d y : MX) : MX := fun e M => (d e M).bind fun dv M1 => asD dv M1 ((y e M1).bind fun yv M2 => someO (dkOf dv yv M2) fun q => match q with
  | .k n kvs k false => someO (aGet kvs k) fun v => .ok v (M2.put n (.dk (aDrop kvs k)))
  | _ => .bad)
theorem re_dpop {o e : Expr} {apos cpos : Pos} {md_ me : MX} (ho : RE X G W o md_) (he : RE X G W e me) (m : M1 X o "pop" apos e cpos := by exact ⟨rfl, rfl, rfl, rfl⟩) :
    RE X G W (.Call (.Attribute o "pop" apos) [e] [] cpos) (mDPop md_ me) :=
  PE.imp (pe_dpop1 ho he m) fun σ H Q ⟨_, _, _, R, E, p⟩ => se_at R E p fun ρ M H v _ R o E p => by
    obtain ⟨ad, ea, isd, p⟩ := asD_inv R p
    refine ⟨ad, ea, isd, se_at R E p fun ρ2 M2 H2 u x R2 o2 E2 p2 => ?_⟩
    obtain ⟨q, h1, p3⟩ := someO_inv p2
    have D := dkOf_ok R2 h1
    cases D with
    | k n kvs key e h hy c =>
      obtain ⟨w, h2, p4⟩ := someO_inv p3
      subst e
      have e1 : ad = ρ2 n := by
        rw [← im_ex x o] at ea
        exact (V.ref.inj ea).symm
      subst e1
      refine ⟨imD G ρ2 kvs, imK G key, im G ρ2 w, (R2.o n _ h).2.2, hy, ?_, ?_⟩
      · have := valV_im (g := im G ρ2) c
        rw [h2] at this
        exact this
      · rw [dropK_im c]
        have R3 : Rl G ρ2 (M2.put n (.dk (aDrop kvs key))) (upd H2 (ρ2 n) (.dK (imD G ρ2 (aDrop kvs key)))) := R2.write h rfl rfl (fun p hp => (R2.o n _ h).2.1 p (mem_aDrop hp)) upd_same
        exact Po.fin R3 p4 ((R2.o n _ h).2.1 _ (mem_aGet h2))
    | _ => exact p3.elim
end
end PM
end
noncomputable section
namespace PM
open PySem PySem.Spec PyProof.Rows L2 DT L2.DX
section
variable {prog : Program} {w : World} {K : Type} [DecidableEq K] {knd : HeapKind prog w K}
theorem meetsPop1 {d b : Addr} {k : K} (hd : (d == sysModules) = false) :
    MeetsIn prog w (Builtin.«dict.pop» ⟨[.ref d, .ref b], []⟩) (fun A R s => ∃ xs, knd.room A.in1 ∧ knd.is s.heap k b ∧ s.heap.DictOfH knd d xs ∧ xs.length ≤ sizeLine ∧
      (∃ p, atKey xs k = some p ∧ ∀ h' tk, h'.DictOfH knd d (dropH xs k) → Heap.SameBut d s.heap h' → R (.ok (.ret p.2)) { s with heap := h', toks := tk })) :=
  .of_wp fun A R s ⟨xs, hu, hkey, hm, hsz, p0, hp0, hsome⟩ => by
    obtain ⟨o, es, ep, ho, hc, hdat, he, his, hn⟩ := id hm
    have hes : es.size = xs.length := size_of_entries he
    have hpart : (keyPart (Value.ref b)).isSome = false := rfl
    unfold Builtin.«dict.pop»
    refine wpAny_bind ?_
    unfold Builtin.Dict.keyAndDefault
    refine wpAny_bind (wpAny_notOrdered_dict hm.typeIs ?_)
    show wpAny _ _ (pure (d, Value.ref b, none)) _ _ s
    refine wpAny_pure ?_
    simp only [hpart, Bool.false_eq_true, if_false]
    refine wpAny_bind (wpAny_dictEntries ho hdat (wpAny_bind (wpAny_pure ?_)))
    cases hem : es.isEmpty with
    | true =>
      have h0 : xs = [] := by
        have z : es.size = 0 := by simpa using hem
        exact List.length_eq_zero_iff.mp (by omega)
      rw [h0] at hp0
      cases hp0
    | false =>
      simp only [Bool.false_eq_true, if_false]
      refine wpAny_bind (takeH hu hkey hm hsz (fun hno => ?_) fun p e hp hev h' hm' hs' => ?_)
      · rw [hp0] at hno
        cases hno
      · simp only [Option.isNone_some, Bool.false_eq_true, if_false]
        rw [hp0] at hp
        cases hp
        exact wpAny_bind (wpAny_letGo (wpAny_pure ⟨e.val, rfl, by rw [hev]; exact hsome h' _ hm' hs'⟩))
end
def rPopT1 : V → List V → Hp → VK → Prop := fun x xs H Q => ∃ (a : Addr) (kvs : List (List L2.Key × V)) (k : List L2.Key) (b : Addr) (v : V), x = .ref a ∧ xs = [.ref b] ∧ H a = some (.dT kvs) ∧ H b = some (.tup (k.map kV)) ∧
  valV kvs k = some v ∧ Q v (upd H a (.dT (dropK kvs k)))
theorem mt_popT1 {X : Cx} (hu : X.A.units + 1 < cLine) : MtR X "dict.pop" rPopT1 := by
  intro pins s σ H x xs v us Q I rx rxs h
  obtain ⟨a, kvs, k, b, v1, rfl, rfl, ha, hb, hv1, q1⟩ := h
  cases rx
  obtain ⟨u1, rfl, r1⟩ := vals1 rxs
  cases r1
  obtain ⟨z, hd, xs', rel, dd⟩ := dt_of I.hok ha
  have hz : xs'.length ≤ sizeLine := by rw [← Paired.length rel]; exact z
  have r := rel.val k
  rw [hv1] at r
  obtain ⟨p, hp, rv⟩ : ∃ p, atKey xs' k = some p ∧ RelV v1 p.2 := by
    cases ev : atKey xs' k with
    | none =>
      rw [ev] at r
      exact (show False from r).elim
    | some p =>
      rw [ev] at r
      exact ⟨p, rfl, r⟩
  refine call_meetsIn PySem.F.slot_dict_pop dd.typeIs PySem.F.entry_dict_pop (PySem.F.args_dict_pop_2 _ _) (meetsPop1 (knd := tupleKind (mixKind X.prog X.w)) (k := k) hd)
    ⟨xs', tupleKind_room_in1 hu, key_of I.hok hb, dd, hz, p, hp, fun h' tk dd' hs => ?_⟩
  obtain ⟨o, es, ep, hq, h2, h3, h4, _, h5⟩ := dd'
  have I2 : Inv X pins σ (upd H a (.dT (dropK kvs k))) { s with heap := h', toks := tk } :=
    d_write I (by rw [ha]; exact True.intro) hs ⟨o, hq⟩ ⟨Nat.le_trans (dropK_le kvs k) z, hd, _, (KT_drop k rel).keeps (fun c ys ec => (by rw [upd_ne (ne_of ec ha (fun z => nomatch z))]; exact ec)), o, es, ep, hq, h2, h3, h4, h5⟩
  show EP X pins σ Q p.2 _
  exact ⟨v1, _, I2, rv, q1⟩
end PM
end
noncomputable section
namespace PM
open PySem PySem.Spec PyProof.Rows L2
/-! ## attributes -/
def NCL : Nat := 5
def lkF (fs : List (Nat × MV)) (f : Nat) : Option MV := match fs with
  | [] => none
  | p :: r => if p.1 = f then some p.2 else lkF r f
def putM (f : Nat) (v : MV) (fs : List (Nat × MV)) : List (Nat × MV) := match fs with
  | [] => [(f, v)]
  | p :: r => if p.1 = f then (p.1, v) :: r else p :: putM f v r
/-- what the written part says of the classes and the attributes -/
structure Fx (K : PySem.W.Frag) (G : Cfg) (NF : Nat) : Prop where
  k : K = G.K
  cl : ∀ c, c < NCL → Cls K (G.cls c)
  no : ∀ c f, c < NCL → f < NF → NoAttr K (G.cls c) (G.fname f)
section
variable {G : Cfg} {ρ : Nat → Addr}
theorem lkF_im (f : Nat) : ∀ fs : List (Nat × MV), (imF G ρ fs).lookup (G.fname f) = (lkF fs f).map (im G ρ)
  | [] => rfl
  | p :: r => by
    have ih := lkF_im f r
    show List.lookup (G.fname f) ((G.fname p.1, im G ρ p.2) :: imF G ρ r) = (if p.1 = f then some p.2 else lkF r f).map _
    by_cases z : p.1 = f
    · rw [if_pos z]
      have e : (G.fname f == G.fname p.1) = true := by rw [z]; exact beq_self_eq_true _
      simp only [List.lookup, e]
      rfl
    · rw [if_neg z]
      have e : (G.fname f == G.fname p.1) = false := beq_eq_false_iff_ne.mpr fun q => z (G.finj _ _ q).symm
      simp only [List.lookup, e]
      exact ih
theorem putM_im (f : Nat) (v : MV) : ∀ fs : List (Nat × MV), putF (G.fname f) (im G ρ v) (imF G ρ fs) = imF G ρ (putM f v fs)
  | [] => rfl
  | p :: r => by
    have ih := putM_im f v r
    show (if G.fname p.1 = G.fname f then (G.fname p.1, im G ρ v) :: imF G ρ r else (G.fname p.1, im G ρ p.2) :: putF (G.fname f) (im G ρ v) (imF G ρ r)) = imF G ρ (if p.1 = f then (p.1, v) :: r else p :: putM f v r)
    by_cases z : p.1 = f
    · rw [if_pos z, if_pos (by rw [z])]
      rfl
    · rw [if_neg z, if_neg (fun q => z (G.finj _ _ q)), ih]
      rfl
theorem mem_lkF {f : Nat} {v : MV} : ∀ {fs : List (Nat × MV)}, lkF fs f = some v → ∃ p ∈ fs, p.2 = v
  | [], h => by cases h
  | p :: r, h => by
    have h2 : (if p.1 = f then some p.2 else lkF r f) = some v := h
    by_cases z : p.1 = f
    · rw [if_pos z] at h2
      cases h2
      exact ⟨p, List.mem_cons_self, rfl⟩
    · rw [if_neg z] at h2
      obtain ⟨q, hq, e⟩ := mem_lkF h2
      exact ⟨q, List.mem_cons_of_mem _ hq, e⟩
theorem mem_putM {f : Nat} {v : MV} {p : Nat × MV} : ∀ {fs : List (Nat × MV)}, p ∈ putM f v fs → p ∈ fs ∨ p.2 = v
  | [], h => by
    right
    rw [List.mem_singleton.mp h]
  | q :: r, h => by
    have h2 : p ∈ (if q.1 = f then (q.1, v) :: r else q :: putM f v r) := h
    by_cases z : q.1 = f
    · rw [if_pos z] at h2
      rcases List.mem_cons.mp h2 with e | e
      · right; rw [e]
      · exact .inl (List.mem_cons_of_mem _ e)
    · rw [if_neg z] at h2
      rcases List.mem_cons.mp h2 with e | e
      · left; rw [e]; exact List.mem_cons_self
      · exact (mem_putM e).elim (fun z => .inl (List.mem_cons_of_mem _ z)) .inr
end
def oAttr (f : Nat) (v : MV) (M : MS) : Out MV := asIns v M fun _ c fs => guardO (decide (c < NCL)) (someO (lkF fs f) fun w => .ok w M)
def mAttr (f : Nat) (a : MX) : MX := mUn (oAttr f) a
/-- o.f = v, the state behind it -/
def setA (f : Nat) (o v : MV) (M : MS) (k : MS → SOut) : SOut := match o with
  | .ref n => (match M.get n with
    | some (.ins c fs) => if decide (c < NCL) && decide (fs.length < 100) then k (M.put n (.ins c (putM f v fs))) else .bad
    | _ => .bad)
  | _ => .bad
def mSetA (f : Nat) (o v : MX) : MSt := fun e M => bindS (v e M) e fun y M1 => bindS (o e M1) e fun x M2 => setA f x y M2 (.nx e)
section
variable {X : Cx} {G : Cfg} {W : WX} {pos pos' : Pos} {a b c : Expr} {ma mb mc : MX} {NF : Nat}
theorem re_attr (F : Fx X.K G NF) {f : Nat} {x : Str} (hf : f < NF) (hx : G.fname f = x) (ha : RE X G W a ma) (hb : attributeBase a x X.env (eval a X.env) = eval a X.env := by rfl) : RE X G W (.Attribute a x pos) (mAttr f ma) := by
  subst hx
  refine PE.imp (pe_fld ha hb) fun σ H Q ⟨_, _, _, R, E, p⟩ => se_at R E p fun ρ M H v _ R o E p => ?_
  obtain ⟨n, cc, fs, rfl, h, p⟩ := asIns_inv p
  obtain ⟨h1, p⟩ := guardO_inv p
  obtain ⟨w, h2, p⟩ := someO_inv p
  have h1 := of_decide_eq_true h1
  obtain ⟨⟨dx, hi⟩, ho⟩ := R.ins h
  obtain ⟨q, hq, e⟩ := mem_lkF h2
  refine ⟨ρ n, G.cls cc, dx, _, im G ρ w, rfl, hi, F.cl cc h1, F.no cc f h1 hf, ?_, Po.fin R p (e ▸ ho q hq)⟩
  rw [lkF_im, h2]
  rfl
theorem setA_inv {ρ : Nat → Addr} {nx : Nat} {f : Nat} {o v : MV} {M : MS} {k : MS → SOut} {D : Ends} (p : PoS G ρ nx W (setA f o v M k) D) : ∃ n c fs, o = .ref n ∧ M.get n = some (.ins c fs) ∧ c < NCL ∧ fs.length < 100 ∧ PoS G ρ nx W (k (M.put n (.ins c (putM f v fs)))) D := by
  unfold setA at p
  cases o with
  | ref n =>
    dsimp only at p
    cases q : M.get n with
    | none => rw [q] at p; exact p.elim
    | some ob =>
      rw [q] at p
      cases ob with
      | ins cc fs =>
        dsimp only at p
        by_cases z : (decide (cc < NCL) && decide (fs.length < 100)) = true
        · rw [if_pos z] at p
          obtain ⟨h1, h2⟩ := Bool.and_eq_true_iff.mp z
          exact ⟨n, cc, fs, rfl, q, of_decide_eq_true h1, of_decide_eq_true h2, p⟩
        · rw [if_neg z] at p
          exact p.elim
      | _ => exact p.elim
  | _ => exact p.elim
theorem Rl.setI {ρ : Nat → Addr} {M : MS} {H : Hp} (R : Rl G ρ M H) {n c f : Nat} {fs : List (Nat × MV)} {v : MV} (h : M.get n = some (.ins c fs)) (hv : okV M.nx v) {dx : Addr} :
    Rl G ρ (M.put n (.ins c (putM f v fs))) (upd H (ρ n) (.ins (G.cls c) dx (putF (G.fname f) (im G ρ v) (imF G ρ fs)))) :=
  R.write h rfl rfl (fun p hp => (mem_putM hp).elim ((R.ins h).2 p) fun z => by rw [z]; exact hv) ⟨dx, by rw [upd_same, putM_im]⟩
theorem rs_setA (F : Fx X.K G NF) {f : Nat} {x : Str} (hf : f < NF) (hx : G.fname f = x) (ha : RE X G W a ma) (hb : RE X G W b mb) (hs : swapsWith b (some (.Attribute a x pos')) pos.line X.env = pure false := by rfl) :
    RS X G W (.Assign [.Attribute a x pos'] b pos) (mSetA f ma mb) := by
  subst hx
  refine PS.imp (ps_fld ha hb hs) fun D σ H ⟨_, _, _, R, E, p⟩ => se_atS R E p fun ρ M H v _ R o E p => se_atS R E p fun ρ2 M2 H2 u x R2 o2 E2 p2 => ?_
  obtain ⟨n, cc, fs, rfl, h, h1, h2, p3⟩ := setA_inv p2
  obtain ⟨⟨dx, hi⟩, ho⟩ := R2.ins h
  refine ⟨ρ2 n, G.cls cc, dx, _, rfl, hi, F.cl cc h1, F.no cc f h1 hf, by rw [List.length_map]; omega, ?_⟩
  rw [← im_ex x o]
  exact p3 ρ2 _ σ Ex.refl (R2.setI h (o.mono x.1)) E2
/-- o.f += e, whole numbers -/
def getA (f : Nat) (o : MV) (M : MS) (k : Nat → Nat → MV → SOut) : SOut := match o with
  | .ref n => (match M.get n with
    | some (.ins c fs) => if decide (c < NCL) then (match lkF fs f with
      | some w => k n c w
      | none => .bad) else .bad
    | _ => .bad)
  | _ => .bad
def setN (f n c : Nat) (v : MV) (M : MS) (k : MS → SOut) : SOut := match M.get n with
  | some (.ins c' fs) => if decide (c' = c) && decide (fs.length < 100) then k (M.put n (.ins c (putM f v fs))) else .bad
  | _ => .bad
def intS (g : Int → Int → Int) (w y : MV) (k : MV → SOut) : SOut := match w, y with
  | .int i, .int j => k (.int (g i j))
  | _, _ => .bad
theorem getA_inv {ρ : Nat → Addr} {nx : Nat} {f : Nat} {o : MV} {M : MS} {k : Nat → Nat → MV → SOut} {D : Ends} (p : PoS G ρ nx W (getA f o M k) D) : ∃ n c fs w, o = .ref n ∧ M.get n = some (.ins c fs) ∧ c < NCL ∧ lkF fs f = some w ∧ PoS G ρ nx W (k n c w) D := by
  unfold getA at p
  cases o with
  | ref n =>
    dsimp only at p
    cases q : M.get n with
    | none => rw [q] at p; exact p.elim
    | some ob =>
      rw [q] at p
      cases ob with
      | ins cc fs =>
        dsimp only at p
        by_cases z : decide (cc < NCL) = true
        · rw [if_pos z] at p
          cases q2 : lkF fs f with
          | none => rw [q2] at p; exact p.elim
          | some w =>
            rw [q2] at p
            exact ⟨n, cc, fs, w, rfl, q, of_decide_eq_true z, q2, p⟩
        · rw [if_neg z] at p
          exact p.elim
      | _ => exact p.elim
  | _ => exact p.elim
theorem setN_inv {ρ : Nat → Addr} {nx : Nat} {f n c : Nat} {v : MV} {M : MS} {k : MS → SOut} {D : Ends} (p : PoS G ρ nx W (setN f n c v M k) D) : ∃ fs, M.get n = some (.ins c fs) ∧ fs.length < 100 ∧ PoS G ρ nx W (k (M.put n (.ins c (putM f v fs)))) D := by
  unfold setN at p
  cases q : M.get n with
  | none => rw [q] at p; exact p.elim
  | some ob =>
    rw [q] at p
    cases ob with
    | ins cc fs =>
      dsimp only at p
      by_cases z : (decide (cc = c) && decide (fs.length < 100)) = true
      · rw [if_pos z] at p
        obtain ⟨h1, h2⟩ := Bool.and_eq_true_iff.mp z
        have h1 := of_decide_eq_true h1
        subst h1
        exact ⟨fs, rfl, of_decide_eq_true h2, p⟩
      · rw [if_neg z] at p
        exact p.elim
    | _ => exact p.elim
theorem intS_inv {ρ : Nat → Addr} {nx : Nat} {g : Int → Int → Int} {w y : MV} {k : MV → SOut} {D : Ends} (p : PoS G ρ nx W (intS g w y k) D) : ∃ i j, w = .int i ∧ y = .int j ∧ PoS G ρ nx W (k (.int (g i j))) D := by
  cases w with
  | int i =>
    cases y with
    | int j => exact ⟨i, j, rfl, rfl, p⟩
    | _ => exact p.elim
  | _ => cases y <;> exact p.elim
def mAugA (f : Nat) (g : Int → Int → Int) (o v : MX) : MSt := fun e M => bindS (o e M) e fun x M1 => getA f x M1 fun n c w => bindS (v e M1) e fun y M2 => intS g w y fun z => setN f n c z M2 (.nx e)
theorem rs_augA (F : Fx X.K G NF) {f : Nat} {x : Str} (hf : f < NF) (hx : G.fname f = x) (ha : RE X G W a ma) (hb : RE X G W b mb) {op : Operator} {g : Int → Int → Int} (hop : InOp X op fun x y H Q => ∃ i j, x = .int i ∧ y = .int j ∧ Q (.int (g i j)) H) :
    RS X G W (.AugAssign (.Attribute a x pos') op b pos) (mAugA f g ma mb) := by
  subst hx
  refine PS.imp (ps_fldaug ha hb hop) fun D σ H ⟨_, _, _, R, E, p⟩ => se_atS R E p fun ρ M H v _ R o E p => ?_
  obtain ⟨n, cc, fs, w, rfl, h, h1, hw, p⟩ := getA_inv p
  obtain ⟨⟨dx, hi⟩, ho⟩ := R.ins h
  obtain ⟨q, hq, e⟩ := mem_lkF hw
  have ow : okV M.nx w := e ▸ ho q hq
  refine ⟨ρ n, G.cls cc, dx, _, im G ρ w, rfl, hi, F.cl cc h1, F.no cc f h1 hf, by rw [lkF_im, hw]; rfl, se_atS R E p fun ρ2 M2 H2 u x R2 o2 E2 p2 => ?_⟩
  obtain ⟨i, j, rfl, rfl, p3⟩ := intS_inv p2
  refine ⟨i, j, rfl, rfl, ?_⟩
  obtain ⟨fs', h', h2', p4⟩ := setN_inv p3
  obtain ⟨⟨dx', hi'⟩, ho'⟩ := R2.ins h'
  have en : ρ2 n = ρ n := x.2 n o
  rw [← en]
  exact ⟨dx', _, hi', by rw [List.length_map]; omega, p4 ρ2 _ σ Ex.refl (R2.setI (v := .int (g i j)) h' trivial) E2⟩
/-! ## items and slices -/
def oIx (x y : MV) (M : MS) : Out MV := asI y fun i => match x with
  | .ref n => (match M.get n with
    | some (.lst xs) => someO (atI xs i) fun v => .ok v M
    | some (.tup xs) => someO (atI xs i) fun v => .ok v M
    | some (.ktup xs) => someO (atI xs i) fun v => .ok v M
    | _ => .bad)
  | .str s => guardO (decide (s.length ≤ CAP)) (someO (atI s.cps.toList i) fun c => .ok (.str ⟨#[c]⟩) M)
  | _ => .bad
theorem atI_im {ρ : Nat → Addr} {xs : List MV} {i : Int} {v : MV} (h : atI xs i = some v) : atI (ims G ρ xs) i = some (im G ρ v) := by
  unfold atI at h ⊢
  rw [List.length_map]
  cases q : ixN xs.length i with
  | none => rw [q] at h; cases h
  | some j =>
    rw [q] at h
    have h2 : xs[j]? = some v := h
    show (ims G ρ xs)[j]? = _
    rw [List.getElem?_map, h2]
    rfl
theorem mem_atI {α : Type} {xs : List α} {i : Int} {v : α} (h : atI xs i = some v) : v ∈ xs := by
  unfold atI at h
  cases q : ixN xs.length i with
  | none => rw [q] at h; cases h
  | some j =>
    rw [q] at h
    exact List.mem_of_getElem? (show xs[j]? = some v from h)
theorem cb_ix : CB G W (rIx G.K) oIx := by
  intro ρ M H σ v u Q R ov ou p
  obtain ⟨i, rfl, p1⟩ := asI_inv p
  cases v with
  | ref n =>
    dsimp only at p1
    cases q : M.get n with
    | none => rw [q] at p1; exact p1.elim
    | some o =>
      rw [q] at p1
      cases o with
      | lst xs =>
        obtain ⟨w, h, p⟩ := someO_inv p1
        obtain ⟨c, k⟩ := R.lst q
        exact .inl ⟨_, _, _, _, rfl, rfl, SqL.of c, atI_im h, Po.fin R p (k w (mem_atI h))⟩
      | tup xs =>
        obtain ⟨w, h, p⟩ := someO_inv p1
        obtain ⟨c, k⟩ := R.tup (show tupOf (M.get n) = some xs by rw [q] <;> rfl)
        exact .inr (.inl ⟨_, _, _, _, rfl, rfl, c, atI_im h, Po.fin R p (k w (mem_atI h))⟩)
      | ktup xs =>
        obtain ⟨w, h, p⟩ := someO_inv p1
        obtain ⟨c, k⟩ := R.tup (show tupOf (M.get n) = some xs by rw [q] <;> rfl)
        exact .inr (.inl ⟨_, _, _, _, rfl, rfl, c, atI_im h, Po.fin R p (k w (mem_atI h))⟩)
      | _ => exact p1.elim
  | str s =>
    obtain ⟨h1, p⟩ := guardO_inv p1
    obtain ⟨w, h, p⟩ := someO_inv p
    exact .inr (.inr ⟨_, _, _, rfl, rfl, cap_le (Nat.le_trans (of_decide_eq_true h1) (by decide)), h, Po.fin R p trivial⟩)
  | _ => exact p1.elim
theorem re_ix (hK : X.K = G.K) (ha : RE X G W a ma) (hb : RE X G W b mb) (hs : PlainIx b := by exact fun _ _ => rfl) : RE X G W (.Subscript a b pos) (mBi oIx ma mb) := re_bi (r := rIx G.K) (pe_ix (by rw [← hK]; exact ix_seq) ha hb hs) cb_ix
/-- xs[lo:hi] of a list -/
def cutM (xs : List MV) (lo hi : Option Int) : List MV := (xs.drop (HT.sIx xs.length 0 lo)).take (HT.sIx xs.length xs.length hi - HT.sIx xs.length 0 lo)
theorem cutM_im {ρ : Nat → Addr} {xs : List MV} {lo hi : Option Int} : cutV (ims G ρ xs) lo hi = ims G ρ (cutM xs lo hi) := by
  unfold cutV cutM ims
  rw [List.length_map, List.map_take, List.map_drop]
theorem okVs_cut {nx : Nat} {xs : List MV} {lo hi : Option Int} (h : okVs nx xs) : okVs nx (cutM xs lo hi) := fun x hx => h x (List.mem_of_mem_drop (List.mem_of_mem_take hx))
def mPart (p : Option MX) (e : Env) (M : MS) (k : Option Int → MS → Out MV) : Out MV := match p with
  | none => k none M
  | some m => (m e M).bind fun v M => asI v fun i => k (some i) M
def mSl (x : MX) (lo hi : Option MX) : MX := fun e M => (x e M).bind fun v M => mPart lo e M fun l M => mPart hi e M fun h M => asL v M fun _ xs => M.new (.lst (cutM xs l h)) fun n M => .ok (.ref n) M
/-- a part of a slice: left out, or an expression -/
inductive RPart (X : Cx) (G : Cfg) (W : WX) : Option Expr → Option MX → Prop where
  | none : RPart X G W none none
  | some {e : Expr} {m : MX} : RE X G W e m → RPart X G W (some e) (some m)
theorem rp_at {ρ : Nat → Addr} {M : MS} {H : Hp} {σ : L2.St} {en : Env} {Q : VK} {lo : Option Expr} {ml : Option MX} (h : RPart X G W lo ml) {k : Option Int → MS → Out MV} : ∃ to, PO X lo to ∧
    ∀ {ρ M H en Q} {R' : Option Int → Hp → Prop}, Rl G ρ M H → REnv G ρ M.nx σ en → PoE G ρ M.nx W σ (mPart ml en M k) Q →
      (∀ ρ1 M1 H1 i, Ex ρ M.nx ρ1 M1.nx → Rl G ρ1 M1 H1 → REnv G ρ1 M1.nx σ en → PoE G ρ1 M1.nx W σ (k i M1) Q → R' i H1) → to σ H R' := by
  cases h with
  | none => exact ⟨_, po_none, fun R E p c => c _ _ _ none Ex.refl R E p⟩
  | some h =>
    refine ⟨_, po_some h, fun R E p c => se_at R E p fun ρ1 M1 H1 v x R1 o1 E1 p1 => ?_⟩
    obtain ⟨i, rfl, p2⟩ := asI_inv p1
    exact ⟨i, rfl, c ρ1 M1 H1 (some i) x R1 E1 p2⟩
end
end PM
end
noncomputable section
namespace PM
open PySem PySem.Spec PyProof.Rows L2
section
variable {X : Cx} {G : Cfg} {W : WX} {pos pos' : Pos} {a b c : Expr} {ma mb mc : MX}
/-! ## slices -/
def oSl (v : MV) (l h : Option Int) (M : MS) : Out MV := match v with
  | .ref n => (match M.get n with
    | some (.lst xs) => M.new (.lst (cutM xs l h)) fun n M => .ok (.ref n) M
    | some (.tup xs) => (if HT.sIx xs.length 0 l = 0 ∧ HT.sIx xs.length xs.length h = xs.length then .ok (.ref n) M else M.new (.tup (cutM xs l h)) fun n M => .ok (.ref n) M)
    | _ => .bad)
  | .str s => guardO (decide (s.length ≤ CAP)) (.ok (.str (cutS s l h)) M)
  | _ => .bad
def mSlice (x : MX) (lo hi : Option MX) : MX := fun e M => (x e M).bind fun v M => mPart lo e M fun l M => mPart hi e M fun h M => oSl v l h M
abbrev rSlAll (K : PySem.W.Frag) : V → Option Int → Option Int → Hp → VK → Prop := fun x lo hi H Q => rSlL K x lo hi H Q ∨ rSlA K x lo hi H Q ∨ rSlS x lo hi H Q
theorem cs_slice {ρ : Nat → Addr} {M : MS} {H : Hp} {σ : L2.St} {v : MV} {l h : Option Int} {Q : VK} (R : Rl G ρ M H) (ov : okV M.nx v) (p : PoE G ρ M.nx W σ (oSl v l h M) Q) : rSlAll G.K (im G ρ v) l h H Q := by
  unfold oSl at p
  cases v with
  | ref n =>
    dsimp only at p
    cases q : M.get n with
    | none => rw [q] at p; exact p.elim
    | some o =>
      rw [q] at p
      cases o with
      | lst xs =>
        obtain ⟨c, k⟩ := R.lst q
        refine .inl ⟨_, _, rfl, SqL.of c, ?_⟩
        rw [cutM_im]
        exact new_lst_ok R p (okVs_cut k)
      | tup xs =>
        obtain ⟨c, k⟩ := R.tup (show tupOf (M.get n) = some xs by rw [q] <;> rfl)
        dsimp only at p
        refine .inr (.inl ⟨_, _, rfl, c, fun z => ?_, fun z => ?_⟩)
        · simp only [ims, List.length_map] at z
          rw [if_pos z] at p
          exact Po.fin R p ov
        · simp only [ims, List.length_map] at z
          rw [if_neg z] at p
          rw [cutM_im]
          exact new_tup_ok R p (okVs_cut k)
      | _ => exact p.elim
  | str s =>
    obtain ⟨h1, p⟩ := guardO_inv p
    exact .inr (.inr ⟨_, rfl, cap_le (Nat.le_trans (of_decide_eq_true h1) (by decide)), Po.fin R p trivial⟩)
  | _ => exact p.elim
theorem re_slice {lo hi : Option Expr} {ml mh : Option MX} {p2 : Pos} (hK : X.K = G.K) (ha : RE X G W a ma) (hl : RPart X G W lo ml) (hh : RPart X G W hi mh) : RE X G W (.Subscript a (.Slice lo hi none p2) pos) (mSlice ma ml mh) := by
  cases hl with
  | none =>
    cases hh with
    | none =>
      refine PE.imp (pe_slice (r := rSlAll G.K) (by rw [← hK]; exact sl_list.or (sl_tupA.or sl_str)) ha po_none po_none) fun σ H Q ⟨_, _, _, R, E, p⟩ => se_at R E p fun ρ M H v x R o E p => ?_
      exact cs_slice R o p
    | some h2 =>
      refine PE.imp (pe_slice (r := rSlAll G.K) (by rw [← hK]; exact sl_list.or (sl_tupA.or sl_str)) ha po_none (po_some h2)) fun σ H Q ⟨_, _, _, R, E, p⟩ => se_at R E p fun ρ M H v x R o E p => se_at R E p fun ρ2 M2 H2 u x2 R2 o2 E2 p2 => ?_
      obtain ⟨j, rfl, p3⟩ := asI_inv p2
      refine ⟨j, rfl, ?_⟩
      rw [← im_ex x2 o]
      exact cs_slice R2 (o.mono x2.1) p3
  | some h1 =>
    cases hh with
    | none =>
      refine PE.imp (pe_slice (r := rSlAll G.K) (by rw [← hK]; exact sl_list.or (sl_tupA.or sl_str)) ha (po_some h1) po_none) fun σ H Q ⟨_, _, _, R, E, p⟩ => se_at R E p fun ρ M H v x R o E p => se_at R E p fun ρ2 M2 H2 u x2 R2 o2 E2 p2 => ?_
      obtain ⟨j, rfl, p3⟩ := asI_inv p2
      refine ⟨j, rfl, ?_⟩
      rw [← im_ex x2 o]
      exact cs_slice R2 (o.mono x2.1) p3
    | some h2 =>
      refine PE.imp (pe_slice (r := rSlAll G.K) (by rw [← hK]; exact sl_list.or (sl_tupA.or sl_str)) ha (po_some h1) (po_some h2)) fun σ H Q ⟨_, _, _, R, E, p⟩ => se_at R E p fun ρ M H v x R o E p => se_at R E p fun ρ2 M2 H2 u x2 R2 o2 E2 p2 => ?_
      obtain ⟨j, rfl, p3⟩ := asI_inv p2
      refine ⟨j, rfl, se_at R2 E2 p3 fun ρ4 M4 H4 u4 x4 R4 o4 E4 p4 => ?_⟩
      obtain ⟨j2, rfl, p5⟩ := asI_inv p4
      refine ⟨j2, rfl, ?_⟩
      rw [← im_ex (x2.trans x4) o]
      exact cs_slice R4 (o.mono (x2.trans x4).1) p5
/-- xs[::-1] -/
def oRev (v : MV) (M : MS) : Out MV := asL v M fun _ xs => M.new (.lst xs.reverse) fun n M => .ok (.ref n) M
theorem re_rev {k p1 p2 p3 : _} (hK : X.K = G.K) (ha : RE X G W a ma) : RE X G W (.Subscript a (.Slice none none (some (.UnaryOp .USub (.Constant (.int 1) k p1) p2)) p3) pos) (mUn oRev ma) :=
  PE.imp (pe_revL ha) fun σ H Q ⟨_, _, _, R, E, p⟩ => se_at R E p fun ρ M H v x R o E p => by
    obtain ⟨n, xs, rfl, q, p⟩ := asL_inv p
    obtain ⟨c, k⟩ := R.lst q
    refine ⟨_, _, rfl, SqL.of c, ?_⟩
    rw [← List.map_reverse]
    exact new_lst_ok R p fun y hy => k y (List.mem_reverse.mp hy)
/-! ## methods of lists -/
def isL (v : MV) (M : MS) (k : Out MV) : Out MV := match v with
  | .ref n => (match M.get n with
    | some (.lst _) => k
    | _ => .bad)
  | _ => .bad
theorem isL_inv {ρ : Nat → Addr} {M : MS} {H : Hp} {σ : L2.St} {Q : VK} {v : MV} {k : Out MV} (R : Rl G ρ M H) (p : PoE G ρ M.nx W σ (isL v M k) Q) : tyV G.K "list" (im G ρ v) H ∧ PoE G ρ M.nx W σ k Q := by
  unfold isL at p
  cases v with
  | ref n =>
    dsimp only at p
    cases q : M.get n with
    | none => rw [q] at p; exact p.elim
    | some o =>
      rw [q] at p
      cases o with
      | lst xs => exact ⟨.inl ⟨rfl, _, SqL.of (R.lst q).1⟩, p⟩
      | _ => exact p.elim
  | _ => exact p.elim
def mLm0 (f : MV → MS → Out MV) (o : MX) : MX := fun e M => (o e M).bind fun v M => isL v M (f v M)
def mLm (f : MV → List MV → MS → Out MV) (o : MX) (as : ML) : MX := fun e M => (o e M).bind fun v M => isL v M ((as e M).bind fun xs M => f v xs M)
/-- a method's reckoning follows its reading -/
def CM (G : Cfg) (W : WX) (r : V → List V → Hp → VK → Prop) (f : MV → List MV → MS → Out MV) : Prop :=
  ∀ ρ M H σ v xs Q, Rl G ρ M H → okV M.nx v → okVs M.nx xs → PoE G ρ M.nx W σ (f v xs M) Q → r (im G ρ v) (ims G ρ xs) H Q
variable {o : Expr} {es : List Expr} {mo : MX} {ml : ML} {name : Str} {apos cpos : Pos} {id : String} {r : V → List V → Hp → VK → Prop}
theorem re_lm0 (hK : X.K = G.K) (slot : Slot "list" name id) (hty : typeOf (.builtin id) = pure (.type "method_descriptor")) (hm : MtR X id r) {f : MV → List MV → MS → Out MV} (c : CM G W r f) (ho : RE X G W o mo)
    (hbase : attributeBase o name X.env (eval o X.env) = eval o X.env := by rfl) (hline : (apos.endLine == cpos.line) = true := by rfl) : RE X G W (.Call (.Attribute o name apos) [] [] cpos) (mLm0 (fun v M => f v [] M) mo) :=
  PE.imp (pe_bm0 PySem.F.plainAttrs_list slot hty hm ho hbase hline) fun σ H Q ⟨_, _, _, R, E, p⟩ => se_at R E p fun ρ M H v x R o E p => by
    obtain ⟨h, p⟩ := isL_inv R p
    exact ⟨by rw [hK]; exact h, c ρ M H σ v [] Q R o (fun _ h => (nomatch h)) p⟩
theorem re_lm {e : Expr} (hK : X.K = G.K) (slot : Slot "list" name id) (hty : typeOf (.builtin id) = pure (.type "method_descriptor")) (hm : MtR X id r) {f : MV → List MV → MS → Out MV} (c : CM G W r f) (ho : RE X G W o mo) (ha : RL X G W (e :: es) ml)
    (hbase : attributeBase o name X.env (eval o X.env) = eval o X.env := by rfl)
    (hfew : ((backTo cpos (starEach (e :: es) X.env)).all (fun x => !x.1) && (backToKw cpos (keywordEach [] X.env)).all (fun x => x.1.isSome)
      && decide ((e :: es).length + ([] : List Keyword).length + (if ([] : List Keyword).isEmpty then 0 else 1) < 30)) = true := by rfl)
    (hline : (apos.endLine == cpos.line) = true := by rfl) (hs : starEach (e :: es) X.env = (false, eval e X.env) :: starEach es X.env := by rfl) (hplain : (backTo cpos (starEach es X.env)).any (·.1) = false := by rfl) :
    RE X G W (.Call (.Attribute o name apos) (e :: es) [] cpos) (mLm f mo ml) :=
  PE.imp (pe_bm PySem.F.plainAttrs_list slot hty hm ho ha hbase hfew hline hs hplain) fun σ H Q ⟨_, _, _, R, E, p⟩ => se_at R E p fun ρ M H v x R o E p => by
    obtain ⟨h, p⟩ := isL_inv R p
    exact ⟨by rw [hK]; exact h, sl_at R E p fun ρ2 M2 H2 xs x2 R2 o2 E2 p2 => by
      rw [← im_ex x2 o]
      exact c ρ2 M2 H2 σ v xs Q R2 (o.mono x2.1) o2 p2⟩
def oApp (v : MV) (xs : List MV) (M : MS) : Out MV := match xs with
  | [y] => asL v M fun n l => guardO (decide (l.length < CAP)) (.ok .non (M.put n (.lst (l ++ [y]))))
  | _ => .bad
theorem cm_append : CM G W rAppend oApp := by
  intro ρ M H σ v xs Q R ov oxs p
  match xs, p with
  | [], p => exact p.elim
  | _ :: _ :: _, p => exact p.elim
  | [y], p =>
    obtain ⟨n, l, rfl, q, p⟩ := asL_inv p
    obtain ⟨h, p⟩ := guardO_inv p
    obtain ⟨c, k⟩ := R.lst q
    refine ⟨_, _, _, rfl, rfl, c, by rw [List.length_map]; exact cap_line (of_decide_eq_true h), ?_⟩
    have R2 := R.setL q (ys := l ++ [y]) (okVs_app k fun z hz => oxs z hz)
    have p2 := Po.fin R2 p trivial
    rw [show ims G ρ (l ++ [y]) = ims G ρ l ++ [im G ρ y] from List.map_append ..] at p2
    exact p2
def oExt (v : MV) (xs : List MV) (M : MS) : Out MV := match xs with
  | [y] => asL v M fun n l => asL y M fun _ l2 => guardO (decide (l.length + l2.length < CAP)) (.ok .non (M.put n (.lst (l ++ l2))))
  | _ => .bad
theorem cm_extend : CM G W rExtend oExt := by
  intro ρ M H σ v xs Q R ov oxs p
  match xs, p with
  | [], p => exact p.elim
  | _ :: _ :: _, p => exact p.elim
  | [y], p =>
    obtain ⟨n, l, rfl, q, p1⟩ := asL_inv p
    obtain ⟨m, l2, rfl, q2, p2⟩ := asL_inv p1
    obtain ⟨h, p3⟩ := guardO_inv p2
    obtain ⟨c, k⟩ := R.lst q
    obtain ⟨c2, k2⟩ := R.lst q2
    have h := of_decide_eq_true h
    refine ⟨_, _, _, _, rfl, rfl, c, c2, by simp only [List.length_map]; exact cap_le (by omega), ?_⟩
    have R2 := R.setL q (ys := l ++ l2) (okVs_app k k2)
    have p4 := Po.fin R2 p3 trivial
    rw [show ims G ρ (l ++ l2) = ims G ρ l ++ ims G ρ l2 from List.map_append ..] at p4
    exact p4
def oPop (v : MV) (xs : List MV) (M : MS) : Out MV := match xs with
  | [] => asL v M fun n l => someO l.getLast? fun y => .ok y (M.put n (.lst l.dropLast))
  | _ => .bad
theorem cm_pop : CM G W rPop oPop := by
  intro ρ M H σ v xs Q R ov oxs p
  match xs, p with
  | _ :: _, p => exact p.elim
  | [], p =>
    obtain ⟨n, l, rfl, q, p1⟩ := asL_inv p
    obtain ⟨y, h, p2⟩ := someO_inv p1
    obtain ⟨c, k⟩ := R.lst q
    rw [List.getLast?_eq_getElem?] at h
    refine ⟨_, _, im G ρ y, rfl, rfl, c, ?_, ?_⟩
    · rw [List.length_map, List.getElem?_map, h]
      rfl
    · have R2 := R.setL q (ys := l.dropLast) fun z hz => k z (List.dropLast_subset _ hz)
      have p3 := Po.fin R2 p2 (k y (List.mem_of_getElem? h))
      rw [show ims G ρ l.dropLast = (ims G ρ l).dropLast from List.map_dropLast ..] at p3
      exact p3
end
def one1 {α : Type} (xs : List MV) (k : MV → Out α) : Out α := match xs with
  | [y] => k y
  | _ => .bad
def two2 {α : Type} (xs : List MV) (k : MV → MV → Out α) : Out α := match xs with
  | [x, y] => k x y
  | _ => .bad
section
variable {α β : Type} {ok : Nat → α → Prop} {img : (Nat → Addr) → α → β} {G : Cfg} {W : WX} {ρ : Nat → Addr} {nx : Nat} {σ : L2.St} {Q : β → Hp → Prop} {xs : List MV}
theorem one_inv {k : MV → Out α} (p : Po G ρ nx W ok img σ (one1 xs k) Q) : ∃ y, xs = [y] ∧ Po G ρ nx W ok img σ (k y) Q := by
  unfold one1 at p
  split at p
  · exact ⟨_, rfl, p⟩
  · exact p.elim
theorem two_inv {k : MV → MV → Out α} (p : Po G ρ nx W ok img σ (two2 xs k) Q) : ∃ x y, xs = [x, y] ∧ Po G ρ nx W ok img σ (k x y) Q := by
  unfold two2 at p
  split at p
  · exact ⟨_, _, rfl, p⟩
  · exact p.elim
end
section
variable {X : Cx} {G : Cfg} {W : WX}
/-- xs.pop(i) -/
def oPopAt (v : MV) (xs : List MV) (M : MS) : Out MV := one1 xs fun y => asI y fun i => asL v M fun n l => guardO (decide (0 ≤ i) && decide (i < 1000000)) (someO (l[i.toNat]?) fun y => .ok y (M.put n (.lst (l.eraseIdx i.toNat))))
theorem seqIx {i : Int} {n : Nat} (h : 0 ≤ i) (h2 : i.toNat < n) : seqIndex? i n = some i.toNat := by
  have := ixN_seq (n := n) (i := i) (j := i.toNat) (by unfold ixN; rw [if_pos h, if_pos (by omega)])
  exact this.1
theorem cm_popAt : CM G W rPopAt oPopAt := by
  intro ρ M H σ v xs Q R ov oxs p
  obtain ⟨y0, rfl, p1⟩ := one_inv p
  obtain ⟨i, rfl, p2⟩ := asI_inv p1
  obtain ⟨n, l, rfl, q, p3⟩ := asL_inv p2
  obtain ⟨h, p4⟩ := guardO_inv p3
  obtain ⟨h1, h2⟩ := Bool.and_eq_true_iff.mp h
  have h1 := of_decide_eq_true h1
  have h2 := of_decide_eq_true h2
  obtain ⟨y, h3, p5⟩ := someO_inv p4
  obtain ⟨c, k⟩ := R.lst q
  have hl : i.toNat < l.length := (List.getElem?_eq_some_iff.mp h3).1
  refine ⟨_, _, i, i.toNat, im G ρ y, rfl, rfl, c, by omega, by omega, by rw [List.length_map]; exact seqIx h1 hl, by rw [List.getElem?_map, h3]; rfl, ?_⟩
  have R2 := R.setL q (ys := l.eraseIdx i.toNat) fun z hz => k z (List.mem_of_mem_eraseIdx hz)
  have p6 := Po.fin R2 p5 (k y (List.mem_of_getElem? h3))
  rw [show ims G ρ (l.eraseIdx i.toNat) = (ims G ρ l).eraseIdx i.toNat from (DT.map_erase ..)] at p6
  exact p6
/-- xs.insert(i, y) -/
def oIns (v : MV) (xs : List MV) (M : MS) : Out MV := two2 xs fun z y => asI z fun i => asL v M fun n l => guardO (decide (l.length < CAP) && (decide (0 ≤ i) && decide (i < 1000000))) (.ok .non (M.put n (.lst (l.take i.toNat ++ [y] ++ l.drop i.toNat))))
theorem cm_insert : CM G W (fun x vs H Q => ∃ (l : Addr) (xs : List V) (i : Int) (y : V), x = .ref l ∧ vs = [.int i, y] ∧ H l = some (.lst xs) ∧ xs.length < sizeLine ∧ 0 ≤ i ∧ i < 2 ^ 63 ∧ Q .non (upd H l (.lst (xs.take i.toNat ++ [y] ++ xs.drop i.toNat)))) oIns := by
  intro ρ M H σ v xs Q R ov oxs p
  obtain ⟨z, y, rfl, p1⟩ := two_inv p
  obtain ⟨i, rfl, p2⟩ := asI_inv p1
  obtain ⟨n, l, rfl, q, p3⟩ := asL_inv p2
  obtain ⟨h, p4⟩ := guardO_inv p3
  obtain ⟨h0, h⟩ := Bool.and_eq_true_iff.mp h
  obtain ⟨h1, h2⟩ := Bool.and_eq_true_iff.mp h
  have h0 := of_decide_eq_true h0
  have h1 := of_decide_eq_true h1
  have h2 := of_decide_eq_true h2
  obtain ⟨c, k⟩ := R.lst q
  refine ⟨_, _, i, im G ρ y, rfl, rfl, c, by rw [List.length_map]; exact cap_line h0, h1, by omega, ?_⟩
  have R2 := R.setL q (ys := l.take i.toNat ++ [y] ++ l.drop i.toNat) (okVs_app (okVs_app (fun z hz => k z (List.mem_of_mem_take hz)) fun z hz => by
    rw [List.mem_singleton.mp hz]
    exact oxs y (by simp)) fun z hz => k z (List.mem_of_mem_drop hz))
  have p6 := Po.fin R2 p4 trivial
  have e : ims G ρ (l.take i.toNat ++ [y] ++ l.drop i.toNat) = (ims G ρ l).take i.toNat ++ [im G ρ y] ++ (ims G ρ l).drop i.toNat := by simp [ims]
  rw [e] at p6
  exact p6
def allInt : List MV → Option (List Int)
  | [] => some []
  | x :: r => match x with
    | .int i => (allInt r).map (i :: ·)
    | _ => none
theorem allInt_im {ρ : Nat → Addr} : ∀ {l : List MV} {ns : List Int}, allInt l = some ns → l = ns.map MV.int ∧ ims G ρ l = ns.map V.int
  | [], ns, h => by cases h; exact ⟨rfl, rfl⟩
  | x :: r, ns, h => by
    cases x with
    | int i =>
      have h2 : (allInt r).map (i :: ·) = some ns := h
      obtain ⟨ms, e1, e2⟩ := Option.map_eq_some_iff.mp h2
      obtain ⟨a1, a2⟩ := allInt_im (ρ := ρ) e1
      subst e2
      refine ⟨by rw [a1]; rfl, ?_⟩
      show V.int i :: ims G ρ r = _
      rw [a2]
      rfl
    | _ => cases h
/-- the first place of a number -/
def ixOf (k : Int) : List Int → Option Nat
  | [] => none
  | i :: r => if i = k then some 0 else (ixOf k r).map (· + 1)
theorem ixOf_ok {k : Int} : ∀ {l : List Int} {j : Nat}, ixOf k l = some j → l[j]? = some k ∧ ∀ m : Nat, m < j → l[m]? ≠ some k
  | [], j, h => by cases h
  | i :: r, j, h => by
    have h2 : (if i = k then some 0 else (ixOf k r).map (· + 1)) = some j := h
    by_cases z : i = k
    · rw [if_pos z] at h2
      cases h2
      exact ⟨by rw [z]; rfl, fun m hm => absurd hm (Nat.not_lt_zero _)⟩
    · rw [if_neg z] at h2
      obtain ⟨j', e1, e2⟩ := Option.map_eq_some_iff.mp h2
      subst e2
      obtain ⟨a1, a2⟩ := ixOf_ok e1
      refine ⟨a1, fun m hm => ?_⟩
      cases m with
      | zero => exact fun q => z (Option.some.inj q)
      | succ m => exact a2 m (by omega)
def oRem (v : MV) (xs : List MV) (M : MS) : Out MV := one1 xs fun y => asI y fun k => asL v M fun n l => someO (allInt l) fun ns => someO (ixOf k ns) fun j => .ok .non (M.put n (.lst ((ns.eraseIdx j).map MV.int)))
theorem cm_remove : CM G W rRemI oRem := by
  intro ρ M H σ v xs Q R ov oxs p
  obtain ⟨y0, rfl, p1⟩ := one_inv p
  obtain ⟨i, rfl, p2⟩ := asI_inv p1
  obtain ⟨n, l, rfl, q, p3⟩ := asL_inv p2
  obtain ⟨ns, h1, p4⟩ := someO_inv p3
  obtain ⟨j, h2, p5⟩ := someO_inv p4
  obtain ⟨c, k⟩ := R.lst q
  obtain ⟨e1, e2⟩ := allInt_im (G := G) (ρ := ρ) h1
  obtain ⟨a1, a2⟩ := ixOf_ok h2
  refine ⟨_, ns, i, j, rfl, rfl, by rw [← e2]; exact c, a1, a2, ?_⟩
  have R2 := R.setL q (ys := (ns.eraseIdx j).map MV.int) fun z hz => by
    obtain ⟨w, _, e⟩ := List.mem_map.mp hz
    rw [← e]
    trivial
  have p6 := Po.fin R2 p5 trivial
  rw [show ims G ρ ((ns.eraseIdx j).map MV.int) = (ns.eraseIdx j).map V.int by simp [ims, im]] at p6
  exact p6
/-! ## built-ins -/
theorem re_callB {id : String} {r : List V → Hp → VK → Prop} {f : List MV → MS → Out MV} {x : Str} {p pos : Pos} {e : Expr} {es : List Expr} {ml : ML} (hc : CallR X (.builtin id) r) (c : CN G W r f) (hg : Gl X x) (hm : X.mg x = none) (hv : bootBuiltins x = some (.builtin id)) (ha : RL X G W (e :: es) ml)
    (hn : x ≠ "__name__" := by decide) (hdb : (x == ("__debug__" : Str)) = false := by decide)
    (he : starEach (e :: es) X.env = (false, eval e X.env) :: starEach es X.env := by rfl) (hpl : (backTo pos (starEach es X.env)).any (·.1) = false := by rfl) : RE X G W (.Call (.Name x p) (e :: es) [] pos) (mFn f ml) :=
  re_fn (r := r) (pe_callB hc hg hm hv ha hn hdb he hpl) c
theorem re_callTy {id : String} {r : List V → Hp → VK → Prop} {f : List MV → MS → Out MV} {x : Str} {p pos : Pos} {e : Expr} {es : List Expr} {ml : ML} (hc : CallR X (.type id) r) (c : CN G W r f) (hg : Gl X x) (hm : X.mg x = none) (hv : bootBuiltins x = some (.type id)) (ha : RL X G W (e :: es) ml)
    (hn : x ≠ "__name__" := by decide) (hdb : (x == ("__debug__" : Str)) = false := by decide)
    (he : starEach (e :: es) X.env = (false, eval e X.env) :: starEach es X.env := by rfl) (hpl : (backTo pos (starEach es X.env)).any (·.1) = false := by rfl) : RE X G W (.Call (.Name x p) (e :: es) [] pos) (mFn f ml) :=
  re_fn (r := r) (pe_callTy hc hg hm hv ha hn hdb he hpl) c
def oLen (xs : List MV) (M : MS) : Out MV := one1 xs fun v => match v with
  | .ref n => (match M.get n with
    | some (.lst l) => .ok (.int l.length) M
    | some (.tup l) => .ok (.int l.length) M
    | some (.ktup l) => .ok (.int l.length) M
    | _ => .bad)
  | .str s => guardO (decide (s.length ≤ CAP)) (.ok (.int s.length) M)
  | _ => .bad
theorem cn_len : CN G W (fun xs H Q => ∃ x n, xs = [x] ∧ LenV G.K x H n ∧ Q (.int n) H) oLen := by
  intro ρ M H σ vs Q R ov p
  obtain ⟨v, rfl, p1⟩ := one_inv p
  cases v with
  | ref n =>
    dsimp only at p1
    cases q : M.get n with
    | none => rw [q] at p1; exact p1.elim
    | some o =>
      rw [q] at p1
      cases o with
      | lst l => exact ⟨_, _, rfl, .inl ⟨_, SqL.of (R.lst q).1, by rw [List.length_map]⟩, Po.fin R p1 trivial⟩
      | tup l => exact ⟨_, _, rfl, .inr ⟨_, (R.tup (show tupOf (M.get n) = some l by rw [q] <;> rfl)).1, by rw [List.length_map]⟩, Po.fin R p1 trivial⟩
      | ktup l => exact ⟨_, _, rfl, .inr ⟨_, (R.tup (show tupOf (M.get n) = some l by rw [q] <;> rfl)).1, by rw [List.length_map]⟩, Po.fin R p1 trivial⟩
      | _ => exact p1.elim
  | str s =>
    obtain ⟨h1, p2⟩ := guardO_inv p1
    exact ⟨_, _, rfl, ⟨cap_le (Nat.le_trans (of_decide_eq_true h1) (by decide)), rfl⟩, Po.fin R p2 trivial⟩
  | _ => exact p1.elim
def oMax (xs : List MV) (M : MS) : Out MV := two2 xs fun x y => asI x fun i => asI y fun j => .ok (.int (if j > i then j else i)) M
def oMin (xs : List MV) (M : MS) : Out MV := two2 xs fun x y => asI x fun i => asI y fun j => .ok (.int (if j < i then j else i)) M
theorem cn_max : CN G W (fun xs H Q => ∃ i j, xs = [.int i, .int j] ∧ Q (.int (if j > i then j else i)) H) oMax := by
  intro ρ M H σ vs Q R ov p
  obtain ⟨x, y, rfl, p1⟩ := two_inv p
  obtain ⟨i, rfl, p2⟩ := asI_inv p1
  obtain ⟨j, rfl, p3⟩ := asI_inv p2
  exact ⟨i, j, rfl, Po.fin R p3 trivial⟩
theorem cn_min : CN G W (fun xs H Q => ∃ i j, xs = [.int i, .int j] ∧ Q (.int (if j < i then j else i)) H) oMin := by
  intro ρ M H σ vs Q R ov p
  obtain ⟨x, y, rfl, p1⟩ := two_inv p
  obtain ⟨i, rfl, p2⟩ := asI_inv p1
  obtain ⟨j, rfl, p3⟩ := asI_inv p2
  exact ⟨i, j, rfl, Po.fin R p3 trivial⟩
/-- int(a truth | a number) -/
def oInt1 (xs : List MV) (M : MS) : Out MV := one1 xs fun x => match x with
  | .int i => .ok (.int i) M
  | .bl k => .ok (.int (if k then 1 else 0)) M
  | _ => .bad
theorem cn_int1 : CN G W (fun xs H Q => (∃ i, xs = [.int i] ∧ Q (.int i) H) ∨ ∃ k, xs = [.bl k] ∧ Q (.int (if k then 1 else 0)) H) oInt1 := by
  intro ρ M H σ vs Q R ov p
  obtain ⟨x, rfl, p1⟩ := one_inv p
  cases x with
  | int i => exact .inl ⟨i, rfl, Po.fin R p1 trivial⟩
  | bl k => exact .inr ⟨k, rfl, Po.fin R p1 trivial⟩
  | _ => exact p1.elim
/-- list(a list | a tuple | a dict of ints and texts) -/
def unK : MKey → MV
  | .int i => .int i
  | .str s => .str s
  | .sym f i => .sym f i
theorem unK_im {ρ : Nat → Addr} (k : MKey) : im G ρ (unK k) = kV (imK G k) := by cases k <;> rfl
def oList (xs : List MV) (M : MS) : Out MV := one1 xs fun v => asR v fun n => match M.get n with
  | some (.lst l) => M.new (.lst l) fun n M => .ok (.ref n) M
  | some (.tup l) => M.new (.lst l) fun n M => .ok (.ref n) M
  | some (.ktup l) => M.new (.lst l) fun n M => .ok (.ref n) M
  | some (.dk kvs) => M.new (.lst (kvs.map fun p => unK p.1)) fun n M => .ok (.ref n) M
  | _ => .bad
abbrev rListAll (K : PySem.W.Frag) : List V → Hp → VK → Prop := fun xs H Q => (∃ p ys, xs = [.ref p] ∧ (SqL K H p ys ∨ SqT K H p ys) ∧ ∀ l, H l = none → Q (.ref l) (upd H l (.lst ys))) ∨
  (∃ (a : Addr) (kvs : List (Key × V)), xs = [.ref a] ∧ Rd H a (.dK kvs) ∧ ∀ p, H p = none → Q (.ref p) (upd H p (.lst (kvs.map fun kv => kV kv.1))))
theorem CallR.or {f : Value} {r r' : List V → Hp → VK → Prop} (h : CallR X f r) (h' : CallR X f r') : CallR X f (fun xs H Q => r xs H Q ∨ r' xs H Q) := by
  intro pins s σ H xs us Q I rx q
  rcases q with q | q
  · exact h pins s σ H xs us Q I rx q
  · exact h' pins s σ H xs us Q I rx q
theorem cn_list : CN G W (rListAll G.K) oList := by
  intro ρ M H σ vs Q R ov p
  obtain ⟨v, rfl, p1⟩ := one_inv p
  obtain ⟨n, rfl, p2⟩ := asR_inv p1
  cases q : M.get n with
  | none => rw [q] at p2; exact p2.elim
  | some o =>
    rw [q] at p2
    cases o with
    | lst l => exact .inl ⟨_, _, rfl, .inl (SqL.of (R.lst q).1), new_lst_ok R p2 (R.lst q).2⟩
    | tup l =>
      obtain ⟨c, k⟩ := R.tup (show tupOf (M.get n) = some l by rw [q] <;> rfl)
      exact .inl ⟨_, _, rfl, .inr c, new_lst_ok R p2 k⟩
    | ktup l =>
      obtain ⟨c, k⟩ := R.tup (show tupOf (M.get n) = some l by rw [q] <;> rfl)
      exact .inl ⟨_, _, rfl, .inr c, new_lst_ok R p2 k⟩
    | dk kvs =>
      have h := new_lst_ok R p2 (fun x hx => by
        obtain ⟨pp, _, e⟩ := List.mem_map.mp hx
        rw [← e]
        cases pp.1 <;> trivial)
      refine .inr ⟨_, imD G ρ kvs, rfl, .inl (R.o n _ q).2.2, fun a ha => ?_⟩
      have h2 := h a ha
      rw [show ims G ρ (kvs.map fun p => unK p.1) = (imD G ρ kvs).map fun kv => kV kv.1 by
        simp only [ims, imD, List.map_map]
        exact List.map_congr_left fun p _ => unK_im p.1] at h2
      exact h2
    | _ => exact p2.elim
/-- any, all of a list of truths -/
def allB : List MV → Option (List Bool)
  | [] => some []
  | x :: r => match x with
    | .bl i => (allB r).map (i :: ·)
    | _ => none
theorem allB_im {ρ : Nat → Addr} : ∀ {l : List MV} {ns : List Bool}, allB l = some ns → ims G ρ l = ns.map V.bl
  | [], ns, h => by cases h; rfl
  | x :: r, ns, h => by
    cases x with
    | bl i =>
      have h2 : (allB r).map (i :: ·) = some ns := h
      obtain ⟨ms, e1, e2⟩ := Option.map_eq_some_iff.mp h2
      subst e2
      show V.bl i :: ims G ρ r = _
      rw [allB_im e1]
      rfl
    | _ => cases h
def oAny (xs : List MV) (M : MS) : Out MV := one1 xs fun v => asL v M fun _ l => someO (allB l) fun bs => .ok (.bl (bs.any id)) M
def oAll (xs : List MV) (M : MS) : Out MV := one1 xs fun v => asL v M fun _ l => someO (allB l) fun bs => .ok (.bl (bs.all id)) M
theorem cn_any : CN G W (rAny G.K) oAny := by
  intro ρ M H σ vs Q R ov p
  obtain ⟨v, rfl, p1⟩ := one_inv p
  obtain ⟨n, l, rfl, q, p2⟩ := asL_inv p1
  obtain ⟨bs, h, p3⟩ := someO_inv p2
  have c := (R.lst q).1
  rw [allB_im h] at c
  exact ⟨_, bs, rfl, SqL.of c, Po.fin R p3 trivial⟩
theorem cn_all : CN G W (rAll G.K) oAll := by
  intro ρ M H σ vs Q R ov p
  obtain ⟨v, rfl, p1⟩ := one_inv p
  obtain ⟨n, l, rfl, q, p2⟩ := asL_inv p1
  obtain ⟨bs, h, p3⟩ := someO_inv p2
  have c := (R.lst q).1
  rw [allB_im h] at c
  exact ⟨_, bs, rfl, SqL.of c, Po.fin R p3 trivial⟩
end
end PM
end
noncomputable section
namespace PM
open PySem PySem.Spec PyProof.Rows L2
/-! ## displays -/
section
variable {X : Cx} {G : Cfg} {W : WX} {pos pos' : Pos} {a b c : Expr} {ma mb mc : MX} {es : List Expr} {ml : ML}
def oTupN (xs : List MV) (M : MS) : Out MV := guardO (decide (xs.length ≤ CAP)) (M.new (.tup xs) fun n M => .ok (.ref n) M)
def oLstN (xs : List MV) (M : MS) : Out MV := guardO (decide (xs.length ≤ CAP)) (M.new (.lst xs) fun n M => .ok (.ref n) M)
theorem re_tup {x1} (h : RL X G W es ml) : RE X G W (.Tuple es x1 pos) (mFn oTupN ml) :=
  PE.imp (pe_tup h) fun σ H Q ⟨_, _, _, R, E, p⟩ => sl_at R E p fun ρ M H xs _ R o _ p => by
    obtain ⟨h1, p⟩ := guardO_inv p
    exact ⟨by rw [List.length_map]; exact cap_le (Nat.le_trans (of_decide_eq_true h1) (by decide)), new_tup_ok R p o⟩
theorem re_lst (h : RL X G W es ml) : RE X G W (.List es pos) (mFn oLstN ml) :=
  PE.imp (pe_lst h) fun σ H Q ⟨_, _, _, R, E, p⟩ => sl_at R E p fun ρ M H xs _ R o _ p => by
    obtain ⟨h1, p⟩ := guardO_inv p
    exact ⟨by rw [List.length_map]; exact cap_le (Nat.le_trans (of_decide_eq_true h1) (by decide)), new_lst_ok R p o⟩
def mDK : MX := fun _ M => M.new (.dk []) fun n M => .ok (.ref n) M
def mDT : MX := fun _ M => M.new (.dt []) fun n M => .ok (.ref n) M
theorem re_dk : RE X G W (.Dict [] [] pos) mDK := PE.imp pe_dnewK fun σ H Q ⟨_, _, _, R, E, p⟩ => fun d hd => new_dk_ok R p (fun _ h => (nomatch h)) d hd
theorem re_dt : RE X G W (.Dict [] [] pos) mDT := PE.imp pe_dnewT fun σ H Q ⟨_, _, _, R, E, p⟩ => fun d hd => new_dt_ok R p (fun _ h => (nomatch h)) d hd
/-! ## tests -/
def toT (m : MX) : MT := fun e M => (m e M).bind fun v M => asB v fun b => .ok b M
theorem tt_at {σ : L2.St} {H : Hp} {Q : Bool → Hp → Prop} {m : MX} (h : ST G W (toT m) σ H Q) : SE G W m σ H fun x H' => ∃ k, x = .bl k ∧ Q k H' := by
  obtain ⟨ρ, M, e, R, E, p⟩ := h
  refine se_at R E p fun ρ1 M1 H1 v x R1 o1 E1 p1 => ?_
  obtain ⟨k, rfl, p2⟩ := asB_inv p1
  exact ⟨k, rfl, p2 ρ1 H1 Ex.refl R1 trivial⟩
theorem rt_val {e : Expr} {m : MX} (h : RE X G W e m) (he : ∀ whole, isTrue e X.env whole = (do let v ← whole; standAt e.pos; holding [v] (truthy v)) := by intro _; rfl) : RT X G W e (toT m) :=
  PT.imp (pt_val h he) fun σ H Q h => tt_at h
/-- a comparison by its rule, as a value, as a test -/
theorem re_cmp {op : CmpOp} {r : R2} {f : MV → MV → MS → Out MV} (ho : OpR X (compareOp op) r) (c : CB G W r f) (ha : RE X G W a ma) (hb : RE X G W b mb) (hm : behindInMarks op b = false) : RE X G W (.Compare a [op] [b] pos) (mBi f ma mb) :=
  re_bi (pe_cmpR ho ha hb hm) c
theorem rt_cmp {op : CmpOp} {r : R2} {f : MV → MV → MS → Out MV} (ho : OpR X (compareOp op) r) (c : CB G W r f) (ha : RE X G W a ma) (hb : RE X G W b mb) (hm : behindInMarks op b = false) : RT X G W (.Compare a [op] [b] pos) (toT (mBi f ma mb)) :=
  PT.imp (pt_cmpR ho ha hb hm) fun σ H Q h => by
    obtain ⟨ρ, M, e, R, E, p⟩ := tt_at h
    exact se_at R E p fun ρ M H v _ R o E p => se_at R E p fun ρ2 M2 H2 u x R2 o2 E2 p2 => by
      rw [← im_ex x o]
      exact c ρ2 M2 H2 σ v u _ R2 (o.mono x.1) o2 p2
theorem re_din (hu : X.A.units + 1 < cLine) (ha : RE X G W a ma) (hb : RE X G W b mb) (h1 : behindInMarks .In b = false := by rfl) : RE X G W (.Compare a [.In] [b] pos) (mBi (oDIn false) ma mb) := pe_cmp (rc_din hu ha hb) h1
theorem re_dnotin (hu : X.A.units + 1 < cLine) (ha : RE X G W a ma) (hb : RE X G W b mb) (h1 : behindInMarks .NotIn b = false := by rfl) : RE X G W (.Compare a [.NotIn] [b] pos) (mBi (oDIn true) ma mb) := pe_cmp (rc_dnotin hu ha hb) h1
theorem rt_din (hu : X.A.units + 1 < cLine) (ha : RE X G W a ma) (hb : RE X G W b mb) (h1 : behindInMarks .In b = false := by rfl) : RT X G W (.Compare a [.In] [b] pos) (toT (mBi (oDIn false) ma mb)) :=
  PT.imp (pt_cmp (rc_din hu ha hb) h1) fun σ H Q h => tt_at h
theorem rt_dnotin (hu : X.A.units + 1 < cLine) (ha : RE X G W a ma) (hb : RE X G W b mb) (h1 : behindInMarks .NotIn b = false := by rfl) : RT X G W (.Compare a [.NotIn] [b] pos) (toT (mBi (oDIn true) ma mb)) :=
  PT.imp (pt_cmp (rc_dnotin hu ha hb) h1) fun σ H Q h => tt_at h
/-- a < b < c -/
def mChain (f g : MV → MV → MS → Out MV) (a b c : MX) : MX := fun e M => (a e M).bind fun x M => (b e M).bind fun y M => (f x y M).bind fun z M => asB z fun k => match k with
  | true => (c e M).bind fun w M => g y w M
  | false => .ok (.bl false) M
theorem chain_at {r r' : R2} {f g : MV → MV → MS → Out MV} (cf : CB G W r f) (cg : CB G W r' g) {σ : L2.St} {H : Hp} {Q : VK} (h : SE G W (mChain f g ma mb mc) σ H Q) : tChain r r' (SE G W ma) (SE G W mb) (SE G W mc) σ H Q := by
  obtain ⟨ρ, M, e, R, E, p⟩ := h
  refine se_at R E p fun ρ M H x _ R o E p => se_at R E p fun ρ2 M2 H2 y x2 R2 o2 E2 p2 => ?_
  rw [← im_ex x2 o]
  have oy2 := o2
  refine cf ρ2 M2 H2 σ x y _ R2 (o.mono x2.1) o2 ?_
  cases q : f x y M2 with
  | ok z M3 =>
    rw [q] at p2
    intro ρ3 H3 x3 R3 o3
    have p3 := Po.mono x3 p2
    obtain ⟨k, rfl, p4⟩ := asB_inv p3
    refine ⟨k, rfl, ?_⟩
    cases k with
    | false => exact Po.fin R3 p4 trivial
    | true =>
      rw [if_pos rfl]
      refine se_at R3 (E2.mono x3) p4 fun ρ4 M4 H4 w x4 R4 o4 E4 p5 => ?_
      rw [← im_ex (x3.trans x4) oy2]
      exact cg ρ4 M4 H4 σ y w Q R4 (oy2.mono (x3.trans x4).1) o4 p5
  | ex z M3 => rw [q] at p2; exact p2
  | bad => rw [q] at p2; exact p2.elim
theorem re_chain {op op' : CmpOp} {r r' : R2} {f g : MV → MV → MS → Out MV} (ho : OpR X (compareOp op) r) (ho' : OpR X (compareOp op') r') (cf : CB G W r f) (cg : CB G W r' g) (ha : RE X G W a ma) (hb : RE X G W b mb) (hc : RE X G W c mc)
    (hm : lastMarks [op, op'] [b, c] = false := by with_unfolding_all rfl) : RE X G W (.Compare a [op, op'] [b, c] pos) (mChain f g ma mb mc) := PE.imp (pe_chain ho ho' ha hb hc hm) fun σ H Q h => chain_at cf cg h
theorem rt_chain {op op' : CmpOp} {r r' : R2} {f g : MV → MV → MS → Out MV} (ho : OpR X (compareOp op) r) (ho' : OpR X (compareOp op') r') (cf : CB G W r f) (cg : CB G W r' g) (ha : RE X G W a ma) (hb : RE X G W b mb) (hc : RE X G W c mc)
    (hm : lastMarks [op, op'] [b, c] = false := by with_unfolding_all rfl) : RT X G W (.Compare a [op, op'] [b, c] pos) (toT (mChain f g ma mb mc)) := PT.imp (pt_chain ho ho' ha hb hc hm) fun σ H Q h => chain_at cf cg (tt_at h)
/-! ### and, or, not -/
def mAndT (a b : MT) : MT := fun e M => (a e M).bind fun k M => match k with
  | true => b e M
  | false => .ok false M
def mOrT (a b : MT) : MT := fun e M => (a e M).bind fun k M => match k with
  | true => .ok true M
  | false => b e M
def mNotT (a : MT) : MT := fun e M => (a e M).bind fun k M => .ok (!k) M
variable {ta tb : MT} {rest : List Expr}
theorem rw_and1 (ha : RT X G W a ta) : RTw X G W (.BoolOp .And [a] pos) ta := pw_and1 ha
theorem rw_or1 (ha : RT X G W a ta) : RTw X G W (.BoolOp .Or [a] pos) ta := pw_or1 ha
theorem rw_and (ha : RT X G W a ta) (hb : RTw X G W (.BoolOp .And (b :: rest) pos) tb) : RTw X G W (.BoolOp .And (a :: b :: rest) pos) (mAndT ta tb) :=
  PW.imp (pw_and ha hb) fun σ H Q ⟨_, _, _, R, E, p⟩ => st_at R E p fun ρ M H k _ R E p => by
    cases k with
    | true => exact ⟨ρ, M, _, R, E, p⟩
    | false => exact p ρ H Ex.refl R trivial
theorem rw_or (ha : RT X G W a ta) (hb : RTw X G W (.BoolOp .Or (b :: rest) pos) tb) : RTw X G W (.BoolOp .Or (a :: b :: rest) pos) (mOrT ta tb) :=
  PW.imp (pw_or ha hb) fun σ H Q ⟨_, _, _, R, E, p⟩ => st_at R E p fun ρ M H k _ R E p => by
    cases k with
    | true => exact p ρ H Ex.refl R trivial
    | false => exact ⟨ρ, M, _, R, E, p⟩
theorem rt_not (ha : RT X G W a ta) : RT X G W (.UnaryOp .Not a pos) (mNotT ta) :=
  PT.imp (pt_not ha) fun σ H Q ⟨_, _, _, R, E, p⟩ => st_at R E p fun ρ M H k _ R E p => p ρ H Ex.refl R trivial
/-- .. as values -/
def mAndV (a b : MX) : MX := fun e M => (a e M).bind fun v M => asB v fun k => match k with
  | true => b e M
  | false => .ok (.bl false) M
def mOrV (a b : MX) : MX := fun e M => (a e M).bind fun v M => asB v fun k => match k with
  | true => .ok (.bl true) M
  | false => b e M
def mNotV (a : MX) : MX := fun e M => (a e M).bind fun v M => asB v fun k => .ok (.bl (!k)) M
theorem re_one {op} {m : MX} (h : RE X G W a m) : RE X G W (.BoolOp op [a] pos) m := pe_one h
theorem re_and (ha : RE X G W a ma) (hb : RE X G W (.BoolOp .And (b :: rest) pos) mb) : RE X G W (.BoolOp .And (a :: b :: rest) pos) (mAndV ma mb) :=
  PE.imp (pe_and ha hb) fun σ H Q ⟨_, _, _, R, E, p⟩ => se_at R E p fun ρ M H v _ R o E p => by
    obtain ⟨k, rfl, p2⟩ := asB_inv p
    refine ⟨k, rfl, ?_⟩
    cases k with
    | true => exact ⟨ρ, M, _, R, E, p2⟩
    | false => exact Po.fin R p2 trivial
theorem re_or (ha : RE X G W a ma) (hb : RE X G W (.BoolOp .Or (b :: rest) pos) mb) : RE X G W (.BoolOp .Or (a :: b :: rest) pos) (mOrV ma mb) :=
  PE.imp (pe_or ha hb) fun σ H Q ⟨_, _, _, R, E, p⟩ => se_at R E p fun ρ M H v _ R o E p => by
    obtain ⟨k, rfl, p2⟩ := asB_inv p
    refine ⟨k, rfl, ?_⟩
    cases k with
    | true => exact Po.fin R p2 trivial
    | false => exact ⟨ρ, M, _, R, E, p2⟩
theorem re_not (ha : RE X G W a ma) : RE X G W (.UnaryOp .Not a pos) (mNotV ma) :=
  PE.imp (pe_not ha) fun σ H Q ⟨_, _, _, R, E, p⟩ => se_at R E p fun ρ M H v _ R o E p => by
    obtain ⟨k, rfl, p2⟩ := asB_inv p
    exact ⟨k, rfl, Po.fin R p2 trivial⟩
def mIfE (t : MT) (a b : MX) : MX := fun e M => (t e M).bind fun k M => match k with
  | true => a e M
  | false => b e M
theorem re_ifExp (hc : RT X G W c ta) (ha : RE X G W a ma) (hb : RE X G W b mb) : RE X G W (.IfExp c a b pos) (mIfE ta ma mb) :=
  PE.imp (pe_ifExp hc ha hb) fun σ H Q ⟨_, _, _, R, E, p⟩ => st_at R E p fun ρ M H k _ R E p => by
    cases k with
    | true => exact ⟨ρ, M, _, R, E, p⟩
    | false => exact ⟨ρ, M, _, R, E, p⟩
/-! ## statements -/
def mNx : MSt := fun e M => .nx e M
def mSeq (a b : MSt) : MSt := fun e M => match a e M with
  | .nx e M => b e M
  | .rt v M => .rt v M
  | .bk e M => .bk e M
  | .ct e M => .ct e M
  | .ex x e M => .ex x e M
  | .bad => .bad
def mExpr (a : MX) : MSt := fun e M => bindS (a e M) e fun _ M => .nx e M
def mRet (a : MX) : MSt := fun e M => bindS (a e M) e fun v M => .rt v M
def mRetN : MSt := fun _ M => .rt .non M
def mIf (t : MT) (a b : MSt) : MSt := fun e M => bindS (t e M) e fun k M => match k with
  | true => a e M
  | false => b e M
def mBad : MSt := fun _ _ => .bad
def mBrk : MSt := fun e M => .bk e M
def mCnt : MSt := fun e M => .ct e M
variable {st : Stmt} {sts : List Stmt} {ms mt : MSt}
theorem rs_nil : RSs X G W [] mNx := PSs.imp pss_nil fun D σ H ⟨ρ, M, e, R, E, p⟩ => p ρ H σ Ex.refl R E
theorem rs_pass : RS X G W (.Pass pos) mNx := PS.imp ps_pass fun D σ H ⟨ρ, M, e, R, E, p⟩ => p ρ H σ Ex.refl R E
theorem rs_brk : RS X G W (.Break pos) mBrk := PS.imp ps_break fun D σ H ⟨ρ, M, e, R, E, p⟩ => p ρ H σ Ex.refl R E
theorem rs_cnt : RS X G W (.Continue pos) mCnt := PS.imp ps_continue fun D σ H ⟨ρ, M, e, R, E, p⟩ => p ρ H σ Ex.refl R E
theorem rs_cons (h1 : RS X G W st ms) (h2 : RSs X G W sts mt) : RSs X G W (st :: sts) (mSeq ms mt) :=
  PSs.imp (pss_cons h1 h2) fun D σ H ⟨ρ, M, e, R, E, p⟩ => by
    refine ⟨ρ, M, e, R, E, ?_⟩
    unfold mSeq at p
    cases q : ms e M with
    | nx e' M' =>
      rw [q] at p
      exact fun ρ' H' σ' x R' E' => ⟨ρ', M', e', R', E', PoS.mono x p⟩
    | rt v M' => rw [q] at p; exact p
    | bk e' M' => rw [q] at p; exact p
    | ct e' M' => rw [q] at p; exact p
    | ex x e' M' => rw [q] at p; exact p
    | bad => rw [q] at p; exact p
theorem rs_one (h1 : RS X G W st ms) : RSs X G W [st] ms := pss_one h1
theorem rs_bad : RS X G W st mBad := PS.imp ps_never fun D σ H ⟨ρ, M, e, R, E, p⟩ => p
theorem rss_bad : RSs X G W sts mBad := PSs.imp pss_never fun D σ H ⟨ρ, M, e, R, E, p⟩ => p
theorem rs_expr (h : RE X G W a ma) (hs : swapsWith a none pos.line X.env = pure false := by rfl) : RS X G W (.Expr a pos) (mExpr ma) :=
  PS.imp (ps_expr h hs) fun D σ H ⟨_, _, _, R, E, p⟩ => se_atS R E p fun ρ M H v _ R o E p => p ρ H σ Ex.refl R E
theorem rs_ret (h : RE X G W a ma) : RS X G W (.Return (some a) pos) (mRet ma) :=
  PS.imp (ps_ret h) fun D σ H ⟨_, _, _, R, E, p⟩ => se_atS R E p fun ρ M H v _ R o E p => p ρ H Ex.refl R o
theorem rs_retN : RS X G W (.Return none pos) mRetN := PS.imp ps_retN fun D σ H ⟨ρ, M, _, R, E, p⟩ => p ρ H Ex.refl R trivial
theorem rs_if {t : MT} {xs ys : List Stmt} (hc : RT X G W c t) (ha : RSs X G W xs ms) (hb : RSs X G W ys mt) : RS X G W (.If c xs ys pos) (mIf t ms mt) :=
  PS.imp (ps_if hc ha hb) fun D σ H ⟨_, _, _, R, E, p⟩ => st_atS R E p fun ρ M H k _ R E p => by
    cases k with
    | true => exact ⟨ρ, M, _, R, E, p⟩
    | false => exact ⟨ρ, M, _, R, E, p⟩
/-! ### while -/
def FUEL : Nat := 100000
def mWhileN (c : MT) (b : MSt) : Nat → MSt
  | 0 => mBad
  | n + 1 => fun e M => bindS (c e M) e fun k M => match k with
    | true => (match b e M with
      | .nx e M => mWhileN c b n e M
      | .ct e M => mWhileN c b n e M
      | .bk e M => .nx e M
      | .rt v M => .rt v M
      | .ex x e M => .ex x e M
      | .bad => .bad)
    | false => .nx e M
def mWhile (c : MT) (b : MSt) : MSt := mWhileN c b FUEL
theorem rs_while {t : MT} {xs : List Stmt} (hp : PassesOwn (model X.prog X.w) X.A X.env X.xe) (hc : RT X G W c t) (hb : RSs X G W xs ms) : RS X G W (.While c xs [] pos) (mWhile t ms) :=
  PS.imp (ps_while hp hc hb) fun D σ H h => by
    refine ⟨fun n σ H => SS G W (mWhileN t ms n) D σ H, ⟨FUEL, h⟩, fun n σ H h => ?_⟩
    cases n with
    | zero =>
      obtain ⟨_, _, _, _, _, p⟩ := h
      exact p.elim
    | succ n =>
      obtain ⟨_, _, e, R, E, p⟩ := h
      refine st_atS R E p fun ρ M H k _ R E p => ?_
      cases k with
      | false => exact p ρ H σ Ex.refl R E
      | true =>
        rw [if_pos rfl]
        refine ⟨fun σ H => SS G W (mWhileN t ms n) D σ H, fun σ' H' h' => ⟨n, Nat.lt_succ_self n, h'⟩, ρ, M, e, R, E, ?_⟩
        dsimp only at p
        cases q : ms e M with
        | nx e' M' =>
          rw [q] at p
          exact fun ρ' H' σ' x R' E' => ⟨ρ', M', e', R', E', PoS.mono x p⟩
        | ct e' M' =>
          rw [q] at p
          exact fun ρ' H' σ' x R' E' => ⟨ρ', M', e', R', E', PoS.mono x p⟩
        | bk e' M' => rw [q] at p; exact p
        | rt v M' => rw [q] at p; exact p
        | ex x e' M' => rw [q] at p; exact p
        | bad => rw [q] at p; exact p
end
/-! ## targets -/
abbrev MG := MV → Env → MS → SOut
def endG (Q : L2.St → Hp → Prop) : Ends := ⟨Q, fun _ _ => False, fun _ _ => False, fun _ _ => False⟩
def SG (G : Cfg) (W : WX) (m : MG) : TG := fun v σ H Q => ∃ ρ M e u, Rl G ρ M H ∧ REnv G ρ M.nx σ e ∧ v = im G ρ u ∧ okV M.nx u ∧ PoS G ρ M.nx W (m u e M) (endG Q)
def SGs (G : Cfg) (W : WX) (m : List MV → Env → MS → SOut) : TGs := fun vs σ H Q => ∃ ρ M e us, Rl G ρ M H ∧ REnv G ρ M.nx σ e ∧ vs = ims G ρ us ∧ okVs M.nx us ∧ PoS G ρ M.nx W (m us e M) (endG Q)
abbrev RG (X : Cx) (G : Cfg) (W : WX) (e : Expr) (m : MG) : Prop := PG X e (SG G W m)
abbrev RGs (X : Cx) (G : Cfg) (W : WX) (e : List Expr) (m : List MV → Env → MS → SOut) : Prop := PGs X e (SGs G W m)
theorem PG.imp {X : Cx} {e : Expr} {t t' : TG} (h : PG X e t) (i : ∀ v σ H Q, t' v σ H Q → t v σ H Q) : PG X e t' := ⟨fun pins s σ H v u Q I r w => h.run pins s σ H v u Q I r (i v σ H Q w)⟩
theorem PGs.imp {X : Cx} {e : List Expr} {t t' : TGs} (h : PGs X e t) (i : ∀ v σ H Q, t' v σ H Q → t v σ H Q) : PGs X e t' := ⟨fun pins s σ H v u Q I r w => h.run pins s σ H v u Q I r (i v σ H Q w)⟩
/-- a target's end, where a statement follows -/
def thenG (o : SOut) (k : Env → MS → SOut) : SOut := match o with
  | .nx e M => k e M
  | .ex x e M => .ex x e M
  | _ => .bad
def gNm (i : Nat) : MG := fun v e M => .nx (e.set i (some v)) M
def gNone : List MV → Env → MS → SOut := fun vs e M => match vs with
  | [] => .nx e M
  | _ => .bad
def gAnd (g : MG) (r : List MV → Env → MS → SOut) : List MV → Env → MS → SOut := fun vs e M => match vs with
  | v :: vs => thenG (g v e M) fun e M => r vs e M
  | [] => .bad
def gTupM (n : Nat) (g : List MV → Env → MS → SOut) : MG := fun v e M => match v with
  | .ref m => (match tupOf (M.get m) with
    | some xs => (if xs.length = n then g xs e M else .bad)
    | none => .bad)
  | _ => .bad
section
variable {X : Cx} {G : Cfg} {W : WX} {pos pos' : Pos} {a b c : Expr} {ma mb mc : MX} {es : List Expr}
theorem rg_name (i : Nat) {x : Str} (hN : X.N.Nodup) (hi : X.N[i]? = some x) (hx : Loc X.env.scope x) (hf : X.fn x = true ∨ X.env.scope.names.lookup x = some .local := by first | exact .inl rfl | exact .inr rfl | assumption) : RG X G W (.Name x pos) (gNm i) :=
  PG.imp (pg_name hN hi hx hf) fun v σ H Q ⟨ρ, M, e, u, R, E, ev, ou, p⟩ => by
    rw [ev]
    exact p ρ H _ Ex.refl R (E.set i ou)
theorem rg_nil : RGs X G W [] gNone := PGs.imp pgs_nil fun v σ H Q ⟨ρ, M, e, us, R, E, ev, ou, p⟩ => by
  cases us with
  | nil => exact ⟨ev, p ρ H σ Ex.refl R E⟩
  | cons _ _ => exact p.elim
theorem rg_cons {g : MG} {r : List MV → Env → MS → SOut} (h1 : RG X G W a g) (h2 : RGs X G W es r) (hs : (assignEach (a :: es) X.env).map (·.2) = assign a X.env :: (assignEach es X.env).map (·.2) := by rfl) : RGs X G W (a :: es) (gAnd g r) :=
  PGs.imp (pgs_cons h1 h2 hs) fun v σ H Q ⟨ρ, M, e, us, R, E, ev, ou, p⟩ => by
    cases us with
    | nil => exact p.elim
    | cons u us =>
      refine ⟨im G ρ u, ims G ρ us, ev, ρ, M, e, u, R, E, rfl, ou u List.mem_cons_self, ?_⟩
      have p1 : PoS G ρ M.nx W (thenG (g u e M) fun e M => r us e M) (endG Q) := p
      have ot : okVs M.nx us := fun y hy => ou y (List.mem_cons_of_mem _ hy)
      cases q : g u e M with
      | nx e' M' =>
        rw [q] at p1
        exact fun ρ' H' σ' x R' E' => ⟨ρ', M', e', us, R', E', (ims_ex x ot).symm, ot.mono x.1, PoS.mono x p1⟩
      | ex z e' M' => rw [q] at p1; exact p1
      | rt _ _ => rw [q] at p1; exact p1.elim
      | bk _ _ => rw [q] at p1; exact p1.elim
      | ct _ _ => rw [q] at p1; exact p1.elim
      | bad => rw [q] at p1; exact p1.elim
theorem gTupM_inv {ρ : Nat → Addr} {nx n : Nat} {g : List MV → Env → MS → SOut} {v : MV} {e : Env} {M : MS} {D : Ends} (p : PoS G ρ nx W (gTupM n g v e M) D) : ∃ m xs, v = .ref m ∧ tupOf (M.get m) = some xs ∧ xs.length = n ∧ PoS G ρ nx W (g xs e M) D := by
  unfold gTupM at p
  cases v with
  | ref m =>
    dsimp only at p
    cases q : tupOf (M.get m) with
    | none => rw [q] at p; exact p.elim
    | some xs =>
      rw [q] at p
      dsimp only at p
      by_cases z : xs.length = n
      · rw [if_pos z] at p
        exact ⟨m, xs, rfl, q, z, p⟩
      · rw [if_neg z] at p
        exact p.elim
  | _ => exact p.elim
theorem rg_tup {k n : Nat} {g : List MV → Env → MS → SOut} (hK : X.K = G.K) (hc : X.calm = true) (h : RGs X G W es g) (hn : (assignEach es X.env).length = n := by rfl) (hst : (assignEach es X.env).findIdx? (·.1) = none := by rfl) :
    RG X G W (.Tuple es k pos) (gTupM n g) :=
  PG.imp (pg_tup hc h hn hst) fun v σ H Q ⟨ρ, M, e, u, R, E, ev, ou, p⟩ => by
    obtain ⟨m, xs, rfl, q, z, p1⟩ := gTupM_inv p
    obtain ⟨c, k⟩ := R.tup q
    exact ⟨ρ m, ims G ρ xs, ev, by rw [hK]; exact c, by rw [List.length_map]; exact z, ρ, M, e, xs, R, E, rfl, k, p1⟩
/-- o[i] = v of a list -/
def putL (o i v : MV) (M : MS) (k : MS → SOut) : SOut := match o, i with
  | .ref n, .int z => (match M.get n with
    | some (.lst xs) => (match ixN xs.length z with
      | some j => k (M.put n (.lst (xs.set j v)))
      | none => .bad)
    | _ => .bad)
  | _, _ => .bad
theorem putL_inv {ρ : Nat → Addr} {nx : Nat} {o i v : MV} {M : MS} {k : MS → SOut} {D : Ends} (p : PoS G ρ nx W (putL o i v M k) D) : ∃ n z xs j, o = .ref n ∧ i = .int z ∧ M.get n = some (.lst xs) ∧ ixN xs.length z = some j ∧ PoS G ρ nx W (k (M.put n (.lst (xs.set j v)))) D := by
  unfold putL at p
  cases o with
  | ref n =>
    cases i with
    | int z =>
      dsimp only at p
      cases q : M.get n with
      | none => rw [q] at p; exact p.elim
      | some ob =>
        rw [q] at p
        cases ob with
        | lst xs =>
          dsimp only at p
          cases q2 : ixN xs.length z with
          | none => rw [q2] at p; exact p.elim
          | some j =>
            rw [q2] at p
            exact ⟨n, z, xs, j, rfl, rfl, q, q2, p⟩
        | _ => exact p.elim
    | _ => exact p.elim
  | _ => cases i <;> exact p.elim
def gSubM (o i : MX) : MG := fun v e M => bindS (o e M) e fun ov M => bindS (i e M) e fun iv M => putL ov iv v M (.nx e)
theorem rg_sub (ha : RE X G W a ma) (hb : RE X G W b mb)
    (hh : ∀ v, assign (.Subscript a b pos) X.env v = (do
      let ov ← holding [v] (eval a X.env)
      let iv ← holding [v, ov] (eval b X.env)
      standAt pos
      holding [v, ov, iv] (setItem ov iv v)
      release [v, ov, iv] []) := by intro _; rfl) : RG X G W (.Subscript a b pos) (gSubM ma mb) :=
  PG.imp (pg_sub ha hb set_list hh) fun v σ H Q ⟨ρ0, M0, e, u, R, E, ev, ou, p⟩ => by
    subst ev
    refine se_atS R E p fun ρ M H x x1 R o E p => se_atS R E p fun ρ2 M2 H2 y x2 R2 o2 E2 p2 => ?_
    obtain ⟨n, z, xs, j, rfl, rfl, q, hj, p3⟩ := putL_inv p2
    obtain ⟨c, k⟩ := R2.lst q
    have ex := x1.trans x2
    refine ⟨ρ2 n, ims G ρ2 xs, z, j, (im_ex x2 o).symm, rfl, c, by rw [List.length_map]; exact hj, ?_⟩
    have R3 := R2.setL q (ys := xs.set j u) fun w hw => by
      rcases List.mem_or_eq_of_mem_set hw with h | h
      · exact k w h
      · rw [h]; exact ou.mono ex.1
    have p4 := p3 ρ2 _ σ Ex.refl R3 E2
    rw [show ims G ρ2 (xs.set j u) = (ims G ρ2 xs).set j (im G ρ0 u) by rw [← im_ex ex ou]; exact List.map_set ..] at p4
    exact p4
def mAsg (g : MG) (v : MX) : MSt := fun e M => bindS (v e M) e fun y M => thenG (g y e M) .nx
theorem thenG_D {ρ : Nat → Addr} {nx : Nat} {o : SOut} {D : Ends} (p : PoS G ρ nx W (thenG o .nx) D) : PoS G ρ nx W o (endG D.nx) := by
  cases o with
  | nx e M => exact p
  | ex x e M => exact p
  | _ => exact p.elim
theorem rs_asg {g : MG} (ha : RE X G W a ma) (hg : RG X G W b g) (hs : swapsWithSole [b] a pos.line X.env = pure false := by rfl) (hw : swappedStores [b] a X.env = pure none := by rfl) (h1 : (assignEach [b] X.env).map (·.2) = [assign b X.env] := by rfl) :
    RS X G W (.Assign [b] a pos) (mAsg g ma) :=
  PS.imp (ps_asg ha hg hs hw h1) fun D σ H ⟨_, _, _, R, E, p⟩ => se_atS R E p fun ρ M H v _ R o E p => ⟨ρ, M, _, v, R, E, rfl, o, thenG_D p⟩
theorem rs_set (i : Nat) {x : Str} (hN : X.N.Nodup) (hi : X.N[i]? = some x) (hx : Loc X.env.scope x) (ha : RE X G W a ma) (hs : swapsWith a (some (.Name x pos')) pos.line X.env = pure false := by rfl) (hf : X.fn x = true ∨ X.env.scope.names.lookup x = some .local := by first | exact .inl rfl | exact .inr rfl | assumption) :
    RS X G W (.Assign [.Name x pos'] a pos) (mAsg (gNm i) ma) :=
  PS.imp (ps_set hN hi hx ha hs hf) fun D σ H ⟨_, _, _, R, E, p⟩ => se_atS R E p fun ρ M H v _ R o E p => p ρ H _ Ex.refl R (E.set i o)
/-- a, b = x, y of local names -/
def mPar (i j : Nat) (as : ML) : MSt := fun e M => bindS (as e M) e fun vs M => match vs with
  | [v, w] => .nx ((e.set i (some v)).set j (some w)) M
  | _ => .bad
theorem rs_par {i j : Nat} {x y : Str} {ml : ML} {px py pt : Pos} {kt k2 pt2} (hc : X.calm = true) (hN : X.N.Nodup) (hi : X.N[i]? = some x) (hj : X.N[j]? = some y) (hij : i ≠ j)
    (hx : X.env.scope.names.lookup x = some .local) (hy : X.env.scope.names.lookup y = some .local) (ha : RL X G W [a, b] ml)
    (hw : swappedStores [.Tuple [.Name x px, .Name y py] kt pt] (.Tuple [a, b] k2 pt2) X.env = pure (some [x, y]))
    (hs : swapsWithSole [.Tuple [.Name x px, .Name y py] kt pt] (.Tuple [a, b] k2 pt2) pos.line X.env = pure false := by rfl) :
    RS X G W (.Assign [.Tuple [.Name x px, .Name y py] kt pt] (.Tuple [a, b] k2 pt2) pos) (mPar i j ml) :=
  PS.imp (ps_par hc hN hi hj hij hx hy ha hw hs) fun D σ H ⟨_, _, _, R, E, p⟩ => sl_atS R E p fun ρ M H vs _ R o E p => by
    match vs, o, p with
    | [], _, p => exact p.elim
    | [_], _, p => exact p.elim
    | _ :: _ :: _ :: _, _, p => exact p.elim
    | [v, w], o, p => exact ⟨_, _, rfl, p ρ H _ Ex.refl R ((E.set i (o v (by simp))).set j (o w (by simp)))⟩
def mPar3 (i j l : Nat) (as : ML) : MSt := fun e M => bindS (as e M) e fun vs M => match vs with
  | [u, v, w] => .nx (((e.set i (some u)).set j (some v)).set l (some w)) M
  | _ => .bad
theorem rs_par3 {i j l : Nat} {x y z : Str} {ml : ML} {px py pz pt : Pos} {kt k2 pt2} (hc : X.calm = true) (hN : X.N.Nodup) (hi : X.N[i]? = some x) (hj : X.N[j]? = some y) (hl : X.N[l]? = some z) (hij : i ≠ j) (hil : i ≠ l) (hjl : j ≠ l)
    (hx : X.env.scope.names.lookup x = some .local) (hy : X.env.scope.names.lookup y = some .local) (hz : X.env.scope.names.lookup z = some .local) (ha : RL X G W [a, b, c] ml)
    (hw : swappedStores [.Tuple [.Name x px, .Name y py, .Name z pz] kt pt] (.Tuple [a, b, c] k2 pt2) X.env = pure (some [x, y, z]))
    (hs : swapsWithSole [.Tuple [.Name x px, .Name y py, .Name z pz] kt pt] (.Tuple [a, b, c] k2 pt2) pos.line X.env = pure false := by rfl) :
    RS X G W (.Assign [.Tuple [.Name x px, .Name y py, .Name z pz] kt pt] (.Tuple [a, b, c] k2 pt2) pos) (mPar3 i j l ml) :=
  PS.imp (ps_par3 hc hN hi hj hl hij hil hjl hx hy hz ha hw hs) fun D σ H ⟨_, _, _, R, E, p⟩ => sl_atS R E p fun ρ M H vs _ R o E p => by
    match vs, o, p with
    | [], _, p => exact p.elim
    | [_], _, p => exact p.elim
    | [_, _], _, p => exact p.elim
    | _ :: _ :: _ :: _ :: _, _, p => exact p.elim
    | [u, v, w], o, p => exact ⟨_, _, _, rfl, p ρ H _ Ex.refl R (((E.set i (o u (by simp))).set j (o v (by simp))).set l (o w (by simp)))⟩
/-- x = y = e: two targets -/
def mAsg2 (g1 g2 : MG) (v : MX) : MSt := fun e M => bindS (v e M) e fun y M => thenG (g1 y e M) fun e M => thenG (g2 y e M) .nx
/-- a dict's entry -/
def putD (d y v : MV) (M : MS) (k : MS → SOut) : SOut := match dkOf d y M with
  | some q => (match q.free with
    | true => k (q.put M v)
    | false => .bad)
  | none => .bad
theorem putD_inv {ρ : Nat → Addr} {nx : Nat} {d y v : MV} {M : MS} {k : MS → SOut} {D : Ends} (p : PoS G ρ nx W (putD d y v M k) D) : ∃ q, dkOf d y M = some q ∧ q.free = true ∧ PoS G ρ nx W (k (q.put M v)) D := by
  unfold putD at p
  cases h : dkOf d y M with
  | none => rw [h] at p; exact p.elim
  | some q =>
    rw [h] at p
    dsimp only at p
    cases z : q.free with
    | false => rw [z] at p; exact p.elim
    | true => rw [z] at p; exact ⟨q, rfl, z, p⟩
def mDPut (d y v : MX) : MSt := fun e M => bindS (v e M) e fun vv M => bindS (d e M) e fun dv M => bindS (y e M) e fun yv M => putD dv yv vv M (.nx e)
theorem rs_dput (hu : X.A.units + 1 < cLine) (ha : RE X G W a ma) (hb : RE X G W b mb) (hc : RE X G W c mc) (hs : swapsWith c (some (.Subscript a b pos')) pos.line X.env = pure false := by rfl) :
    RS X G W (.Assign [.Subscript a b pos'] c pos) (mDPut ma mb mc) :=
  PS.imp (ps_dput hu ha hb hc hs) fun D σ H ⟨_, _, _, R, E, p⟩ => se_atS R E p fun ρ M H v x1 R o E p => se_atS R E p fun ρ2 M2 H2 d x2 R2 o2 E2 p2 => se_atS R2 E2 p2 fun ρ3 M3 H3 y x3 R3 o3 E3 p3 => by
    obtain ⟨q, h1, h2, p4⟩ := putD_inv p3
    obtain ⟨ad, H4, e1, e2, R4⟩ := (dkOf_ok R3 h1).put R3 h2 (o.mono (x2.trans x3).1)
    rw [← im_ex x3 o2, ← im_ex (x2.trans x3) o]
    exact ⟨ad, H4, e1, e2, p4 ρ3 H4 σ (by rw [DK.put_nx]; exact Ex.refl) R4 (by rw [DK.put_nx]; exact E3)⟩
end
end PM
end
noncomputable section
namespace PM
open PySem PySem.Spec PyProof.Rows L2
/-! ## what a loop walks -/
def keyV : MKey → MV
  | .int i => .int i
  | .str s => .str s
  | .sym f i => .sym f i
theorem im_keyV {G : Cfg} {ρ : Nat → Addr} : ∀ k : MKey, im G ρ (keyV k) = kV (imK G k)
  | .int _ => rfl
  | .str _ => rfl
  | .sym _ _ => rfl
theorem ims_keyV {G : Cfg} {ρ : Nat → Addr} (ks : List MKey) : ims G ρ (ks.map keyV) = (ks.map (imK G)).map kV := by
  show List.map _ (List.map _ _) = _
  rw [List.map_map, List.map_map]
  exact List.map_congr_left fun k _ => im_keyV k
theorem ok_keyV {n : Nat} : ∀ k : MKey, okV n (keyV k)
  | .int _ => trivial
  | .str _ => trivial
  | .sym _ _ => trivial
inductive MI where
  | lst (n : Nat) | tup (n : Nat) | rng (lo : Int) (k : Nat) | rngC (lo c : Int) (k : Nat)
  | keys (n : Nat) (kvs : List (MKey × MV)) | keysT (n : Nat) (kvs : List (List MKey × MV)) | enum (n : Nat) | str (s : Str)
inductive ItR where
  | stop | yld (v : MV) (M : MS) | bad
def ItR.of (o : Option MV) (M : MS) : ItR := match o with
  | some v => .yld v M
  | none => .stop
def ItR.new (ob : MObj) (M : MS) : ItR := match (M.hp.set M.nx ob).get M.nx with
  | some _ => (match M.hp.get M.nx with
    | none => .yld (.ref M.nx) ⟨M.nx + 1, M.hp.set M.nx ob⟩
    | some _ => .bad)
  | none => .bad
def MI.step : MI → Nat → MS → ItR
  | .lst n, i, M => match M.get n with
    | some (.lst xs) => .of xs[i]? M
    | _ => .bad
  | .tup n, i, M => match tupOf (M.get n) with
    | some xs => .of xs[i]? M
    | none => .bad
  | .rng lo k, i, M => match decide (i < k) with
    | true => .yld (.int (lo + i)) M
    | false => .stop
  | .rngC lo c k, i, M => match decide (i < k) with
    | true => .yld (.int (lo + (i : Nat) * c)) M
    | false => .stop
  | .keys n kvs, i, M => match M.get n with
    | some (.dkL kvs') => (match decide (kvs' = kvs) with
      | true => .of (kvs[i]?.map fun p => keyV p.1) M
      | false => .bad)
    | _ => .bad
  | .keysT n kvs, i, M => match M.get n with
    | some (.dtL kvs') => (match decide (kvs' = kvs) with
      | true => (match kvs[i]? with
        | some p => .new (.tup (p.1.map keyV)) M
        | none => .stop)
      | false => .bad)
    | _ => .bad
  | .enum n, i, M => match M.get n with
    | some (.lst xs) => (match xs[i]? with
      | some v => .new (.tup [.int (i : Nat), v]) M
      | none => .stop)
    | _ => .bad
  | .str s, i, M => .of (s.cps[i]?.map fun c => .str ⟨#[c]⟩) M
def RI (G : Cfg) (ρ : Nat → Addr) (nx : Nat) : MI → It → Prop
  | .lst n, J => n < nx ∧ J = Itl G.K (ρ n)
  | .tup n, J => n < nx ∧ J = Itt G.K (ρ n)
  | .rng lo k, J => J = Itr lo k
  | .rngC lo c k, J => J = Itc lo c k
  | .keys n kvs, J => n < nx ∧ (∀ p ∈ kvs, okV nx p.2) ∧ J = Itk (ρ n) (G.od (ρ n)) (imD G ρ kvs)
  | .keysT n kvs, J => n < nx ∧ (∀ p ∈ kvs, okV nx p.2) ∧ J = Itkt (ρ n) (G.od (ρ n)) (imDt G ρ kvs)
  | .enum n, J => n < nx ∧ J = Ite G.K (ρ n)
  | .str s, J => J = Its s
section
variable {G : Cfg} {ρ ρ' : Nat → Addr} {nx nx' : Nat} {M : MS} {H : Hp} {J : It}
theorem RI.mono (x : Ex ρ nx ρ' nx') : ∀ {mi : MI}, RI G ρ nx mi J → RI G ρ' nx' mi J
  | .lst n, ⟨a, b⟩ => ⟨Nat.lt_of_lt_of_le a x.1, by rw [b, x.2 n a]⟩
  | .tup n, ⟨a, b⟩ => ⟨Nat.lt_of_lt_of_le a x.1, by rw [b, x.2 n a]⟩
  | .rng _ _, a => a
  | .rngC _ _ _, a => a
  | .keys n kvs, ⟨a, k, b⟩ => ⟨Nat.lt_of_lt_of_le a x.1, fun p hp => (k p hp).mono x.1, by rw [b, x.2 n a, imD_ex x k]⟩
  | .keysT n kvs, ⟨a, k, b⟩ => ⟨Nat.lt_of_lt_of_le a x.1, fun p hp => (k p hp).mono x.1, by rw [b, x.2 n a, imDt_ex x k]⟩
  | .enum n, ⟨a, b⟩ => ⟨Nat.lt_of_lt_of_le a x.1, by rw [b, x.2 n a]⟩
  | .str _, a => a
/-- an object that stands already, and is never changed, gets a number -/
theorem Rl.alias (R : Rl G ρ M H) {p : Addr} {ob : MObj} (hm : isMut ob = false) (hk : okO (M.nx + 1) ob) (hc : cont G (bump ρ M.nx p) H p ob)
    (h1 : ((M.hp.set M.nx ob).get M.nx).isSome = true) (h2 : M.hp.get M.nx = none) : Rl G (bump ρ M.nx p) ⟨M.nx + 1, M.hp.set M.nx ob⟩ H := by
  have gt : ∀ m, (MS.mk (M.nx + 1) (M.hp.set M.nx ob)).get m = if m = M.nx then some ob else M.get m := T.get_set M.hp M.nx ob h1
  refine ⟨fun m o q => ?_, fun m m' o o' q q' x x' e => ?_, R.s, ⟨Nat.le_succ_of_le R.c.1, fun n hn => (if_neg (Nat.ne_of_lt (Nat.lt_of_lt_of_le hn R.c.1))).trans (R.c.2 n hn)⟩, fun m hm => (by rw [gt]; split; rfl; exact R.f m (by have hm : m < M.nx + 1 := hm; omega))⟩
  · rw [gt] at q
    by_cases z : m = M.nx
    · rw [if_pos z] at q
      cases q
      subst z
      refine ⟨Nat.lt_succ_self _, hk, ?_⟩
      show cont G (bump ρ M.nx p) H (bump ρ M.nx p M.nx) ob
      rw [show bump ρ M.nx p M.nx = p from if_pos rfl]
      exact hc
    · rw [if_neg z] at q
      obtain ⟨a1, a2, a3⟩ := R.o m o q
      refine ⟨Nat.lt_succ_of_lt a1, a2.mono (Nat.le_succ _), ?_⟩
      show cont G (bump ρ M.nx p) H (bump ρ M.nx p m) o
      rw [show bump ρ M.nx p m = ρ m from if_neg z]
      exact cont_ex Ex.bump a2 a3
  · rw [gt] at q q'
    have nm : ∀ k ok, (if k = M.nx then some ob else M.get k) = some ok → isMut ok = true → k ≠ M.nx := fun k ok e1 e2 z => by
      rw [if_pos z] at e1
      cases e1
      rw [hm] at e2
      cases e2
    have z := nm m o q x
    have z' := nm m' o' q' x'
    rw [if_neg z] at q
    rw [if_neg z'] at q'
    have e2 : bump ρ M.nx p m = bump ρ M.nx p m' := e
    rw [show bump ρ M.nx p m = ρ m from if_neg z, show bump ρ M.nx p m' = ρ m' from if_neg z'] at e2
    exact R.j m m' o o' q q' x x' e2
/-- what one turn of the small iterator says of the true one -/
def StepOk (G : Cfg) (ρ : Nat → Addr) (nx : Nat) (J : It) (i : Nat) (H : Hp) : ItR → Prop
  | .stop => J.stop i H
  | .yld v M' => J.go i H ∧ ∀ x H', J.yld i H x H' → ∃ ρ', Ex ρ nx ρ' M'.nx ∧ Rl G ρ' M' H' ∧ okV M'.nx v ∧ x = im G ρ' v
  | .bad => True
theorem ims_get? {xs : List MV} {i : Nat} {v : MV} (h : xs[i]? = some v) : (ims G ρ xs)[i]? = some (im G ρ v) := by
  show (List.map _ _)[i]? = _
  rw [List.getElem?_map, h]
  rfl
theorem SqL.inj {K : PySem.W.Frag} {a : Addr} {xs ys : List V} (h : H a = some (.lst xs)) (k : SqL K H a ys ) (hk : K.lookup a = none ∨ True) : True := trivial
theorem newR_ok (R : Rl G ρ M H) {ob : MObj} {i : Nat} (h : ∀ (h1 : ((M.hp.set M.nx ob).get M.nx).isSome = true) (h2 : M.hp.get M.nx = none), StepOk G ρ M.nx J i H (.yld (.ref M.nx) ⟨M.nx + 1, M.hp.set M.nx ob⟩)) : StepOk G ρ M.nx J i H (ItR.new ob M) := by
  unfold ItR.new
  cases q : (M.hp.set M.nx ob).get M.nx with
  | none => trivial
  | some o =>
    dsimp only
    cases q2 : M.hp.get M.nx with
    | some o2 => trivial
    | none => exact h (by rw [q]; rfl) q2
theorem MI.step_ok (R : Rl G ρ M H) (i : Nat) : ∀ {mi : MI}, RI G ρ M.nx mi J → StepOk G ρ M.nx J i H (mi.step i M)
  | .lst n, ⟨a, b⟩ => by
    subst b
    dsimp only [MI.step]
    cases q : M.get n with
    | none => trivial
    | some ob =>
      cases ob with
      | lst xs =>
        obtain ⟨c, k⟩ := R.lst q
        dsimp only
        cases q2 : xs[i]? with
        | none => exact ⟨_, .inl (.inl c), by rw [List.length_map]; exact List.getElem?_eq_none_iff.mp q2⟩
        | some v => exact ⟨⟨_, _, .inl (.inl c), ims_get? q2⟩, fun x H' ⟨e, y⟩ => ⟨ρ, Ex.refl, e ▸ R, k v (List.mem_of_getElem? q2), by
            have z := y _ (.inl (.inl c))
            rw [ims_get? q2] at z
            exact (Option.some.inj z).symm⟩⟩
      | _ => trivial
  | .tup n, ⟨a, b⟩ => by
    subst b
    dsimp only [MI.step]
    cases q : tupOf (M.get n) with
    | none => trivial
    | some xs =>
      obtain ⟨c, k⟩ := R.tup q
      dsimp only
      cases q2 : xs[i]? with
      | none => exact ⟨_, c, by rw [List.length_map]; exact List.getElem?_eq_none_iff.mp q2⟩
      | some v => exact ⟨⟨_, _, c, ims_get? q2⟩, fun x H' ⟨e, y⟩ => ⟨ρ, Ex.refl, e ▸ R, k v (List.mem_of_getElem? q2), by
            have z := y _ c
            rw [ims_get? q2] at z
            exact (Option.some.inj z).symm⟩⟩
  | .rng lo k, b => by
    have b : J = Itr lo k := b
    subst b
    dsimp only [MI.step]
    by_cases h : i < k
    · rw [decide_eq_true h]
      exact ⟨h, fun x H' ⟨e, y⟩ => ⟨ρ, Ex.refl, e ▸ R, trivial, y⟩⟩
    · rw [decide_eq_false h]
      exact Nat.le_of_not_lt h
  | .rngC lo c k, b => by
    have b : J = Itc lo c k := b
    subst b
    dsimp only [MI.step]
    by_cases h : i < k
    · rw [decide_eq_true h]
      exact ⟨h, fun x H' ⟨e, y⟩ => ⟨ρ, Ex.refl, e ▸ R, trivial, y⟩⟩
    · rw [decide_eq_false h]
      exact Nat.le_of_not_lt h
  | .keys n kvs, ⟨a, k, b⟩ => by
    subst b
    dsimp only [MI.step]
    cases q : M.get n with
    | none => trivial
    | some ob =>
      cases ob with
      | dkL kvs' =>
        dsimp only
        by_cases z : kvs' = kvs
        · subst z
          rw [decide_eq_true rfl]
          dsimp only
          have c : H (ρ n) = some (.frz (G.od (ρ n)) (.dK (imD G ρ kvs'))) := (R.o n _ q).2.2
          cases q2 : kvs'[i]? with
          | none => exact ⟨c, by rw [List.length_map]; exact List.getElem?_eq_none_iff.mp q2⟩
          | some p =>
            have hi := (List.getElem?_eq_some_iff.mp q2).1
            refine ⟨⟨c, by rw [List.length_map]; exact hi⟩, fun x H' ⟨e, k', v', e1, e2⟩ => ⟨ρ, Ex.refl, e ▸ R, ok_keyV _, ?_⟩⟩
            rw [List.getElem?_map, q2] at e1
            cases e1
            rw [e2, im_keyV]
        · rw [decide_eq_false z]; trivial
      | _ => trivial
  | .keysT n kvs, ⟨a, k, b⟩ => by
    subst b
    dsimp only [MI.step]
    cases q : M.get n with
    | none => trivial
    | some ob =>
      cases ob with
      | dtL kvs' =>
        dsimp only
        by_cases z : kvs' = kvs
        · subst z
          rw [decide_eq_true rfl]
          dsimp only
          have c : H (ρ n) = some (.frz (G.od (ρ n)) (.dT (imDt G ρ kvs'))) := (R.o n _ q).2.2
          cases q2 : kvs'[i]? with
          | none => exact ⟨c, by rw [List.length_map]; exact List.getElem?_eq_none_iff.mp q2⟩
          | some p =>
            have hi := (List.getElem?_eq_some_iff.mp q2).1
            refine newR_ok R fun h1 h2 => ⟨⟨c, by rw [List.length_map]; exact hi⟩, fun x H' ⟨e, k', v', p', e1, e2, e3⟩ => ?_⟩
            rw [List.getElem?_map, q2] at e1
            cases e1
            subst e
            refine ⟨bump ρ M.nx p', Ex.bump, R.alias rfl (fun v hv => ?_) ?_ h1 h2, Nat.lt_succ_self _, ?_⟩
            · obtain ⟨ky, _, rfl⟩ := List.mem_map.mp hv
              exact ok_keyV _
            · show H' p' = some (.tup (ims G _ (p.1.map keyV)))
              rw [ims_keyV]
              exact e3
            · rw [e2]
              show _ = V.ref (bump ρ M.nx p' M.nx)
              rw [show bump ρ M.nx p' M.nx = p' from if_pos rfl]
        · rw [decide_eq_false z]; trivial
      | _ => trivial
  | .enum n, ⟨a, b⟩ => by
    subst b
    dsimp only [MI.step]
    cases q : M.get n with
    | none => trivial
    | some ob =>
      cases ob with
      | lst xs =>
        obtain ⟨c, k⟩ := R.lst q
        dsimp only
        cases q2 : xs[i]? with
        | none => exact ⟨_, .inl (.inl c), by rw [List.length_map]; exact List.getElem?_eq_none_iff.mp q2⟩
        | some v =>
          refine newR_ok R fun h1 h2 => ⟨⟨_, _, .inl (.inl c), ims_get? q2⟩, fun x H' ⟨p', y', e1, e2, e3, e4⟩ => ?_⟩
          have z := e4 _ (.inl (.inl c))
          rw [ims_get? q2] at z
          cases z
          have kv := k v (List.mem_of_getElem? q2)
          have R' := R.newG (ob := .tup [.int (i : Nat), v]) (H' := H') e2 (fun w hw => by
            simp only [List.mem_cons, List.not_mem_nil, or_false] at hw
            rcases hw with rfl | rfl
            · trivial
            · exact kv.mono (Nat.le_succ _)) (by rw [e3]; exact same_upd e2) (by
            show H' p' = some (.tup [.int (i : Nat), im G (bump ρ M.nx p') v])
            rw [e3, upd_same, im_ex Ex.bump kv]) h1 h2
          refine ⟨bump ρ M.nx p', Ex.bump, R', Nat.lt_succ_self _, ?_⟩
          rw [e1]
          show _ = V.ref (bump ρ M.nx p' M.nx)
          rw [show bump ρ M.nx p' M.nx = p' from if_pos rfl]
      | _ => trivial
  | .str s, b => by
    have b : J = Its s := b
    subst b
    dsimp only [MI.step]
    cases q : s.cps[i]? with
    | none => exact Array.getElem?_eq_none_iff.mp q
    | some c => exact ⟨(Array.getElem?_eq_some_iff.mp q).1, fun x H' ⟨e, c', e1, e2⟩ => ⟨ρ, Ex.refl, e ▸ R, trivial, by
        rw [q] at e1
        cases e1
        exact e2⟩⟩
end
/-! ### iterables -/
abbrev MIt := Env → MS → Out MI
def SIt (G : Cfg) (W : WX) (m : MIt) : TI := fun σ H R => ∃ ρ M e, Rl G ρ M H ∧ REnv G ρ M.nx σ e ∧ (match m e M with
  | .ok mi M' => ∀ ρ' H' J, Ex ρ M.nx ρ' M'.nx → Rl G ρ' M' H' → RI G ρ' M'.nx mi J → R J H'
  | .ex x M' => ∀ ρ' H', Ex ρ M.nx ρ' M'.nx → Rl G ρ' M' H' → W (.ref (G.cls x.c)) (x.d.map ρ') σ H'
  | .bad => False)
abbrev RIt (X : Cx) (G : Cfg) (W : WX) (tg e : Expr) (m : MIt) : Prop := PI X tg e (SIt G W m)
theorem PI.imp {X : Cx} {tg e : Expr} {t t' : TI} (h : PI X tg e t) (i : ∀ σ H R, t' σ H R → t σ H R) : PI X tg e t' := ⟨fun pins s σ H R I w => h.run pins s σ H R I (i σ H R w)⟩
/-- any value that can be walked -/
def iAny (K : PySem.W.Frag) (tl : TE) : TI := fun σ H R => tl σ H fun x H1 =>
  (∃ a, x = .ref a ∧ (∃ xs, SqL K H1 a xs) ∧ R (Itl K a) H1) ∨ (∃ a, x = .ref a ∧ (∃ xs, SqT K H1 a xs) ∧ R (Itt K a) H1) ∨
  (∃ d o kvs, x = .ref d ∧ H1 d = some (.frz o (.dK kvs)) ∧ R (Itk d o kvs) H1) ∨ (∃ d o kvs, x = .ref d ∧ H1 d = some (.frz o (.dT kvs)) ∧ R (Itkt d o kvs) H1) ∨ ∃ s, x = .str s ∧ R (Its s) H1
theorem pi_any {X : Cx} {tg l : Expr} {tl : TE} (hl : PE X l tl) : PI X tg l (iAny X.K tl) := by
  refine ⟨fun pins s σ H R I h => ?_⟩
  refine thn (hl.run pins s σ H _ I h) fun v s1 ⟨x, H1, I1, r1, q1⟩ => ?_
  rcases q1 with ⟨a, e, ⟨xs, hq⟩, q⟩ | ⟨a, e, ⟨xs, hq⟩, q⟩ | ⟨d, o, kvs, e, hd, q⟩ | ⟨d, o, kvs, e, hd, q⟩ | ⟨st, e, q⟩
  · subst e
    cases r1
    obtain ⟨its, rv, p, hz⟩ := I1.list hq
    refine wpAny_pyIter_list p.isList ?_
    refine ⟨s1.heap.objs.size, [s1.heap.objs.size], _, _, H1, rfl, I1.kept (t' := s1.toks) fun b o e => Heap.get?_push_of_some _ e, turn_list a _, ⟨_, Heap.get?_push_size _ rfl, rfl, rfl⟩, fun b hb => ?_, q⟩
    have e : b = s1.heap.objs.size := by simpa using hb
    subst e
    exact I1.fpOk (Nat.le_refl _) (I1.hok.fresh (Nat.le_refl _))
  · subst e
    cases r1
    obtain ⟨its, rv, p, hz⟩ := I1.tuple hq
    refine wpAny_pyIter_tuple (show s1.heap.IsTuple a its.toArray from p) ?_
    refine ⟨s1.heap.objs.size, [s1.heap.objs.size], _, _, H1, rfl, I1.kept (t' := s1.toks) fun b o e => Heap.get?_push_of_some _ e, turn_tuple a _, ⟨_, Heap.get?_push_size _ rfl, rfl, rfl⟩, fun b hb => ?_, q⟩
    have e : b = s1.heap.objs.size := by simpa using hb
    subst e
    exact I1.fpOk (Nat.le_refl _) (I1.hok.fresh (Nat.le_refl _))
  · subst e
    obtain rfl : v = Value.ref d := r1
    obtain ⟨hs, hgd, hx, es, ep, vs, hdt, hsz, kv, hm⟩ := I1.frzK hd
    refine iter_keys hs hgd hx hdt (pi_one (tk := s1.toks) I1 _ (turn_keys _ hdt) ⟨_, Heap.get?_push_size _ rfl, rfl, ?_⟩ q)
    rw [hsz] <;> rfl
  · subst e
    obtain rfl : v = Value.ref d := r1
    obtain ⟨hs, hgd, hx, es, ep, hdt, hsz, ent⟩ := I1.frzT hd
    refine iter_keys hs hgd hx hdt (pi_one (tk := s1.toks) I1 _ (turn_keysT _ hdt) ⟨_, Heap.get?_push_size _ rfl, rfl, ?_⟩ q)
    rw [hsz] <;> rfl
  · subst e
    obtain ⟨t, rfl⟩ := r1
    cases ha : st.cps.all (· < 128)
    · exact wpAny_pyIter_wide ha (pi_one (tk := s1.toks) I1 _ (turn_str _ st t "str_iterator" (.inr rfl)) ⟨_, Heap.get?_push_size _ rfl, rfl, rfl⟩ q)
    · exact wpAny_pyIter_ascii ha (pi_one (tk := s1.toks) I1 _ (turn_str _ st t "str_ascii_iterator" (.inl rfl)) ⟨_, Heap.get?_push_size _ rfl, rfl, rfl⟩ q)
def miOf (v : MV) (M : MS) : Option MI := match v with
  | .ref n => (match M.get n with
    | some (.lst _) => some (.lst n)
    | some (.tup _) => some (.tup n)
    | some (.ktup _) => some (.tup n)
    | some (.dkL kvs) => some (.keys n kvs)
    | some (.dtL kvs) => some (.keysT n kvs)
    | _ => none)
  | .str s => some (.str s)
  | _ => none
def itAny (m : MX) : MIt := fun e M => (m e M).bind fun v M => someO (miOf v M) fun mi => .ok mi M
def itR1 (m : MX) : MIt := fun e M => (m e M).bind fun v M => asI v fun j => guardO (decide (-(2 ^ 62) ≤ j ∧ j < 2 ^ 62)) (.ok (.rng 0 j.toNat) M)
def itR2 (a b : MX) : MIt := fun e M => (a e M).bind fun v M => (b e M).bind fun u M => asI v fun i => asI u fun j => guardO (decide (-(2 ^ 62) ≤ i ∧ i < 2 ^ 62 ∧ -(2 ^ 62) ≤ j ∧ j < 2 ^ 62)) (.ok (.rng i (j - i).toNat) M)
def itRev1 (m : MX) : MIt := fun e M => (m e M).bind fun v M => asI v fun j => guardO (decide (-(2 ^ 62) ≤ j ∧ j < 2 ^ 62)) (.ok (.rngC ((j.toNat : Int) - 1) (-1) j.toNat) M)
def itEnum (m : MX) : MIt := fun e M => (m e M).bind fun v M => match v with
  | .ref n => (match M.get n with
    | some (.lst _) => .ok (.enum n) M
    | _ => .bad)
  | _ => .bad
section
variable {X : Cx} {G : Cfg} {W : WX} {tg a b : Expr} {ma mb : MX} {ρ : Nat → Addr} {M : MS} {σ : L2.St} {H : Hp} {R' : It → Hp → Prop} {nx : Nat}
/-- the end of an iterable -/
def PoI (G : Cfg) (ρ : Nat → Addr) (nx : Nat) (W : WX) (σ : L2.St) (o : Out MI) (R : It → Hp → Prop) : Prop := match o with
  | .ok mi M' => ∀ ρ' H' J, Ex ρ nx ρ' M'.nx → Rl G ρ' M' H' → RI G ρ' M'.nx mi J → R J H'
  | .ex x M' => ∀ ρ' H', Ex ρ nx ρ' M'.nx → Rl G ρ' M' H' → W (.ref (G.cls x.c)) (x.d.map ρ') σ H'
  | .bad => False
theorem PoI.mono {ρ1 : Nat → Addr} {nx1 : Nat} {o : Out MI} {Q : It → Hp → Prop} (x : Ex ρ nx ρ1 nx1) (h : PoI G ρ nx W σ o Q) : PoI G ρ1 nx1 W σ o Q := by
  cases o with
  | ok v M => exact fun ρ' H' J y => h ρ' H' J (x.trans y)
  | ex e M => exact fun ρ' H' y => h ρ' H' (x.trans y)
  | bad => exact h
theorem si_at {e : Env} {k : MV → MS → Out MI} {Q : It → Hp → Prop} {T : V → Hp → Prop}
    (R : Rl G ρ M H) (E : REnv G ρ M.nx σ e) (p : PoI G ρ M.nx W σ ((ma e M).bind k) Q)
    (c : ∀ ρ1 M1 H1 v, Ex ρ M.nx ρ1 M1.nx → Rl G ρ1 M1 H1 → okV M1.nx v → REnv G ρ1 M1.nx σ e → PoI G ρ1 M1.nx W σ (k v M1) Q → T (im G ρ1 v) H1) : SE G W ma σ H T := by
  refine ⟨ρ, M, e, R, E, ?_⟩
  cases q : ma e M with
  | ok v M1 =>
    rw [q] at p
    exact fun ρ1 H1 x R1 o1 => c ρ1 M1 H1 v x R1 o1 (E.mono x) (PoI.mono x p)
  | ex x M1 => rw [q] at p; exact p
  | bad => rw [q] at p; exact p
theorem PoI.guard {c : Bool} {o : Out MI} {Q : It → Hp → Prop} (p : PoI G ρ nx W σ (guardO c o) Q) : c = true ∧ PoI G ρ nx W σ o Q := by
  cases c with
  | true => exact ⟨rfl, p⟩
  | false => exact p.elim
theorem PoI.asI {v : MV} {k : Int → Out MI} {Q : It → Hp → Prop} (p : PoI G ρ nx W σ (asI v k) Q) : ∃ j, v = .int j ∧ PoI G ρ nx W σ (k j) Q := by
  cases v with
  | int j => exact ⟨j, rfl, p⟩
  | _ => exact p.elim
theorem ri_any (hK : X.K = G.K) (h : RE X G W a ma) : RIt X G W tg a (itAny ma) := PI.imp (pi_any h) fun σ H R ⟨ρ, M, e, R0, E, p⟩ =>
  si_at (Q := R) R0 E p fun ρ M H v _ R0 o _ p => by
    rw [hK]
    cases v with
    | ref n =>
      unfold miOf at p
      dsimp only at p
      cases q : M.get n with
      | none => rw [q] at p; exact p.elim
      | some ob =>
        rw [q] at p
        cases ob with
        | lst xs => exact .inl ⟨ρ n, rfl, ⟨_, .inl (.inl (R0.lst q).1)⟩, p ρ H _ Ex.refl R0 ⟨o, rfl⟩⟩
        | tup xs => exact .inr (.inl ⟨ρ n, rfl, ⟨_, (R0.tup (by rw [q]; rfl)).1⟩, p ρ H _ Ex.refl R0 ⟨o, rfl⟩⟩)
        | ktup xs => exact .inr (.inl ⟨ρ n, rfl, ⟨_, (R0.tup (by rw [q]; rfl)).1⟩, p ρ H _ Ex.refl R0 ⟨o, rfl⟩⟩)
        | dkL kvs => exact .inr (.inr (.inl ⟨ρ n, _, _, rfl, (R0.o n _ q).2.2, p ρ H _ Ex.refl R0 ⟨o, (R0.o n _ q).2.1, rfl⟩⟩))
        | dtL kvs => exact .inr (.inr (.inr (.inl ⟨ρ n, _, _, rfl, (R0.o n _ q).2.2, p ρ H _ Ex.refl R0 ⟨o, (R0.o n _ q).2.1, rfl⟩⟩)))
        | _ => exact p.elim
    | str s => exact .inr (.inr (.inr (.inr ⟨s, rfl, p ρ H _ Ex.refl R0 rfl⟩)))
    | _ => exact p.elim
theorem ri_r1 {p pos : Pos} (hg : Gl X "range") (hm : X.mg "range" = none) (h : RE X G W a ma) (hs : starEach [a] X.env = (false, eval a X.env) :: starEach [] X.env := by rfl) : RIt X G W tg (.Call (.Name "range" p) [a] [] pos) (itR1 ma) :=
  PI.imp (pi_range1 hg hm (pa_cons h pa_nil hs) (by rw [hs]; rfl)) fun σ H R ⟨ρ, M, e, R0, E, p⟩ => si_at (Q := R) R0 E p fun ρ M H v _ R0 o _ p => by
    obtain ⟨j, rfl, p1⟩ := PoI.asI p
    obtain ⟨g, p2⟩ := PoI.guard p1
    obtain ⟨g1, g2⟩ := of_decide_eq_true g
    exact ⟨j, rfl, g1, g2, p2 ρ H _ Ex.refl R0 rfl⟩
theorem ri_r2 {p pos : Pos} (hg : Gl X "range") (hm : X.mg "range" = none) (h : RE X G W a ma) (hb : RE X G W b mb) (hs : starEach [a, b] X.env = (false, eval a X.env) :: starEach [b] X.env := by rfl) (hs2 : starEach [b] X.env = (false, eval b X.env) :: starEach [] X.env := by rfl) : RIt X G W tg (.Call (.Name "range" p) [a, b] [] pos) (itR2 ma mb) :=
  PI.imp (pi_range2 hg hm (pa_cons h (pa_cons hb pa_nil hs2) hs) (by rw [hs, hs2]; rfl) hs2) fun σ H R ⟨ρ, M, e, R0, E, p⟩ => si_at (Q := R) R0 E p fun ρ M H v _ R0 o E p => si_at (Q := R) R0 E p fun ρ2 M2 H2 u x R2 o2 E2 p => by
    obtain ⟨i, rfl, p1⟩ := PoI.asI p
    obtain ⟨j, rfl, p2⟩ := PoI.asI p1
    obtain ⟨g, p3⟩ := PoI.guard p2
    exact ⟨i, j, rfl, of_decide_eq_true g, p3 ρ2 H2 _ Ex.refl R2 rfl⟩
theorem ri_rev1 {p pos p2 pos2 : Pos} (hr : Gl X "reversed") (hmr : X.mg "reversed" = none) (hg : Gl X "range") (hm : X.mg "range" = none) (h : RE X G W a ma) (hs : starEach [a] X.env = (false, eval a X.env) :: starEach [] X.env := by rfl)
    (hs2 : starEach [.Call (.Name "range" p2) [a] [] pos2] X.env = (false, eval (.Call (.Name "range" p2) [a] [] pos2) X.env) :: starEach [] X.env := by rfl) : RIt X G W tg (.Call (.Name "reversed" p) [.Call (.Name "range" p2) [a] [] pos2] [] pos) (itRev1 ma) :=
  PI.imp (pi_revR hr hmr (prg_1 hg hm h hs) hs2) fun σ H R ⟨ρ, M, e, R0, E, p⟩ => si_at (Q := R) R0 E p fun ρ M H v _ R0 o _ p => by
    obtain ⟨j, rfl, p1⟩ := PoI.asI p
    obtain ⟨g, p2⟩ := PoI.guard p1
    obtain ⟨g1, g2⟩ := of_decide_eq_true g
    refine ⟨j, rfl, by omega, by omega, g1, g2, ?_⟩
    have e0 : j - 0 = j := Int.sub_zero j
    rw [e0]
    have e1 : (0 : Int) + (j.toNat : Int) - 1 = (j.toNat : Int) - 1 := by omega
    rw [e1]
    exact p2 ρ H _ Ex.refl R0 rfl
theorem ri_enum {p pos tpos : Pos} {elts : List Expr} {kk : Nat} (hK : X.K = G.K) (hg : Gl X "enumerate") (hm : X.mg "enumerate" = none) (h : RE X G W a ma) (hs : starEach [a] X.env = (false, eval a X.env) :: starEach [] X.env := by rfl) :
    RIt X G W (.Tuple elts kk tpos) (.Call (.Name "enumerate" p) [a] [] pos) (itEnum ma) :=
  PI.imp (pi_enum hg hm (pa_cons h pa_nil hs) (by rw [hs]; rfl)) fun σ H R ⟨ρ, M, e, R0, E, p⟩ => si_at (Q := R) R0 E p fun ρ M H v _ R0 o _ p => by
    cases v with
    | ref n =>
      dsimp only at p
      cases q : M.get n with
      | none => rw [q] at p; exact p.elim
      | some ob =>
        rw [q] at p
        cases ob with
        | lst xs => exact ⟨ρ n, _, rfl, .inl (.inl (R0.lst q).1), by rw [hK]; exact p ρ H _ Ex.refl R0 ⟨o, rfl⟩⟩
        | _ => exact p.elim
    | _ => exact p.elim
end
/-! ### for -/
def mForN (mi : MI) (g : MG) (b : MSt) : Nat → Nat → MSt
  | 0, _ => mBad
  | n + 1, i => fun e M => match mi.step i M with
    | .stop => .nx e M
    | .bad => .bad
    | .yld v M => thenG (g v e M) fun e M => match b e M with
      | .nx e M => mForN mi g b n (i + 1) e M
      | .ct e M => mForN mi g b n (i + 1) e M
      | .bk e M => .nx e M
      | .rt v M => .rt v M
      | .ex x e M => .ex x e M
      | .bad => .bad
def itS (o : Out MI) (e : Env) (k : MI → MS → SOut) : SOut := match o with
  | .ok a M => k a M
  | .ex x M => .ex x e M
  | .bad => .bad
def mFor (it : MIt) (g : MG) (b : MSt) : MSt := fun e M => itS (it e M) e fun mi M => mForN mi g b FUEL 0 e M
theorem rs_for {X : Cx} {G : Cfg} {W : WX} {tg iter : Expr} {xs : List Stmt} {pos : Pos} {it : MIt} {g : MG} {ms : MSt} (hp : PassesOwn (model X.prog X.w) X.A X.env X.xe) (hc : X.calm = true) (hi : RIt X G W tg iter it) (hg : RG X G W tg g) (hb : RSs X G W xs ms)
    (hs : ∀ x, foldedSetIterable iter X.env x = pure x := by intro _; rfl) : RS X G W (.For tg iter xs [] pos) (mFor it g ms) :=
  PS.imp (ps_for hp hc hi hg hb hs) fun D σ H h => by
    obtain ⟨ρ, M, e, R, E, p⟩ := h
    refine ⟨ρ, M, e, R, E, ?_⟩
    unfold mFor at p
    cases q : it e M with
    | ex x M1 =>
      rw [q] at p
      exact fun ρ1 H1 y R1 => p ρ1 H1 σ y R1 (E.mono y)
    | bad => rw [q] at p; exact p
    | ok mi M1 =>
      rw [q] at p
      intro ρ1 H1 J x R1 r1
      have p1 : PoS G ρ1 M1.nx W (mForN mi g ms FUEL 0 e M1) D := PoS.mono x p
      refine ⟨fun i n σ H => ∃ ρ M e, Rl G ρ M H ∧ REnv G ρ M.nx σ e ∧ RI G ρ M.nx mi J ∧ PoS G ρ M.nx W (mForN mi g ms n i e M) D, ⟨FUEL, ρ1, M1, e, R1, E.mono x, r1, p1⟩, fun i n σ H h => ?_⟩
      obtain ⟨ρ, M, e, R, E, r, p⟩ := h
      cases n with
      | zero => exact p.elim
      | succ n =>
        have so := MI.step_ok R i r
        unfold mForN at p
        cases q2 : mi.step i M with
        | bad => rw [q2] at p; exact p.elim
        | stop =>
          rw [q2] at p so
          exact .inl ⟨so, p ρ H σ Ex.refl R E⟩
        | yld v M2 =>
          rw [q2] at p so
          refine .inr ⟨so.1, fun σ' H' => ∃ ρ M e, Rl G ρ M H' ∧ REnv G ρ M.nx σ' e ∧ RI G ρ M.nx mi J ∧ PoS G ρ M.nx W (mForN mi g ms n (i + 1) e M) D, fun σ' H' h' => ⟨n, Nat.lt_succ_self n, h'⟩, fun x' H' y' => ?_⟩
          obtain ⟨ρ2, x2, R2, o2, rfl⟩ := so.2 x' H' y'
          refine ⟨ρ2, M2, e, v, R2, E.mono x2, rfl, o2, ?_⟩
          have p2 := PoS.mono x2 p
          have r2 := r.mono x2
          dsimp only at p2
          cases q3 : g v e M2 with
          | nx e3 M3 =>
            rw [q3] at p2
            intro ρ3 H3 σ3 x3 R3 E3
            refine ⟨ρ3, M3, e3, R3, E3, ?_⟩
            have p3 := PoS.mono x3 p2
            have r3 := r2.mono x3
            dsimp only [thenG] at p3
            cases q4 : ms e3 M3 with
            | nx e4 M4 =>
              rw [q4] at p3
              exact fun ρ4 H4 σ4 x4 R4 E4 => ⟨ρ4, M4, e4, R4, E4, r3.mono x4, PoS.mono x4 p3⟩
            | ct e4 M4 =>
              rw [q4] at p3
              exact fun ρ4 H4 σ4 x4 R4 E4 => ⟨ρ4, M4, e4, R4, E4, r3.mono x4, PoS.mono x4 p3⟩
            | bk e4 M4 => rw [q4] at p3; exact p3
            | rt v4 M4 => rw [q4] at p3; exact p3
            | ex z e4 M4 => rw [q4] at p3; exact p3
            | bad => rw [q4] at p3; exact p3
          | ex z e3 M3 => rw [q3] at p2; exact p2
          | rt _ _ => rw [q3] at p2; exact p2.elim
          | bk _ _ => rw [q3] at p2; exact p2.elim
          | ct _ _ => rw [q3] at p2; exact p2.elim
          | bad => rw [q3] at p2; exact p2.elim
end PM
end
noncomputable section
namespace PM
open PySem PySem.Spec PyProof.Rows L2
/-! ## locks -/
@[reducible] def Cfg.wod (G : Cfg) (od : Addr → Obj) : Cfg := { G with od := od }
def odSet (od : Addr → Obj) (a : Addr) (o : Obj) : Addr → Obj := fun b => if b = a then o else od b
section
variable {G : Cfg} {ρ ρ' : Nat → Addr} {nx nx' : Nat} {M : MS} {H : Hp} {od : Addr → Obj}
theorem cont_od {a : Addr} (h : od a = G.od a) : ∀ {o : MObj}, cont G ρ H a o → cont (G.wod od) ρ H a o
  | .lst _, c => c
  | .tup _, c => c
  | .ktup _, c => c
  | .dk _, c => c
  | .dkL kvs, c => by
    show H a = some (.frz (od a) (.dK (imD G ρ kvs)))
    rw [h]; exact c
  | .dt _, c => c
  | .dtL kvs, c => by
    show H a = some (.frz (od a) (.dT (imDt G ρ kvs)))
    rw [h]; exact c
  | .ins _ _, c => c
  | .xd _, c => c
def isLk : MObj → Bool
  | .dkL _ => true
  | .dtL _ => true
  | _ => false
theorem cont_od' {a : Addr} : ∀ {o : MObj}, isLk o = false → cont G ρ H a o → cont (G.wod od) ρ H a o
  | .lst _, _, c => c
  | .tup _, _, c => c
  | .ktup _, _, c => c
  | .dkL kvs, h, c => nomatch h
  | .dk _, _, c => c
  | .dt _, _, c => c
  | .dtL kvs, h, c => nomatch h
  | .ins _ _, _, c => c
  | .xd _, _, c => c
theorem Rl.wod (R : Rl G ρ M H) (h : ∀ m ob, M.get m = some ob → isLk ob = true → od (ρ m) = G.od (ρ m)) : Rl (G.wod od) ρ M H :=
  ⟨fun n ob q => let ⟨a, b, c⟩ := R.o n ob q
    ⟨a, b, by
      cases l : isLk ob with
      | true => exact cont_od (h n ob q l) c
      | false => exact cont_od' l c⟩, R.j, R.s, R.c, R.f⟩
def lkO : MObj → Option MObj
  | .dk kvs => some (.dkL kvs)
  | .dt kvs => some (.dtL kvs)
  | _ => none
def hoO (G : Cfg) (ρ : Nat → Addr) : MObj → HO
  | .dk kvs => .dK (imD G ρ kvs)
  | .dt kvs => .dT (imDt G ρ kvs)
  | _ => .dK []
theorem lk_mut : ∀ {o : MObj}, isLk o = true → isMut o = true
  | .dkL _, _ => rfl
  | .dtL _, _ => rfl
/-- the lock put on -/
theorem Rl.lock (R : Rl G ρ M H) {n : Nat} {ob ol : MObj} (h : M.get n = some ob) (hl : lkO ob = some ol) (o : Obj) :
    H (ρ n) = some (hoO G ρ ob) ∧ Mut (some (hoO G ρ ob)) ∧ Rl (G.wod (odSet G.od (ρ n) o)) ρ (M.put n ol) (upd H (ρ n) (.frz o (hoO G ρ ob))) := by
  have key : isMut ob = true → isLk ob = false → Rl (G.wod (odSet G.od (ρ n) o)) ρ M H := fun hm hk => R.wod fun m ob' q l => by
    have ne : ρ m ≠ ρ n := fun e => by
      have := R.j m n ob' ob q h (lk_mut l) hm e
      subst this
      rw [h] at q
      cases q
      rw [hk] at l
      cases l
    exact if_neg ne
  cases ob with
  | dk kvs =>
    cases hl
    have R1 := key rfl rfl
    refine ⟨(R.o n _ h).2.2, trivial, R1.write h rfl rfl (R.o n _ h).2.1 ?_⟩
    show upd H (ρ n) _ (ρ n) = some (.frz (odSet G.od (ρ n) o (ρ n)) _)
    rw [upd_same, show odSet G.od (ρ n) o (ρ n) = o from if_pos rfl]
    rfl
  | dt kvs =>
    cases hl
    have R1 := key rfl rfl
    refine ⟨(R.o n _ h).2.2, trivial, R1.write h rfl rfl (R.o n _ h).2.1 ?_⟩
    show upd H (ρ n) _ (ρ n) = some (.frz (odSet G.od (ρ n) o (ρ n)) _)
    rw [upd_same, show odSet G.od (ρ n) o (ρ n) = o from if_pos rfl]
    rfl
  | _ => cases hl
/-- the lock taken off -/
theorem Rl.unlock {a : Addr} {o : Obj} (R : Rl (G.wod (odSet G.od a o)) ρ M H) {n : Nat} (ha : ρ n = a) {ob ol : MObj} (h : M.get n = some ol) (hl : lkO ob = some ol) :
    H a = some (.frz o (hoO G ρ ob)) ∧ Rl G ρ (M.put n ob) (upd H a (hoO G ρ ob)) := by
  subst ha
  have fin : ∀ {M' : MS} {H' : Hp}, (∀ m ob', M'.get m = some ob' → isLk ob' = true → ρ m ≠ ρ n) → Rl (G.wod (odSet G.od (ρ n) o)) ρ M' H' → Rl G ρ M' H' := fun {M' H'} hh R' =>
    Rl.wod (G := G.wod (odSet G.od (ρ n) o)) (od := G.od) R' fun m ob' q l => (if_neg (hh m ob' q l)).symm
  have ne : ∀ {ob : MObj}, isMut ol = true → isLk ob = false → ∀ m ob', (M.put n ob).get m = some ob' → isLk ob' = true → ρ m ≠ ρ n := fun {ob} hm hk m ob' q l e => by
    rw [MS.put_get h] at q
    by_cases z : m = n
    · rw [if_pos z] at q
      cases q
      rw [hk] at l
      cases l
    · rw [if_neg z] at q
      exact z (R.j m n ob' ol q h (lk_mut l) hm e)
  cases ob with
  | dk kvs =>
    cases hl
    have c : H (ρ n) = some (.frz (odSet G.od (ρ n) o (ρ n)) (.dK (imD G ρ kvs))) := (R.o n _ h).2.2
    rw [show odSet G.od (ρ n) o (ρ n) = o from if_pos rfl] at c
    refine ⟨c, fin (ne rfl rfl) (R.write (ob' := .dk kvs) h rfl rfl (R.o n _ h).2.1 ?_)⟩
    show upd H (ρ n) _ (ρ n) = _
    rw [upd_same]
    rfl
  | dt kvs =>
    cases hl
    have c : H (ρ n) = some (.frz (odSet G.od (ρ n) o (ρ n)) (.dT (imDt G ρ kvs))) := (R.o n _ h).2.2
    rw [show odSet G.od (ρ n) o (ρ n) = o from if_pos rfl] at c
    refine ⟨c, fin (ne rfl rfl) (R.write (ob' := .dt kvs) h rfl rfl (R.o n _ h).2.1 ?_)⟩
    show upd H (ρ n) _ (ρ n) = _
    rw [upd_same]
    rfl
  | _ => cases hl
theorem hoO_ex (x : Ex ρ nx ρ' nx') : ∀ {ob : MObj}, okO nx ob → hoO G ρ' ob = hoO G ρ ob
  | .dk kvs, h => by show HO.dK _ = HO.dK _; rw [imD_ex x h]
  | .dt kvs, h => by show HO.dT _ = HO.dT _; rw [imDt_ex x h]
  | .lst _, _ => rfl
  | .tup _, _ => rfl
  | .ktup _, _ => rfl
  | .dkL _, _ => rfl
  | .dtL _, _ => rfl
  | .ins _ _, _ => rfl
  | .xd _, _ => rfl
end
/-- the end of a locked statement -/
def unlk (n : Nat) (ob ol : MObj) (M : MS) (k : MS → SOut) : SOut := match M.get n with
  | some (.dkL kvs) => (match ol with
    | .dkL kvs' => (match decide (kvs = kvs') with
      | true => k (M.put n ob)
      | false => .bad)
    | _ => .bad)
  | some (.dtL kvs) => (match ol with
    | .dtL kvs' => (match decide (kvs = kvs') with
      | true => k (M.put n ob)
      | false => .bad)
    | _ => .bad)
  | _ => .bad
def unlkE {α : Type} (n : Nat) (ob ol : MObj) (M : MS) (k : MS → Out α) : Out α := match M.get n with
  | some (.dkL kvs) => (match ol with
    | .dkL kvs' => (match decide (kvs = kvs') with
      | true => k (M.put n ob)
      | false => .bad)
    | _ => .bad)
  | some (.dtL kvs) => (match ol with
    | .dtL kvs' => (match decide (kvs = kvs') with
      | true => k (M.put n ob)
      | false => .bad)
    | _ => .bad)
  | _ => .bad
section
variable {G : Cfg} {W : WX} {ρ : Nat → Addr} {nx : Nat} {σ : L2.St}
theorem unlk_inv {n : Nat} {ob ol : MObj} {M : MS} {k : MS → SOut} {D : Ends} (p : PoS G ρ nx W (unlk n ob ol M k) D) : M.get n = some ol ∧ PoS G ρ nx W (k (M.put n ob)) D := by
  unfold unlk at p
  cases q : M.get n with
  | none => rw [q] at p; exact p.elim
  | some o =>
    rw [q] at p
    cases o with
    | dkL kvs =>
      dsimp only at p
      cases ol with
      | dkL kvs' =>
        dsimp only at p
        by_cases z : kvs = kvs'
        · rw [decide_eq_true z] at p
          exact ⟨by rw [z], p⟩
        · rw [decide_eq_false z] at p; exact p.elim
      | _ => exact p.elim
    | dtL kvs =>
      dsimp only at p
      cases ol with
      | dtL kvs' =>
        dsimp only at p
        by_cases z : kvs = kvs'
        · rw [decide_eq_true z] at p
          exact ⟨by rw [z], p⟩
        · rw [decide_eq_false z] at p; exact p.elim
      | _ => exact p.elim
    | _ => exact p.elim
theorem unlkE_inv {α β : Type} {ok : Nat → α → Prop} {img : (Nat → Addr) → α → β} {n : Nat} {ob ol : MObj} {M : MS} {k : MS → Out α} {Q : β → Hp → Prop} (p : Po G ρ nx W ok img σ (unlkE n ob ol M k) Q) : M.get n = some ol ∧ Po G ρ nx W ok img σ (k (M.put n ob)) Q := by
  unfold unlkE at p
  cases q : M.get n with
  | none => rw [q] at p; exact p.elim
  | some o =>
    rw [q] at p
    cases o with
    | dkL kvs =>
      dsimp only at p
      cases ol with
      | dkL kvs' =>
        dsimp only at p
        by_cases z : kvs = kvs'
        · rw [decide_eq_true z] at p
          exact ⟨by rw [z], p⟩
        · rw [decide_eq_false z] at p; exact p.elim
      | _ => exact p.elim
    | dtL kvs =>
      dsimp only at p
      cases ol with
      | dtL kvs' =>
        dsimp only at p
        by_cases z : kvs = kvs'
        · rw [decide_eq_true z] at p
          exact ⟨by rw [z], p⟩
        · rw [decide_eq_false z] at p; exact p.elim
      | _ => exact p.elim
    | _ => exact p.elim
end
/-- a statement while the dict that d gives is locked -/
def mLockS (d : MX) (s : MSt) : MSt := fun e M => match d e M with
  | .ok (.ref n) _ => (match M.get n with
    | some ob => (match lkO ob with
      | some ol => (match s e (M.put n ol) with
        | .nx e M => unlk n ob ol M (.nx e)
        | .rt v M => unlk n ob ol M (.rt v)
        | .bk e M => unlk n ob ol M (.bk e)
        | .ct e M => unlk n ob ol M (.ct e)
        | _ => .bad)
      | none => .bad)
    | none => .bad)
  | _ => .bad
def mLockE (d : MX) (s : MX) : MX := fun e M => match d e M with
  | .ok (.ref n) _ => (match M.get n with
    | some ob => (match lkO ob with
      | some ol => (match s e (M.put n ol) with
        | .ok v M => unlkE n ob ol M (.ok v)
        | _ => .bad)
      | none => .bad)
    | none => .bad)
  | _ => .bad
section
variable {X : Cx} {G : Cfg} {W : WX}
theorem put_nx {M : MS} {n : Nat} {ob : MObj} : (M.put n ob).nx = M.nx := rfl
theorem rs_lock {st : Stmt} {d : MX} {ms : MSt} (h : ∀ od, RS X (G.wod od) W st ms) : RS X G W st (mLockS d ms) := by
  have h1 : PS X st (fun D σ H => ∃ od, SS (G.wod od) W ms D σ H) := ⟨fun pins s σ H D I ⟨od, w⟩ => (h od).run pins s σ H D I w⟩
  refine PS.imp (ps_lock h1) fun D σ H ⟨ρ, M, e, R, E, p⟩ => ?_
  unfold mLockS at p
  cases q : d e M with
  | ok v M0 =>
    rw [q] at p
    cases v with
    | ref n =>
      dsimp only at p
      cases q1 : M.get n with
      | none => rw [q1] at p; exact p.elim
      | some ob =>
        rw [q1] at p
        dsimp only at p
        cases q2 : lkO ob with
        | none => rw [q2] at p; exact p.elim
        | some ol =>
          rw [q2] at p
          dsimp only at p
          obtain ⟨hn, ho, _⟩ := R.o n ob q1
          refine ⟨ρ n, hoO G ρ ob, (R.lock q1 q2 (G.od G.scr)).1, (R.lock q1 q2 ((G.od G.scr))).2.1, fun od => ?_⟩
          obtain ⟨_, _, R1⟩ := R.lock q1 q2 od
          refine ⟨odSet G.od (ρ n) od, ρ, M.put n ol, e, R1, E, ?_⟩
          cases q3 : ms e (M.put n ol) with
          | nx e' M' =>
            rw [q3] at p
            obtain ⟨g, p1⟩ := unlk_inv p
            intro ρ' H' σ' x R' E'
            obtain ⟨c, R2⟩ := R'.unlock (G := G) (x.2 n hn) g q2
            rw [hoO_ex x ho] at c R2
            exact ⟨c, p1 ρ' _ σ' x R2 E'⟩
          | rt v' M' =>
            rw [q3] at p
            obtain ⟨g, p1⟩ := unlk_inv p
            intro ρ' H' x R' o'
            obtain ⟨c, R2⟩ := R'.unlock (G := G) (x.2 n hn) g q2
            rw [hoO_ex x ho] at c R2
            exact ⟨c, p1 ρ' _ x R2 o'⟩
          | bk e' M' =>
            rw [q3] at p
            obtain ⟨g, p1⟩ := unlk_inv p
            intro ρ' H' σ' x R' E'
            obtain ⟨c, R2⟩ := R'.unlock (G := G) (x.2 n hn) g q2
            rw [hoO_ex x ho] at c R2
            exact ⟨c, p1 ρ' _ σ' x R2 E'⟩
          | ct e' M' =>
            rw [q3] at p
            obtain ⟨g, p1⟩ := unlk_inv p
            intro ρ' H' σ' x R' E'
            obtain ⟨c, R2⟩ := R'.unlock (G := G) (x.2 n hn) g q2
            rw [hoO_ex x ho] at c R2
            exact ⟨c, p1 ρ' _ σ' x R2 E'⟩
          | ex _ _ _ => rw [q3] at p; exact p.elim
          | bad => rw [q3] at p; exact p.elim
    | _ => exact p.elim
  | ex _ _ => rw [q] at p; exact p.elim
  | bad => rw [q] at p; exact p.elim
theorem re_lock {st : Expr} {d : MX} {ms : MX} (h : ∀ od, RE X (G.wod od) W st ms) : RE X G W st (mLockE d ms) := by
  have h1 : PE X st (fun σ H Q => ∃ od, SE (G.wod od) W ms σ H Q) := ⟨fun pins s σ H D I ⟨od, w⟩ => (h od).run pins s σ H D I w⟩
  refine PE.imp (pe_lock h1) fun σ H Q ⟨ρ, M, e, R, E, p⟩ => ?_
  unfold mLockE at p
  cases q : d e M with
  | ok v M0 =>
    rw [q] at p
    cases v with
    | ref n =>
      dsimp only at p
      cases q1 : M.get n with
      | none => rw [q1] at p; exact p.elim
      | some ob =>
        rw [q1] at p
        dsimp only at p
        cases q2 : lkO ob with
        | none => rw [q2] at p; exact p.elim
        | some ol =>
          rw [q2] at p
          dsimp only at p
          obtain ⟨hn, ho, _⟩ := R.o n ob q1
          refine ⟨ρ n, hoO G ρ ob, (R.lock q1 q2 (G.od G.scr)).1, (R.lock q1 q2 ((G.od G.scr))).2.1, fun od => ?_⟩
          obtain ⟨_, _, R1⟩ := R.lock q1 q2 od
          refine ⟨odSet G.od (ρ n) od, ρ, M.put n ol, e, R1, E, ?_⟩
          cases q3 : ms e (M.put n ol) with
          | ok v' M' =>
            rw [q3] at p
            obtain ⟨g, p1⟩ := unlkE_inv p
            intro ρ' H' x R' o'
            obtain ⟨c, R2⟩ := R'.unlock (G := G) (x.2 n hn) g q2
            rw [hoO_ex x ho] at c R2
            exact ⟨c, p1 ρ' _ x R2 o'⟩
          | ex _ _ => rw [q3] at p; exact p.elim
          | bad => rw [q3] at p; exact p.elim
    | _ => exact p.elim
  | ex _ _ => rw [q] at p; exact p.elim
  | bad => rw [q] at p; exact p.elim
end
end PM
end
noncomputable section
namespace PM
open PySem PySem.Spec PyProof.Rows L2
/-! ## comprehensions -/
theorem wipe_get (σ : L2.St) (j : Nat) : ∀ vs : List Nat, (wipe σ vs)[j]? = if j ∈ vs ∧ j < σ.length then some none else σ[j]?
  | [] => by
    rw [if_neg (fun h => nomatch h.1)]
    rfl
  | v :: vs => by
    show ((wipe σ vs).set v none)[j]? = _
    by_cases z : v = j
    · subst z
      by_cases h : v < σ.length
      · rw [List.getElem?_set_self (by rw [wipe_length]; exact h), if_pos ⟨List.mem_cons_self, h⟩]
      · rw [List.getElem?_eq_none (by rw [List.length_set, wipe_length]; omega), if_neg (fun k => h k.2), List.getElem?_eq_none (by omega)]
    · rw [List.getElem?_set_ne z, wipe_get σ j vs]
      by_cases h : j ∈ vs ∧ j < σ.length
      · rw [if_pos h, if_pos ⟨List.mem_cons_of_mem _ h.1, h.2⟩]
      · rw [if_neg h, if_neg (fun k => h ⟨(List.mem_cons.mp k.1).resolve_left (Ne.symm z), k.2⟩)]
theorem wipe_set {σ : L2.St} {i : Nat} {v : Option V} {vs : List Nat} (h : i ∈ vs) : wipe (σ.set i v) vs = wipe σ vs := by
  apply List.ext_getElem?
  intro j
  rw [wipe_get, wipe_get, List.length_set]
  by_cases k : j ∈ vs ∧ j < σ.length
  · rw [if_pos k, if_pos k]
  · rw [if_neg k, if_neg k]
    by_cases z : i = j
    · subst z
      have k2 : ¬ i < σ.length := fun q => k ⟨h, q⟩
      rw [List.getElem?_eq_none (by rw [List.length_set]; omega), List.getElem?_eq_none (by omega)]
    · rw [List.getElem?_set_ne z]
theorem wipe_wipe {σ : L2.St} {vs : List Nat} : wipe (wipe σ vs) vs = wipe σ vs := by
  apply List.ext_getElem?
  intro j
  rw [wipe_get, wipe_length]
  by_cases k : j ∈ vs ∧ j < σ.length
  · rw [if_pos k, wipe_get, if_pos k]
  · rw [if_neg k]
def wipeE (e : Env) : List Nat → Env
  | [] => e
  | v :: vs => (wipeE e vs).set v none
theorem REnv.wipe {G : Cfg} {ρ : Nat → Addr} {nx : Nat} {σ : L2.St} {e : Env} (h : REnv G ρ nx σ e) : ∀ vs : List Nat, REnv G ρ nx (wipe σ vs) (wipeE e vs)
  | [] => h
  | v :: vs => (REnv.wipe h vs).unset v none
/-- targets of own names -/
inductive TgD where
  | one (i : Nat) | tup (is : List Nat)
def gNames : List Nat → TGs
  | [] => gNil
  | i :: is => gCons (gName i) (gNames is)
def gNamesM : List Nat → List MV → Env → MS → SOut
  | [] => gNone
  | i :: is => gAnd (gNm i) (gNamesM is)
def TgD.ixs : TgD → List Nat
  | .one i => [i]
  | .tup is => is
def TgD.tg (K : PySem.W.Frag) : TgD → TG
  | .one i => gName i
  | .tup is => gTup K is.length (gNames is)
def TgD.mg : TgD → MG
  | .one i => gNm i
  | .tup is => gTupM is.length (gNamesM is)
section
variable {G : Cfg} {W : WX} {ρ : Nat → Addr} {M : MS} {H : Hp}
def TgEnd (G : Cfg) (ρ : Nat → Addr) (M : MS) (vs : List Nat) (σ : L2.St) (H : Hp) (c : (L2.St → Hp → Prop) → Prop) : SOut → Prop
  | .nx e' M' => M' = M ∧ ∀ Q : L2.St → Hp → Prop, (∀ σ', wipe σ' vs = wipe σ vs → REnv G ρ M.nx σ' e' → Q σ' H) → c Q
  | .bad => True
  | _ => False
theorem gNames_ok {vs : List Nat} : ∀ {is : List Nat} (hm : ∀ i ∈ is, i ∈ vs) {us : List MV} {σ : L2.St} {e : Env} (R : Rl G ρ M H) (E : REnv G ρ M.nx σ e) (ou : okVs M.nx us), TgEnd G ρ M vs σ H (fun Q => gNames is (ims G ρ us) σ H Q) (gNamesM is us e M)
  | [], _, [], σ, e, R, E, ou => ⟨rfl, fun Q q => ⟨rfl, q σ rfl E⟩⟩
  | [], _, _ :: _, _, _, _, _, _ => trivial
  | i :: is, _, [], _, _, _, _, _ => trivial
  | i :: is, hm, u :: us, σ, e, R, E, ou => by
    have ih := gNames_ok (is := is) (fun j hj => hm j (List.mem_cons_of_mem _ hj)) (us := us) R (E.set i (ou u List.mem_cons_self)) (fun w hw => ou w (List.mem_cons_of_mem _ hw))
    show TgEnd _ _ _ _ _ _ _ (gNamesM is us (e.set i (some u)) M)
    cases q : gNamesM is us (e.set i (some u)) M with
    | nx e' M' =>
      rw [q] at ih
      exact ⟨ih.1, fun Q k => ⟨_, _, rfl, ih.2 Q fun σ' w E' => k σ' (w.trans (wipe_set (hm i List.mem_cons_self))) E'⟩⟩
    | bad => trivial
    | rt _ _ => rw [q] at ih; exact ih
    | bk _ _ => rw [q] at ih; exact ih
    | ct _ _ => rw [q] at ih; exact ih
    | ex _ _ _ => rw [q] at ih; exact ih
theorem TgD.ok {vs : List Nat} {σ : L2.St} {e : Env} (R : Rl G ρ M H) (E : REnv G ρ M.nx σ e) {u : MV} (ou : okV M.nx u) : ∀ {d : TgD} (hm : ∀ i ∈ d.ixs, i ∈ vs), TgEnd G ρ M vs σ H (fun Q => d.tg G.K (im G ρ u) σ H Q) (d.mg u e M)
  | .one i, hm => ⟨rfl, fun Q k => k _ (wipe_set (hm i List.mem_cons_self)) (E.set i ou)⟩
  | .tup is, hm => by
    show TgEnd _ _ _ _ _ _ _ (gTupM is.length (gNamesM is) u e M)
    unfold gTupM
    cases u with
    | ref m =>
      dsimp only
      cases q : tupOf (M.get m) with
      | none => trivial
      | some xs =>
        dsimp only
        by_cases z : xs.length = is.length
        · rw [if_pos z]
          obtain ⟨c, k⟩ := R.tup q
          have ih := gNames_ok (vs := vs) (is := is) hm R E k
          cases q2 : gNamesM is xs e M with
          | nx e' M' =>
            rw [q2] at ih
            exact ⟨ih.1, fun Q w => ⟨ρ m, _, rfl, c, by rw [List.length_map]; exact z, ih.2 Q w⟩⟩
          | bad => trivial
          | rt _ _ => rw [q2] at ih; exact ih
          | bk _ _ => rw [q2] at ih; exact ih
          | ct _ _ => rw [q2] at ih; exact ih
          | ex _ _ _ => rw [q2] at ih; exact ih
        · rw [if_neg z]; trivial
    | _ => trivial
/-- no wish: nothing may be raised -/
def WF : WX := fun _ _ _ _ => False
def mYes : MT := fun _ M => .ok true M
theorem PTs.imp {X : Cx} {ifs : List Expr} {t t' : TT} (h : PTs X ifs t) (i : ∀ σ H Q, t' σ H Q → t σ H Q) : PTs X ifs t' := ⟨fun pins s σ H R I w => h.run pins s σ H R I (i σ H R w)⟩
theorem rts_nil {X : Cx} : PTs X [] (ST G WF mYes) := PTs.imp pts_nil fun σ H Q ⟨ρ, M, e, R, E, p⟩ => p ρ H Ex.refl R trivial
theorem rts_one {X : Cx} {c : Expr} {t : MT} (h : RT X G WF c t) : PTs X [c] (ST G WF t) := pts_one h
/-- a new list's next item -/
def appL (n : Nat) (v : MV) (M : MS) (k : MS → Out MV) : Out MV := match M.get n with
  | some (.lst xs) => guardO (decide (xs.length < CAP)) (k (M.put n (.lst (xs ++ [v]))))
  | _ => .bad
def mInN (mi : MI) (d : TgD) (t : MT) (el : MX) (e0 : Env) (n : Nat) (k : MS → Out MV) : Nat → Nat → MS → Out MV
  | 0, _, _ => .bad
  | m + 1, i, M => match mi.step i M with
    | .stop => k M
    | .bad => .bad
    | .yld v M => (match d.mg v e0 M with
      | .nx e M => (match t e M with
        | .ok true M => (match el e M with
          | .ok y M => appL n y M fun M => mInN mi d t el e0 n k m (i + 1) M
          | _ => .bad)
        | .ok false M => mInN mi d t el e0 n k m (i + 1) M
        | _ => .bad)
      | _ => .bad)
theorem appL_inv {σ : L2.St} {nx n : Nat} {v : MV} {k : MS → Out MV} {Q : VK} (p : PoE G ρ nx W σ (appL n v M k) Q) : ∃ xs, M.get n = some (.lst xs) ∧ xs.length < CAP ∧ PoE G ρ nx W σ (k (M.put n (.lst (xs ++ [v])))) Q := by
  unfold appL at p
  cases q : M.get n with
  | none => rw [q] at p; exact p.elim
  | some ob =>
    rw [q] at p
    cases ob with
    | lst xs =>
      obtain ⟨h, p⟩ := guardO_inv p
      exact ⟨xs, rfl, of_decide_eq_true h, p⟩
    | _ => exact p.elim
theorem in_ok {mi : MI} {J : It} {d : TgD} {t : MT} {el : MX} {vs : List Nat} {n D : Nat} {k : MS → Out MV} {σ0 σ : L2.St} {e : Env} {Q : VK} {S : Hp → Prop} {m0 : Nat} (hd : ∀ i ∈ d.ixs, i ∈ vs)
    (R : Rl G ρ M H) (E : REnv G ρ M.nx σ e) (r : RI G ρ M.nx mi J) (hD : ρ n = D) (hn : n < M.nx) (p : PoE G ρ M.nx W σ0 (mInN mi d t el (wipeE e vs) n k m0 0 M) Q)
    (hk : ∀ ρ' M' H', Ex ρ M.nx ρ' M'.nx → Rl G ρ' M' H' → PoE G ρ' M'.nx W σ0 (k M') Q → S H') :
    ∃ Wv : Nat → Nat → Hp → Prop, (∃ m, Wv 0 m H) ∧ ∀ i m H, Wv i m H → (J.stop i H ∧ S H) ∨ (J.go i H ∧ ∃ Nx : Hp → Prop, (∀ H', Nx H' → ∃ m', m' < m ∧ Wv (i + 1) m' H') ∧
      ∀ x H', J.yld i H x H' → d.tg G.K x (wipe σ vs) H' fun σ2 H2 => wipe σ2 vs = wipe σ vs ∧ ST G WF t σ2 H2 fun b H3 =>
        if b = true then SE G WF el σ2 H3 fun y H4 => ∃ acc, H4 D = some (.lst acc) ∧ acc.length < sizeLine ∧ Nx (upd H4 D (.lst (acc ++ [y]))) else Nx H3) := by
  refine ⟨fun i m H' => ∃ ρ' M', Ex ρ M.nx ρ' M'.nx ∧ Rl G ρ' M' H' ∧ RI G ρ' M'.nx mi J ∧ PoE G ρ' M'.nx W σ0 (mInN mi d t el (wipeE e vs) n k m i M') Q, ⟨m0, ρ, M, Ex.refl, R, r, p⟩, fun i m H1 h => ?_⟩
  obtain ⟨ρ1, M1, x1, R1, r1, p1⟩ := h
  cases m with
  | zero => exact p1.elim
  | succ m =>
    have so := MI.step_ok R1 i r1
    unfold mInN at p1
    cases q2 : mi.step i M1 with
    | bad => rw [q2] at p1; exact p1.elim
    | stop =>
      rw [q2] at p1 so
      exact .inl ⟨so, hk ρ1 M1 H1 x1 R1 p1⟩
    | yld v M2 =>
      rw [q2] at p1 so
      refine .inr ⟨so.1, fun H' => ∃ ρ' M', Ex ρ M.nx ρ' M'.nx ∧ Rl G ρ' M' H' ∧ RI G ρ' M'.nx mi J ∧ PoE G ρ' M'.nx W σ0 (mInN mi d t el (wipeE e vs) n k m (i + 1) M') Q, fun H' h' => ⟨m, Nat.lt_succ_self m, h'⟩, fun x' H' y' => ?_⟩
      obtain ⟨ρ2, x2, R2, o2, rfl⟩ := so.2 x' H' y'
      have p2 := Po.mono x2 p1
      have r2 := r1.mono x2
      have x12 := x1.trans x2
      have tg := TgD.ok (vs := vs) R2 ((E.mono x12).wipe vs) o2 hd
      dsimp only at p2
      cases q3 : d.mg v (wipeE e vs) M2 with
      | nx e3 M3 =>
        rw [q3] at p2 tg
        obtain ⟨rfl, tq⟩ := tg
        refine tq _ fun σ2 w2 E2 => ⟨w2.trans wipe_wipe, ρ2, M3, e3, R2, E2, ?_⟩
        dsimp only at p2
        cases q4 : t e3 M3 with
        | ok b M4 =>
          rw [q4] at p2
          intro ρ4 H4 x4 R4 _
          have p4 := Po.mono x4 p2
          have r4 := r2.mono x4
          have E4 := E2.mono x4
          have x14 := x12.trans x4
          cases b with
          | false => exact ⟨ρ4, M4, x14, R4, r4, p4⟩
          | true =>
            rw [if_pos rfl]
            refine ⟨ρ4, M4, e3, R4, E4, ?_⟩
            dsimp only at p4
            cases q5 : el e3 M4 with
            | ok y M5 =>
              rw [q5] at p4
              intro ρ5 H5 x5 R5 o5
              have p5 := Po.mono x5 p4
              have x15 := x14.trans x5
              obtain ⟨xs, g1, g2, p6⟩ := appL_inv p5
              obtain ⟨c1, c2⟩ := R5.lst g1
              have eD : ρ5 n = D := (x15.2 n hn).trans hD
              rw [eD] at c1
              refine ⟨_, c1, by rw [List.length_map]; exact cap_line g2, ρ5, M5.put n (.lst (xs ++ [y])), x15, ?_, r4.mono x5, p6⟩
              have R6 := R5.setL g1 (ys := xs ++ [y]) fun w hw => (List.mem_append.mp hw).elim (c2 w) fun z => by
                rw [List.mem_singleton.mp z]; exact o5
              rw [eD, show ims G ρ5 (xs ++ [y]) = ims G ρ5 xs ++ [im G ρ5 y] by exact List.map_append] at R6
              exact R6
            | ex _ _ => rw [q5] at p4; exact p4.elim
            | bad => rw [q5] at p4; exact p4.elim
        | ex _ _ => rw [q4] at p2; exact p2.elim
        | bad => rw [q4] at p2; exact p2.elim
      | bad => rw [q3] at p2; exact p2.elim
      | rt _ _ => rw [q3] at p2; exact p2.elim
      | bk _ _ => rw [q3] at p2; exact p2.elim
      | ct _ _ => rw [q3] at p2; exact p2.elim
      | ex _ _ _ => rw [q3] at p2; exact p2.elim
end
def itE {α : Type} (o : Out MI) (k : MI → MS → Out α) : Out α := match o with
  | .ok a M => k a M
  | .ex x M => .ex x M
  | .bad => .bad
def mLc (it : MIt) (d : TgD) (vs : List Nat) (t : MT) (el : MX) : MX := fun e M => itE (it e M) fun mi M => M.new (.lst []) fun n M => mInN mi d t el (wipeE e vs) n (fun M => .ok (.ref n) M) FUEL 0 M
section
variable {X : Cx} {G : Cfg} {W : WX} {σ : L2.St} {H : Hp} {Q : VK}
theorem lc_at {it : MIt} {d : TgD} {vs : List Nat} {t : MT} {el : MX} (hd : ∀ i ∈ d.ixs, i ∈ vs) (h : SE G W (mLc it d vs t el) σ H Q) : tLc (SIt G W it) (d.tg G.K) (ST G WF t) (SE G WF el) vs σ H Q := by
  obtain ⟨ρ, M, e, R, E, p⟩ := h
  refine ⟨ρ, M, e, R, E, ?_⟩
  unfold mLc at p
  cases q : it e M with
  | ex x M1 => rw [q] at p; exact p
  | bad => rw [q] at p; exact p
  | ok mi M1 =>
    rw [q] at p
    intro ρ1 H1 J x R1 r1 D hD
    dsimp only [itE] at p
    have p1 := Po.mono x p
    obtain ⟨M2, e2, R2, x2, p2⟩ := new_lst (Q := Q) R1 p1 (fun w hw => absurd hw (List.not_mem_nil)) hD
    refine in_ok hd R2 (E.mono (x.trans x2)) (r1.mono x2) (D := D) (if_pos rfl) (by omega) p2 fun ρ' M' H' x' R' p' => ?_
    have o' : M1.nx < M'.nx := Nat.lt_of_lt_of_le (by omega) x'.1
    have q' := p' ρ' H' Ex.refl R' o'
    rw [show im G ρ' (.ref M1.nx) = V.ref D from congrArg V.ref ((x'.2 M1.nx (by omega)).trans (if_pos rfl))] at q'
    exact q'
theorem re_lc {elt tg iter : Expr} {ifs : List Expr} {scope : Scope} {own : List (Str × Nat)} {pos : Pos} {it : MIt} {d : TgD} {t : MT} {el : MX} (vs : List Nat) (hc : X.calm = true) (hN : X.N.Nodup) (hi : RIt X G W tg iter it) (ok : BlkOk X.N X.env.scope scope own) (hv : own.map (·.2) = vs) (hd : ∀ i ∈ d.ixs, i ∈ vs)
    (hg : ∀ (s : Shared) (H : Hp) (C : Addr) (cl : List (Str × Addr)) (fp : List Addr), PG (X.blk s H scope (compEnvC scope cl C X.env) fp) tg (d.tg G.K))
    (ht : ∀ (s : Shared) (H : Hp) (C : Addr) (cl : List (Str × Addr)) (fp : List Addr), PTs (X.blk s H scope (compEnvC scope cl C X.env) fp) ifs (ST G WF t))
    (he : ∀ (s : Shared) (H : Hp) (C : Addr) (cl : List (Str × Addr)) (fp : List Addr), RE (X.blk s H scope (compEnvC scope cl C X.env) fp) G WF elt el) (hs : ∀ x, foldedSetIterable iter X.env x = pure x := by intro _; rfl) :
    RE X G W (.ListComp elt [⟨tg, iter, ifs, 0⟩] scope pos) (mLc it d vs t el) :=
  PE.imp (pe_lc hc hN hi ok hg ht he hs) fun σ H Q h => by rw [hv]; exact lc_at hd h
theorem rs_setLc {i : Nat} {y : Str} {py : Pos} {elt tg iter : Expr} {ifs : List Expr} {scope : Scope} {own : List (Str × Nat)} {pos spos : Pos} {it : MIt} {d : TgD} {t : MT} {el : MX} (vs : List Nat) (hc : X.calm = true) (hN : X.N.Nodup) (hy : X.N[i]? = some y) (hyl : X.env.scope.names.lookup y = some .local)
    (hsw : swapsWith (.ListComp elt [⟨tg, iter, ifs, 0⟩] scope pos) (some (.Name y py)) spos.line X.env = pure true) (hi : RIt X G W tg iter it) (ok : BlkOk X.N X.env.scope scope own) (hv : own.map (·.2) = vs) (hd : ∀ i ∈ d.ixs, i ∈ vs)
    (hg : ∀ (s : Shared) (H : Hp) (C : Addr) (cl : List (Str × Addr)) (fp : List Addr), PG (X.blk s H scope (compEnvC scope cl C X.env) fp) tg (d.tg G.K))
    (ht : ∀ (s : Shared) (H : Hp) (C : Addr) (cl : List (Str × Addr)) (fp : List Addr), PTs (X.blk s H scope (compEnvC scope cl C X.env) fp) ifs (ST G WF t))
    (he : ∀ (s : Shared) (H : Hp) (C : Addr) (cl : List (Str × Addr)) (fp : List Addr), RE (X.blk s H scope (compEnvC scope cl C X.env) fp) G WF elt el) (hs : ∀ x, foldedSetIterable iter X.env x = pure x := by intro _; rfl) :
    RS X G W (.Assign [.Name y py] (.ListComp elt [⟨tg, iter, ifs, 0⟩] scope pos) spos) (mAsg (gNm i) (mLc it d vs t el)) :=
  PS.imp (ps_setLc hc hN hy hyl hsw hi ok hg ht he hs) fun D σ H ⟨ρ, M, e, R, E, p⟩ => by
    rw [hv]
    exact lc_at hd (se_atS R E p fun ρ M H v _ R o E p => p ρ H _ Ex.refl R (E.set i o))
/-! ### two clauses -/
def mOutN (mi : MI) (d : TgD) (t : MT) (it1 : MIt) (d1 : TgD) (vs1 : List Nat) (t1 : MT) (el : MX) (e0 : Env) (n : Nat) : Nat → Nat → MS → Out MV
  | 0, _, _ => .bad
  | m + 1, i, M => match mi.step i M with
    | .stop => .ok (.ref n) M
    | .bad => .bad
    | .yld v M => (match d.mg v e0 M with
      | .nx e M => (match t e M with
        | .ok true M => (match it1 e M with
          | .ok mi1 M => mInN mi1 d1 t1 el (wipeE e vs1) n (fun M => mOutN mi d t it1 d1 vs1 t1 el e0 n m (i + 1) M) FUEL 0 M
          | _ => .bad)
        | .ok false M => mOutN mi d t it1 d1 vs1 t1 el e0 n m (i + 1) M
        | _ => .bad)
      | _ => .bad)
def mLc2 (it : MIt) (d : TgD) (vs : List Nat) (t : MT) (it1 : MIt) (d1 : TgD) (vs1 : List Nat) (t1 : MT) (el : MX) : MX := fun e M => itE (it e M) fun mi M => M.new (.lst []) fun n M => mOutN mi d t it1 d1 vs1 t1 el (wipeE e vs) n FUEL 0 M
theorem lc2_at {it it1 : MIt} {d d1 : TgD} {vs vs1 : List Nat} {t t1 : MT} {el : MX} (hd : ∀ i ∈ d.ixs, i ∈ vs) (hd1 : ∀ i ∈ d1.ixs, i ∈ vs1) (h : SE G W (mLc2 it d vs t it1 d1 vs1 t1 el) σ H Q) : tLc2 (SIt G W it) (d.tg G.K) (ST G WF t) (SIt G WF it1) (d1.tg G.K) (ST G WF t1) (SE G WF el) vs vs1 σ H Q := by
  obtain ⟨ρ, M, e, R, E, p⟩ := h
  refine ⟨ρ, M, e, R, E, ?_⟩
  unfold mLc2 at p
  cases q : it e M with
  | ex x M1 => rw [q] at p; exact p
  | bad => rw [q] at p; exact p
  | ok mi M1 =>
    rw [q] at p
    intro ρ1 H1 J x R1 r1 D hD
    dsimp only [itE] at p
    have p1 := Po.mono x p
    obtain ⟨Ma, ea, Ra, xa, pa⟩ := new_lst (Q := Q) R1 p1 (fun w hw => absurd hw (List.not_mem_nil)) hD
    have Ea := E.mono (x.trans xa)
    have ra := r1.mono xa
    have hDa : bump ρ1 M1.nx D M1.nx = D := if_pos rfl
    have hna : M1.nx < Ma.nx := by omega
    generalize bump ρ1 M1.nx D = ρa at *
    refine ⟨fun i m H' => ∃ ρ' M', Ex ρa Ma.nx ρ' M'.nx ∧ Rl G ρ' M' H' ∧ RI G ρ' M'.nx mi J ∧ PoE G ρ' M'.nx W σ (mOutN mi d t it1 d1 vs1 t1 el (wipeE e vs) M1.nx m i M') Q, ⟨FUEL, ρa, Ma, Ex.refl, Ra, ra, pa⟩, fun i m H2 h => ?_⟩
    obtain ⟨ρ1, M1', x1, R1, r1, p1⟩ := h
    cases m with
    | zero => exact p1.elim
    | succ m =>
      have so := MI.step_ok R1 i r1
      unfold mOutN at p1
      cases q2 : mi.step i M1' with
      | bad => rw [q2] at p1; exact p1.elim
      | stop =>
        rw [q2] at p1 so
        refine .inl ⟨so, ?_⟩
        have q' := p1 ρ1 H2 Ex.refl R1 (Nat.lt_of_lt_of_le hna x1.1)
        rw [show im G ρ1 (.ref M1.nx) = V.ref D from congrArg V.ref ((x1.2 M1.nx hna).trans hDa)] at q'
        exact q'
      | yld v M2 =>
        rw [q2] at p1 so
        refine .inr ⟨so.1, fun H' => ∃ ρ' M', Ex ρa Ma.nx ρ' M'.nx ∧ Rl G ρ' M' H' ∧ RI G ρ' M'.nx mi J ∧ PoE G ρ' M'.nx W σ (mOutN mi d t it1 d1 vs1 t1 el (wipeE e vs) M1.nx m (i + 1) M') Q, fun H' h' => ⟨m, Nat.lt_succ_self m, h'⟩, fun x' H' y' => ?_⟩
        obtain ⟨ρ2, x2, R2, o2, rfl⟩ := so.2 x' H' y'
        have p2 := Po.mono x2 p1
        have r2 := r1.mono x2
        have x12 := x1.trans x2
        have tg := TgD.ok (vs := vs) R2 ((Ea.mono x12).wipe vs) o2 hd
        dsimp only at p2
        cases q3 : d.mg v (wipeE e vs) M2 with
        | nx e3 M3 =>
          rw [q3] at p2 tg
          obtain ⟨rfl, tq⟩ := tg
          refine tq _ fun σ2 w2 E2 => ⟨w2.trans wipe_wipe, ρ2, M3, e3, R2, E2, ?_⟩
          dsimp only at p2
          cases q4 : t e3 M3 with
          | ok b M4 =>
            rw [q4] at p2
            intro ρ4 H4 x4 R4 _
            have p4 := Po.mono x4 p2
            have r4 := r2.mono x4
            have E4 := E2.mono x4
            have x14 := x12.trans x4
            cases b with
            | false => exact ⟨ρ4, M4, x14, R4, r4, p4⟩
            | true =>
              rw [if_pos rfl]
              refine ⟨ρ4, M4, e3, R4, E4, ?_⟩
              dsimp only at p4
              cases q5 : it1 e3 M4 with
              | ok mi1 M5 =>
                rw [q5] at p4
                intro ρ5 H5 J1 x5 R5 r5
                have p5 := Po.mono x5 p4
                have x15 := x14.trans x5
                exact in_ok (n := M1.nx) hd1 R5 (E4.mono x5) r5 ((x15.2 _ hna).trans hDa) (Nat.lt_of_lt_of_le hna x15.1) p5 fun ρ' M' H' x' R' p' => ⟨ρ', M', x15.trans x', R', (r4.mono x5).mono x', p'⟩
              | ex _ _ => rw [q5] at p4; exact p4.elim
              | bad => rw [q5] at p4; exact p4.elim
          | ex _ _ => rw [q4] at p2; exact p2.elim
          | bad => rw [q4] at p2; exact p2.elim
        | bad => rw [q3] at p2; exact p2.elim
        | rt _ _ => rw [q3] at p2; exact p2.elim
        | bk _ _ => rw [q3] at p2; exact p2.elim
        | ct _ _ => rw [q3] at p2; exact p2.elim
        | ex _ _ _ => rw [q3] at p2; exact p2.elim
theorem re_lc2 {elt tg iter tg1 iter1 : Expr} {ifs ifs1 : List Expr} {scope : Scope} {own : List (Str × Nat)} {pos : Pos} {it it1 : MIt} {d d1 : TgD} {t t1 : MT} {el : MX} (vs vs1 : List Nat) (hc : X.calm = true) (hN : X.N.Nodup) (hi : RIt X G W tg iter it) (ok : BlkOk X.N X.env.scope scope own) (hv : own.map (·.2) = vs) (hv1 : ∀ i ∈ vs1, i ∈ vs) (hd : ∀ i ∈ d.ixs, i ∈ vs) (hd1 : ∀ i ∈ d1.ixs, i ∈ vs1)
    (hg : ∀ (s : Shared) (H : Hp) (C : Addr) (cl : List (Str × Addr)) (fp : List Addr), PG (X.blk s H scope (compEnvC scope cl C X.env) fp) tg (d.tg G.K))
    (ht : ∀ (s : Shared) (H : Hp) (C : Addr) (cl : List (Str × Addr)) (fp : List Addr), PTs (X.blk s H scope (compEnvC scope cl C X.env) fp) ifs (ST G WF t))
    (hi1 : ∀ (s : Shared) (H : Hp) (C : Addr) (cl : List (Str × Addr)) (fp : List Addr), RIt (X.blk s H scope (compEnvC scope cl C X.env) fp) G WF tg1 iter1 it1)
    (hg1 : ∀ (s : Shared) (H : Hp) (C : Addr) (cl : List (Str × Addr)) (fp : List Addr), PG (X.blk s H scope (compEnvC scope cl C X.env) fp) tg1 (d1.tg G.K))
    (ht1 : ∀ (s : Shared) (H : Hp) (C : Addr) (cl : List (Str × Addr)) (fp : List Addr), PTs (X.blk s H scope (compEnvC scope cl C X.env) fp) ifs1 (ST G WF t1))
    (he : ∀ (s : Shared) (H : Hp) (C : Addr) (cl : List (Str × Addr)) (fp : List Addr), RE (X.blk s H scope (compEnvC scope cl C X.env) fp) G WF elt el) (hs : ∀ x, foldedSetIterable iter X.env x = pure x := by intro _; rfl) (hs1 : ∀ env x, foldedSetIterable iter1 env x = pure x := by intro _ _; rfl) :
    RE X G W (.ListComp elt [⟨tg, iter, ifs, 0⟩, ⟨tg1, iter1, ifs1, 0⟩] scope pos) (mLc2 it d vs t it1 d1 vs1 t1 el) :=
  PE.imp (pe_lc2 (vs1 := vs1) hc hN hi ok (by rw [hv]; exact hv1) hg ht hi1 hg1 ht1 he hs hs1) fun σ H Q h => by rw [hv]; exact lc2_at hd hd1 h
theorem rs_setLc2 {i : Nat} {y : Str} {py : Pos} {elt tg iter tg1 iter1 : Expr} {ifs ifs1 : List Expr} {scope : Scope} {own : List (Str × Nat)} {pos spos : Pos} {it it1 : MIt} {d d1 : TgD} {t t1 : MT} {el : MX} (vs vs1 : List Nat) (hc : X.calm = true) (hN : X.N.Nodup) (hy : X.N[i]? = some y) (hyl : X.env.scope.names.lookup y = some .local)
    (hsw : swapsWith (.ListComp elt [⟨tg, iter, ifs, 0⟩, ⟨tg1, iter1, ifs1, 0⟩] scope pos) (some (.Name y py)) spos.line X.env = pure true) (hi : RIt X G W tg iter it) (ok : BlkOk X.N X.env.scope scope own) (hv : own.map (·.2) = vs) (hv1 : ∀ i ∈ vs1, i ∈ vs) (hd : ∀ i ∈ d.ixs, i ∈ vs) (hd1 : ∀ i ∈ d1.ixs, i ∈ vs1)
    (hg : ∀ (s : Shared) (H : Hp) (C : Addr) (cl : List (Str × Addr)) (fp : List Addr), PG (X.blk s H scope (compEnvC scope cl C X.env) fp) tg (d.tg G.K))
    (ht : ∀ (s : Shared) (H : Hp) (C : Addr) (cl : List (Str × Addr)) (fp : List Addr), PTs (X.blk s H scope (compEnvC scope cl C X.env) fp) ifs (ST G WF t))
    (hi1 : ∀ (s : Shared) (H : Hp) (C : Addr) (cl : List (Str × Addr)) (fp : List Addr), RIt (X.blk s H scope (compEnvC scope cl C X.env) fp) G WF tg1 iter1 it1)
    (hg1 : ∀ (s : Shared) (H : Hp) (C : Addr) (cl : List (Str × Addr)) (fp : List Addr), PG (X.blk s H scope (compEnvC scope cl C X.env) fp) tg1 (d1.tg G.K))
    (ht1 : ∀ (s : Shared) (H : Hp) (C : Addr) (cl : List (Str × Addr)) (fp : List Addr), PTs (X.blk s H scope (compEnvC scope cl C X.env) fp) ifs1 (ST G WF t1))
    (he : ∀ (s : Shared) (H : Hp) (C : Addr) (cl : List (Str × Addr)) (fp : List Addr), RE (X.blk s H scope (compEnvC scope cl C X.env) fp) G WF elt el) (hs : ∀ x, foldedSetIterable iter X.env x = pure x := by intro _; rfl) (hs1 : ∀ env x, foldedSetIterable iter1 env x = pure x := by intro _ _; rfl) :
    RS X G W (.Assign [.Name y py] (.ListComp elt [⟨tg, iter, ifs, 0⟩, ⟨tg1, iter1, ifs1, 0⟩] scope pos) spos) (mAsg (gNm i) (mLc2 it d vs t it1 d1 vs1 t1 el)) :=
  PS.imp (ps_setLc2 (vs1 := vs1) hc hN hy hyl hsw hi ok (by rw [hv]; exact hv1) hg ht hi1 hg1 ht1 he hs hs1) fun D σ H ⟨ρ, M, e, R, E, p⟩ => by
    rw [hv]
    exact lc2_at hd hd1 (se_atS R E p fun ρ M H v _ R o E p => p ρ H _ Ex.refl R (E.set i o))
/-! ### dicts -/
def putDC (n : Nat) (y v : MV) (M : MS) (k : MS → Out MV) : Out MV := match keyOf y with
  | some key => (match M.get n with
    | some (.dk kvs) => guardO (decide (kvs.length < CAP) && kvs.all fun p => cmpK p.1 key) (k (M.put n (.dk (aPut kvs key v))))
    | _ => .bad)
  | none => .bad
def mDcN (mi : MI) (d : TgD) (t : MT) (ky vl : MX) (e0 : Env) (n : Nat) : Nat → Nat → MS → Out MV
  | 0, _, _ => .bad
  | m + 1, i, M => match mi.step i M with
    | .stop => .ok (.ref n) M
    | .bad => .bad
    | .yld v M => (match d.mg v e0 M with
      | .nx e M => (match t e M with
        | .ok true M => (match ky e M with
          | .ok y M => (match vl e M with
            | .ok z M => putDC n y z M fun M => mDcN mi d t ky vl e0 n m (i + 1) M
            | _ => .bad)
          | _ => .bad)
        | .ok false M => mDcN mi d t ky vl e0 n m (i + 1) M
        | _ => .bad)
      | _ => .bad)
def mDc (it : MIt) (d : TgD) (vs : List Nat) (t : MT) (ky vl : MX) : MX := fun e M => itE (it e M) fun mi M => M.new (.dk []) fun n M => mDcN mi d t ky vl (wipeE e vs) n FUEL 0 M
theorem putDC_inv {ρ : Nat → Addr} {nx n : Nat} {y v : MV} {M : MS} {k : MS → Out MV} (p : PoE G ρ nx W σ (putDC n y v M k) Q) : ∃ key kvs, keyOf y = some key ∧ M.get n = some (.dk kvs) ∧ kvs.length < CAP ∧ (kvs.all fun p => cmpK p.1 key) = true ∧ PoE G ρ nx W σ (k (M.put n (.dk (aPut kvs key v)))) Q := by
  unfold putDC at p
  cases q1 : keyOf y with
  | none => rw [q1] at p; exact p.elim
  | some key =>
    rw [q1] at p
    dsimp only at p
    cases q : M.get n with
    | none => rw [q] at p; exact p.elim
    | some ob =>
      rw [q] at p
      cases ob with
      | dk kvs =>
        obtain ⟨h, p⟩ := guardO_inv p
        obtain ⟨h1, h2⟩ := Bool.and_eq_true_iff.mp h
        exact ⟨key, kvs, rfl, rfl, of_decide_eq_true h1, h2, p⟩
      | _ => exact p.elim
theorem dc_at {it : MIt} {d : TgD} {vs : List Nat} {t : MT} {ky vl : MX} (hd : ∀ i ∈ d.ixs, i ∈ vs) (h : SE G W (mDc it d vs t ky vl) σ H Q) : tDc (SIt G W it) (d.tg G.K) (ST G WF t) (SE G WF ky) (SE G WF vl) vs σ H Q := by
  obtain ⟨ρ, M, e, R, E, p⟩ := h
  refine ⟨ρ, M, e, R, E, ?_⟩
  unfold mDc at p
  cases q : it e M with
  | ex x M1 => rw [q] at p; exact p
  | bad => rw [q] at p; exact p
  | ok mi M1 =>
    rw [q] at p
    intro ρ1 H1 J x R1 r1 D hD
    dsimp only [itE] at p
    have p1 := Po.mono x p
    obtain ⟨g1, g2, pa⟩ := new_inv R1 p1
    have Ra := R1.newG (ob := .dk []) hD (fun q hq => nomatch hq) (same_upd hD) (H' := upd H1 D (.dK [])) (by
      show upd H1 D _ D = _
      rw [upd_same]
      rfl) g1 g2
    have xa : Ex ρ1 M1.nx (bump ρ1 M1.nx D) (M1.nx + 1) := Ex.bump
    have pa := Po.mono xa pa
    have Ea := E.mono (x.trans xa)
    have ra := r1.mono xa
    have hDa : bump ρ1 M1.nx D M1.nx = D := if_pos rfl
    generalize hMa : (MS.mk (M1.nx + 1) (M1.hp.set M1.nx (.dk []))) = Ma at *
    have hna : M1.nx < Ma.nx := by rw [← hMa]; exact Nat.lt_succ_self _
    have hnm : Ma.nx = M1.nx + 1 := by rw [← hMa]
    rw [← hnm] at pa Ea ra
    generalize bump ρ1 M1.nx D = ρa at *
    refine ⟨fun i m H' => ∃ ρ' M', Ex ρa Ma.nx ρ' M'.nx ∧ Rl G ρ' M' H' ∧ RI G ρ' M'.nx mi J ∧ PoE G ρ' M'.nx W σ (mDcN mi d t ky vl (wipeE e vs) M1.nx m i M') Q, ⟨FUEL, ρa, Ma, Ex.refl, Ra, ra, pa⟩, fun i m H2 h => ?_⟩
    obtain ⟨ρ1, M1', x1, R1, r1, p1⟩ := h
    cases m with
    | zero => exact p1.elim
    | succ m =>
      have so := MI.step_ok R1 i r1
      unfold mDcN at p1
      cases q2 : mi.step i M1' with
      | bad => rw [q2] at p1; exact p1.elim
      | stop =>
        rw [q2] at p1 so
        refine .inl ⟨so, ?_⟩
        have q' := p1 ρ1 H2 Ex.refl R1 (Nat.lt_of_lt_of_le hna x1.1)
        rw [show im G ρ1 (.ref M1.nx) = V.ref D from congrArg V.ref ((x1.2 M1.nx hna).trans hDa)] at q'
        exact q'
      | yld v M2 =>
        rw [q2] at p1 so
        refine .inr ⟨so.1, fun H' => ∃ ρ' M', Ex ρa Ma.nx ρ' M'.nx ∧ Rl G ρ' M' H' ∧ RI G ρ' M'.nx mi J ∧ PoE G ρ' M'.nx W σ (mDcN mi d t ky vl (wipeE e vs) M1.nx m (i + 1) M') Q, fun H' h' => ⟨m, Nat.lt_succ_self m, h'⟩, fun x' H' y' => ?_⟩
        obtain ⟨ρ2, x2, R2, o2, rfl⟩ := so.2 x' H' y'
        have p2 := Po.mono x2 p1
        have r2 := r1.mono x2
        have x12 := x1.trans x2
        have tg := TgD.ok (vs := vs) R2 ((Ea.mono x12).wipe vs) o2 hd
        dsimp only at p2
        cases q3 : d.mg v (wipeE e vs) M2 with
        | nx e3 M3 =>
          rw [q3] at p2 tg
          obtain ⟨rfl, tq⟩ := tg
          refine tq _ fun σ2 w2 E2 => ⟨w2.trans wipe_wipe, ρ2, M3, e3, R2, E2, ?_⟩
          dsimp only at p2
          cases q4 : t e3 M3 with
          | ok b M4 =>
            rw [q4] at p2
            intro ρ4 H4 x4 R4 _
            have p4 := Po.mono x4 p2
            have r4 := r2.mono x4
            have E4 := E2.mono x4
            have x14 := x12.trans x4
            cases b with
            | false => exact ⟨ρ4, M4, x14, R4, r4, p4⟩
            | true =>
              rw [if_pos rfl]
              refine ⟨ρ4, M4, e3, R4, E4, ?_⟩
              dsimp only at p4
              cases q5 : ky e3 M4 with
              | ok y M5 =>
                rw [q5] at p4
                intro ρ5 H5 x5 R5 o5
                have p5 := Po.mono x5 p4
                refine ⟨ρ5, M5, e3, R5, E4.mono x5, ?_⟩
                dsimp only at p5
                cases q6 : vl e3 M5 with
                | ok z M6 =>
                  rw [q6] at p5
                  intro ρ6 H6 x6 R6 o6
                  have p6 := Po.mono x6 p5
                  have x16 := (x14.trans x5).trans x6
                  obtain ⟨key, kvs, k1, g1, k2, k3, p7⟩ := putDC_inv p6
                  have c1 : H6 (ρ6 M1.nx) = some (.dK (imD G ρ6 kvs)) := (R6.o _ _ g1).2.2
                  have c2 : ∀ p ∈ kvs, okV M6.nx p.2 := (R6.o _ _ g1).2.1
                  have eD : ρ6 M1.nx = D := (x16.2 _ hna).trans hDa
                  rw [eD] at c1
                  have hk2 : ∀ p ∈ kvs, imK G p.1 = imK G key → p.1 = key := fun p hp => cmpK_ok (List.all_eq_true.mp k3 p hp)
                  refine ⟨imD G ρ6 kvs, imK G key, keyOf_im k1, c1, by rw [List.length_map]; exact cap_line k2, ρ6, M6.put M1.nx (.dk (aPut kvs key z)), x16, ?_, (r4.mono x5).mono x6, p7⟩
                  have R7 := R6.write (ob' := .dk (aPut kvs key z)) (u := .dK (putK (imD G ρ6 kvs) (imK G key) (im G ρ6 z))) g1 rfl rfl (fun p hp => (mem_aPut hp).elim (fun q => c2 p q) fun q => by rw [q]; exact o6) (by
                    show upd H6 (ρ6 M1.nx) _ (ρ6 M1.nx) = _
                    rw [upd_same, putK_im hk2])
                  rw [eD] at R7
                  exact R7
                | ex _ _ => rw [q6] at p5; exact p5.elim
                | bad => rw [q6] at p5; exact p5.elim
              | ex _ _ => rw [q5] at p4; exact p4.elim
              | bad => rw [q5] at p4; exact p4.elim
          | ex _ _ => rw [q4] at p2; exact p2.elim
          | bad => rw [q4] at p2; exact p2.elim
        | bad => rw [q3] at p2; exact p2.elim
        | rt _ _ => rw [q3] at p2; exact p2.elim
        | bk _ _ => rw [q3] at p2; exact p2.elim
        | ct _ _ => rw [q3] at p2; exact p2.elim
        | ex _ _ _ => rw [q3] at p2; exact p2.elim
theorem re_dc {kx vx tg iter : Expr} {ifs : List Expr} {scope : Scope} {own : List (Str × Nat)} {pos : Pos} {it : MIt} {d : TgD} {t : MT} {ky vl : MX} (vs : List Nat) (hc : X.calm = true) (hN : X.N.Nodup) (hi : RIt X G W tg iter it) (ok : BlkOk X.N X.env.scope scope own) (hv : own.map (·.2) = vs) (hd : ∀ i ∈ d.ixs, i ∈ vs)
    (hg : ∀ (s : Shared) (H : Hp) (C : Addr) (cl : List (Str × Addr)) (fp : List Addr), PG (X.blk s H scope (compEnvC scope cl C X.env) fp) tg (d.tg G.K))
    (ht : ∀ (s : Shared) (H : Hp) (C : Addr) (cl : List (Str × Addr)) (fp : List Addr), PTs (X.blk s H scope (compEnvC scope cl C X.env) fp) ifs (ST G WF t))
    (hk : ∀ (s : Shared) (H : Hp) (C : Addr) (cl : List (Str × Addr)) (fp : List Addr), RE (X.blk s H scope (compEnvC scope cl C X.env) fp) G WF kx ky)
    (he : ∀ (s : Shared) (H : Hp) (C : Addr) (cl : List (Str × Addr)) (fp : List Addr), RE (X.blk s H scope (compEnvC scope cl C X.env) fp) G WF vx vl) (hs : ∀ x, foldedSetIterable iter X.env x = pure x := by intro _; rfl) :
    RE X G W (.DictComp kx vx [⟨tg, iter, ifs, 0⟩] scope pos) (mDc it d vs t ky vl) :=
  PE.imp (pe_dc hc hN hi ok hg ht hk he hs) fun σ H Q h => by rw [hv]; exact dc_at hd h
theorem sw_trueD {kx vx : Expr} {gs : List Comprehension} {scope : Scope} {pos py : Pos} {y : Str} {l : Nat} {env : PySem.Env} (hk : env.scope.kind = .function) (hy : env.scope.names.lookup y = some .local) (hl : (py.line == pos.line) = true)
    (ha : (scope.names.any fun (n, k) => n == y && (k == .local || k == .cell)) = false) : swapsWith (.DictComp kx vx gs scope pos) (some (.Name y py)) l env = pure true := by
  have k1 : env.kindOf y = some .local := hy
  have k2 : env.blockKind = .function := by
    unfold Env.blockKind
    rw [hk] <;> rfl
  unfold swapsWith
  simp only [k2, k1, ha, Expr.pos, hl] <;> rfl
theorem rs_setDc {i : Nat} {y : Str} {py : Pos} {kx vx tg iter : Expr} {ifs : List Expr} {scope : Scope} {own : List (Str × Nat)} {pos spos : Pos} {it : MIt} {d : TgD} {t : MT} {ky vl : MX} (vs : List Nat) (hc : X.calm = true) (hN : X.N.Nodup) (hy : X.N[i]? = some y) (hyl : X.env.scope.names.lookup y = some .local)
    (hsw : swapsWith (.DictComp kx vx [⟨tg, iter, ifs, 0⟩] scope pos) (some (.Name y py)) spos.line X.env = pure true) (hi : RIt X G W tg iter it) (ok : BlkOk X.N X.env.scope scope own) (hv : own.map (·.2) = vs) (hd : ∀ i ∈ d.ixs, i ∈ vs)
    (hg : ∀ (s : Shared) (H : Hp) (C : Addr) (cl : List (Str × Addr)) (fp : List Addr), PG (X.blk s H scope (compEnvC scope cl C X.env) fp) tg (d.tg G.K))
    (ht : ∀ (s : Shared) (H : Hp) (C : Addr) (cl : List (Str × Addr)) (fp : List Addr), PTs (X.blk s H scope (compEnvC scope cl C X.env) fp) ifs (ST G WF t))
    (hk : ∀ (s : Shared) (H : Hp) (C : Addr) (cl : List (Str × Addr)) (fp : List Addr), RE (X.blk s H scope (compEnvC scope cl C X.env) fp) G WF kx ky)
    (he : ∀ (s : Shared) (H : Hp) (C : Addr) (cl : List (Str × Addr)) (fp : List Addr), RE (X.blk s H scope (compEnvC scope cl C X.env) fp) G WF vx vl) (hs : ∀ x, foldedSetIterable iter X.env x = pure x := by intro _; rfl) :
    RS X G W (.Assign [.Name y py] (.DictComp kx vx [⟨tg, iter, ifs, 0⟩] scope pos) spos) (mAsg (gNm i) (mDc it d vs t ky vl)) := by
  refine ⟨fun pins s σ H D I h => ?_⟩
  obtain ⟨ρ, M, e, R, E, p⟩ := h
  have h := dc_at (Q := fun x H1 => D.nx (σ.set i (some x)) H1) hd (se_atS (ma := mDc it d vs t ky vl) R E p fun ρ M H v _ R o E p => p ρ H _ Ex.refl R (E.set i o))
  rw [← hv] at h
  rw [exec_Assign_Name_used _ _ _ _ hsw]
  refine wpAny_bind (wpAny_standAt (wpAny_bind ?_))
  show wpAny _ X.A (do let _ ← comprehension (.DictComp kx vx [⟨tg, iter, ifs, 0⟩] scope pos) scope X.env (firstIterPos [⟨tg, iter, ifs, 0⟩] pos) newDict false (eval iter X.env) (some (assign (.Name y py) X.env))) _ _ s
  refine wpAny_bind (thn (dc_core (Qf := fun _ s' => SP X pins D .next s') hc hN I hi ok hg ht hk he hs h fun L C s' m H' I' q hn f => ?_) fun _ s' hq => wpAny_pure (wpAny_pure hq))
  show wpAny _ _ (assign (.Name y py) X.env (.ref L)) _ _ _
  refine wpAny_assign_Name (store_ok2 (v := V.ref L) I' hN hy (.inl hyl) rfl (fun s2 I2 hx => ?_) (.inr hyl))
  obtain ⟨a, sb, ha⟩ := hx
  obtain ⟨g0, g1, g2, g3, g4, g5⟩ := f
  have ne : C ≠ a := ha.elim (fun z => by rw [z]; exact g1) fun z w => g4 y a z w.symm
  exact ⟨m, hn.sameBut sb ne, fun h3 sb3 => ⟨_, H', I2.turned (t' := s2.toks) (fun b o hb e => (sb3.2 b hb).trans e) g0 g1 g3 g4 g5, q⟩⟩
end
end PM
end
noncomputable section
namespace PM
open PySem PySem.Spec PyProof.Rows L2
/-! ## calls -/
abbrev MF := List MV → MS → Out MV
def PoF (G : Cfg) (ρ : Nat → Addr) (nx : Nat) (o : Out MV) (Q : VK) (E : XK) : Prop := match o with
  | .ok v M' => ∀ ρ' H', Ex ρ nx ρ' M'.nx → Rl G ρ' M' H' → okV M'.nx v → Q (im G ρ' v) H'
  | .ex x M' => ∀ ρ' H', Ex ρ nx ρ' M'.nx → Rl G ρ' M' H' → E (.ref (G.cls x.c)) (x.d.map ρ') H'
  | .bad => False
/-- THE PROMISE: the def does as φ -/
def spM (G : Cfg) (n : Nat) (φ : MF) : Sp := fun vs H Q E => ∃ od ρ M args, Rl (G.wod od) ρ M H ∧ vs = ims G ρ args ∧ okVs M.nx args ∧ args.length = n ∧ PoF (G.wod od) ρ M.nx (φ args M) Q E
theorem spM_len {G : Cfg} {n : Nat} {φ : MF} {ps : List Str} (h : ps.length = n) : ∀ vs H Q E, spM G n φ vs H Q E → vs.length = ps.length := fun vs H Q E ⟨od, ρ, M, args, _, e, _, l, _⟩ => by
  rw [e, List.length_map, l, h]
/-- how the arguments are put -/
structure Gq (G : Cfg) (gM : List MV → List MV → List MV) (gV : List V → List V → List V) : Prop where
  im : ∀ ρ a b, (∀ n, n < G.n0 → ρ n = G.ra n) → gV (ims G ρ a) (ims G ρ b) = ims G ρ (gM a b)
  ok : ∀ nx a b, G.n0 ≤ nx → okVs nx a → okVs nx b → okVs nx (gM a b)
def mCallK (np nk n : Nat) (gM : List MV → List MV → List MV) (φ : MF) (as ks : ML) : MX := fun e M => (as e M).bind fun xs M => (ks e M).bind fun ys M => guardO (xs.length.beq np && (ys.length.beq nk && (gM xs ys).length.beq n)) (φ (gM xs ys) M)
def mMethK (np nk n : Nat) (c : Nat) (gM : List MV → List MV → List MV) (φ : MF) (o : MX) (as ks : ML) : MX := fun e M => (o e M).bind fun v M => asIns v M fun _ c' _ => guardO (c'.beq c) ((as e M).bind fun xs M => (ks e M).bind fun ys M => guardO ((v :: xs).length.beq np && (ys.length.beq nk && (gM (v :: xs) ys).length.beq n)) (φ (gM (v :: xs) ys) M))
def isNonO (o : Out MV) (k : MS → Out MV) : Out MV := match o with
  | .ok .non M => k M
  | .ok _ _ => .bad
  | .ex x M => .ex x M
  | .bad => .bad
def mMakeK (np nk n : Nat) (c : Nat) (gM : List MV → List MV → List MV) (φ : MF) (as ks : ML) : MX := fun e M => (as e M).bind fun xs M => (ks e M).bind fun ys M => M.new (.ins c []) fun m M => guardO ((MV.ref m :: xs).length.beq np && (ys.length.beq nk && (gM (.ref m :: xs) ys).length.beq n)) (isNonO (φ (gM (.ref m :: xs) ys) M) fun M => .ok (.ref m) M)
section
variable {G : Cfg} {W : WX} {X : Cx} {np n k : Nat} {f C : Addr} {fd : FuncData} {ps ks : List Str} {φ : MF} {gM : List MV → List MV → List MV} {gV : List V → List V → List V} {g : List Value → List Value → List Value} {od : Addr → Obj}
theorem run_S {pins : List (Addr × Obj)} {σ : L2.St} {H : Hp} {s : Shared} {Q : VK} {us ws : List Value} {vs zs : List V} {sp : Sp} {E : XK} (F : FnOk X.prog X.w X.K X.mg X.base (L2.CX X.prog X.w) k f fd ps sp) (hr : Room k X.A) (hb : KBn X.K fd ps np ks g gV) (hx : PassesAt (L2.CX X.prog X.w) X σ E)
    (I : Inv X pins σ H s) (r : Vals vs us) (rz : Vals zs ws) (l1 : vs.length = np) (l2 : zs.length = ks.length) (h : sp (gV vs zs) H Q E) : wpAny (model X.prog X.w) X.A (call (.ref f) us (ks.zip ws)) (EP X pins σ Q) X.xe s := by
  have r2 := hb.rel r rz
  refine wpAny_call (codeAny_mono (F.run X.A X.stack s H ⟨us, ks.zip ws⟩ (g us ws) (gV vs zs) Q E hr I.env0 (hb.to s us ws I.kIn (r.length.symm.trans l1) (rz.length.symm.trans l2)) r2 h) fun r s' hq => ?_)
  cases r with
  | error e => exact hx pins H s e s' I hq
  | ok fl =>
    cases fl with
    | ret u => exact I.after hq
    | next => exact False.elim hq
    | brk => exact False.elim hq
    | cont => exact False.elim hq
theorem run_makeS {pins : List (Addr × Obj)} {σ : L2.St} {H : Hp} {s : Shared} {Q : VK} {us ws : List Value} {vs zs : List V} {sp : Sp} {E : XK} (M : Mk X.K C f) (F : FnOk X.prog X.w X.K X.mg X.base (L2.CX X.prog X.w) k f fd ps sp) (hr : Room (k + 1) X.A) (hb : KBn X.K fd ps np ks g gV) (hx : PassesAt (L2.CX X.prog X.w) X σ E)
    (I : Inv X pins σ H s) (r : Vals vs us) (rz : Vals zs ws) (l1 : vs.length + 1 = np) (l2 : zs.length = ks.length)
    (h : ∀ x dx, H x = none → H dx = none → dx ≠ x → sp (gV (.ref x :: vs) zs) (upd (upd H dx (.own x)) x (.ins C dx [])) (fun v H2 => v = .non ∧ Q (.ref x) H2) E) :
    wpAny (model X.prog X.w) X.A (call (.ref C) us (ks.zip ws)) (EP X pins σ Q) X.xe s := by
  have hq := h (s.heap.objs.size + 1) s.heap.objs.size (I.hok.fresh (Nat.le_succ _)) (I.hok.fresh (Nat.le_refl _)) (Nat.ne_of_lt (Nat.lt_succ_self _))
  have I2 := Inv.made (C := C) I
  have r1 : Vals (V.ref (s.heap.objs.size + 1) :: vs) (Value.ref (s.heap.objs.size + 1) :: us) := .cons rfl r
  have r2 := hb.rel r1 rz
  have n1 : (Value.ref (s.heap.objs.size + 1) :: us).length = np := by
    rw [List.length_cons, ← r.length, l1]
  refine wpAny_call (make_map (f := f) I.kIn M.makes M.init (beq_iff_eq.mp M.fn) (codeAny_mono (F.run _ X.stack _ _ ⟨Value.ref (s.heap.objs.size + 1) :: us, ks.zip ws⟩ (g (Value.ref (s.heap.objs.size + 1) :: us) ws) _ _ E (hr.make C us (ks.zip ws))
    (I2.env0.make C us (ks.zip ws)) (hb.to _ (Value.ref (s.heap.objs.size + 1) :: us) ws I2.kIn n1 (rz.length.symm.trans l2)) r2 hq) fun r s' hq' => ?_))
  cases r with
  | error e => exact hx pins _ _ e s' I2 hq'
  | ok fl =>
    cases fl with
    | ret u =>
      obtain ⟨v, H', I3, rv, ev, q3⟩ := I2.after hq'
      subst ev
      exact ⟨rv, ⟨V.ref (s.heap.objs.size + 1), H', I3, rfl, q3⟩⟩
    | next => exact False.elim hq'
    | brk => exact False.elim hq'
    | cont => exact False.elim hq'
/-! ### readings -/
def tCallX (np nk : Nat) (sp : Sp) (gV : List V → List V → List V) (E : L2.St → XK) (t tk : TA) : TE := fun σ H Q => t σ H fun vs H1 => tk σ H1 fun zs H2 => vs.length = np ∧ zs.length = nk ∧ sp (gV vs zs) H2 Q (E σ)
def tMethX (C : Addr) (m : Str) (np nk : Nat) (sp : Sp) (gV : List V → List V → List V) (E : L2.St → XK) (ta : TE) (t tk : TA) : TE := fun σ H Q => ta σ H fun x H1 => ∃ a dx fs, x = .ref a ∧ H1 a = some (.ins C dx fs) ∧ fs.lookup m = none ∧
  t σ H1 fun vs H2 => tk σ H2 fun zs H3 => vs.length + 1 = np ∧ zs.length = nk ∧ sp (gV (x :: vs) zs) H3 Q (E σ)
def tMakeX (C : Addr) (np nk : Nat) (sp : Sp) (gV : List V → List V → List V) (E : L2.St → XK) (t tk : TA) : TE := fun σ H Q => t σ H fun vs H1 => tk σ H1 fun zs H2 => vs.length + 1 = np ∧ zs.length = nk ∧ ∀ x dx, H2 x = none → H2 dx = none → dx ≠ x →
  sp (gV (.ref x :: vs) zs) (upd (upd H2 dx (.own x)) x (.ins C dx [])) (fun v H3 => v = .non ∧ Q (.ref x) H3) (E σ)
section
variable {sp : Sp} {E : L2.St → XK} {x m : Str} {p pos apos : Pos} {e o : Expr} {es : List Expr} {kws : List Keyword} {t tk : TA} {ta : TE} {pl : Sem Bool}
theorem zip_nil {α β : Type} {ks : List α} {ws : List β} (h : ks = []) : ks.zip ws = [] := by rw [h]; rfl
/-- f(e, ..), f(e, .., k = v, ..) -/
theorem pe_callX (F : FnOk X.prog X.w X.K X.mg X.base (L2.CX X.prog X.w) k f fd ps sp) (hr : Room k X.A) (hg : Gl X x) (hm : X.mg x = some (.ref f)) (hk : PySem.W.keepIn X.K (.ref f) = true) (hb : KBn X.K fd ps np ks g gV) (hx : ∀ σ, PassesAt (L2.CX X.prog X.w) X σ (E σ))
    (ha : PA X (e :: es) t) (hkw : PK X kws tk) (hall : (backToKw pos (keywordEach kws X.env)).all (·.1.isSome) = true := by rfl) (hks : (backToKw pos (keywordEach kws X.env)).filterMap (·.1) = ks := by rfl)
    (hdb : (x == ("__debug__" : Str)) = false := by decide) (he : starEach (e :: es) X.env = (false, eval e X.env) :: starEach es X.env := by rfl)
    (hpl : ((backTo pos (starEach (e :: es) X.env)).any (·.1) || (backToKw pos (keywordEach kws X.env)).any (·.1.isNone)) = false := by rfl) :
    PE X (.Call (.Name x p) (e :: es) kws pos) (tCallX np ks.length sp gV E t tk) := by
  refine ⟨fun pins s σ H Q I h => ?_⟩
  refine wpAny_Call_Name_kw (ld_glob I hg hm ?_ hdb)
  refine PySem.W.callWith_KW (h₀ := X.base) I.ok.mod.kin hk hall (thn (ha.run pos pins s σ H _ I h) fun us s1 ⟨vs, H1, I1, r, q⟩ => ?_) hpl he
  refine thn (hkw.run pos pins s1 σ H1 _ I1 q) fun ws s2 ⟨zs, H2, I2, rz, l1, l2, q2⟩ => ⟨I2.kIn, ?_⟩
  rw [hks]
  exact run_S F hr hb (hx σ) I2 r rz l1 l2 q2
/-- f() -/
theorem pe_callX0 (F : FnOk X.prog X.w X.K X.mg X.base (L2.CX X.prog X.w) k f fd ps sp) (hr : Room k X.A) (hg : Gl X x) (hm : X.mg x = some (.ref f)) (hk : PySem.W.keepIn X.K (.ref f) = true) (hb : KBn X.K fd ps np ks g gV) (hx : ∀ σ, PassesAt (L2.CX X.prog X.w) X σ (E σ))
    (hkw : PK X kws tk) (hall : (backToKw pos (keywordEach kws X.env)).all (·.1.isSome) = true := by rfl) (hks : (backToKw pos (keywordEach kws X.env)).filterMap (·.1) = ks := by rfl) (hdb : (x == ("__debug__" : Str)) = false := by decide)
    (hpl : ((backTo pos (starEach [] X.env)).any (·.1) || (backToKw pos (keywordEach kws X.env)).any (·.1.isNone)) = false := by rfl) :
    PE X (.Call (.Name x p) [] kws pos) (tCallX np ks.length sp gV E tNil tk) := by
  refine ⟨fun pins s σ H Q I h => ?_⟩
  refine wpAny_Call_Name_kw (ld_glob I hg hm ?_ hdb)
  refine PySem.W.callWith_KW0 (h₀ := X.base) I.ok.mod.kin hk hall ?_ hpl
  refine thn (hkw.run pos pins s σ H _ I h) fun ws s2 ⟨zs, H2, I2, rz, l1, l2, q2⟩ => ⟨I2.kIn, ?_⟩
  rw [hks]
  exact run_S (us := []) (vs := []) F hr hb (hx σ) I2 .nil rz l1 l2 q2
/-- o.m(e, ..), o.m(e, .., k = v, ..) -/
theorem pe_methX (ho : PE X o ta) (c : Cls X.K C) (hm : Meth X.K C m f) (F : FnOk X.prog X.w X.K X.mg X.base (L2.CX X.prog X.w) k f fd ps sp) (hr : Room k X.A) (hb : KBn X.K fd ps np ks g gV) (hx : ∀ σ, PassesAt (L2.CX X.prog X.w) X σ (E σ)) (ha : PA X (e :: es) t) (hkw : PK X kws tk)
    (hall : (backToKw pos (keywordEach kws X.env)).all (·.1.isSome) = true := by rfl) (hks : (backToKw pos (keywordEach kws X.env)).filterMap (·.1) = ks := by rfl) (he : starEach (e :: es) X.env = (false, eval e X.env) :: starEach es X.env := by rfl)
    (hpl : ((backTo pos (starEach (e :: es) X.env)).any (·.1) || (backToKw pos (keywordEach kws X.env)).any (·.1.isNone)) = false := by rfl)
    (ht : eval (.Call (.Attribute o m apos) (e :: es) kws pos) X.env = (do
      let ov ← eval o X.env
      standAt apos.atName
      let (f, first) ← holding [ov] (getMethod ov m pl)
      callWith pos f first (backTo pos (starEach (e :: es) X.env)) (backToKw pos (keywordEach kws X.env))) := by rfl) :
    PE X (.Call (.Attribute o m apos) (e :: es) kws pos) (tMethX C m np ks.length sp gV E ta t tk) := by
  refine ⟨fun pins s σ H Q I h => ?_⟩
  refine PySem.W.methodCall_KW (pl := pl) (thn (ho.run pins s σ H _ I h) fun u s1 ⟨x, H1, I1, rx, a, dx, fs, ex, ea, l, q⟩ => ?_) ht
  subst ex
  obtain rfl : u = Value.ref a := rx
  refine getmeth_ok I1 ea c hm l ?_
  refine PySem.W.callWith_KW (first := [.ref a]) (h₀ := X.base) I.ok.mod.kin hm.kp hall (thn (ha.run pos pins s1 σ H1 _ I1 q) fun us s2 ⟨vs, H2, I2, r, q2⟩ => ?_) hpl he
  refine thn (hkw.run pos pins s2 σ H2 _ I2 q2) fun ws s3 ⟨zs, H3, I3, rz, l1, l2, q3⟩ => ⟨I3.kIn, ?_⟩
  rw [hks]
  exact run_S (us := .ref a :: us) (vs := .ref a :: vs) F hr hb (hx σ) I3 (.cons rfl r) rz l1 l2 q3
/-- o.m() -/
theorem pe_methX0 (ho : PE X o ta) (c : Cls X.K C) (hm : Meth X.K C m f) (F : FnOk X.prog X.w X.K X.mg X.base (L2.CX X.prog X.w) k f fd ps sp) (hr : Room k X.A) (hb : KBn X.K fd ps np ks g gV) (hx : ∀ σ, PassesAt (L2.CX X.prog X.w) X σ (E σ)) (hkw : PK X kws tk)
    (hall : (backToKw pos (keywordEach kws X.env)).all (·.1.isSome) = true := by rfl) (hks : (backToKw pos (keywordEach kws X.env)).filterMap (·.1) = ks := by rfl)
    (hpl : ((backTo pos (starEach [] X.env)).any (·.1) || (backToKw pos (keywordEach kws X.env)).any (·.1.isNone)) = false := by rfl)
    (ht : eval (.Call (.Attribute o m apos) [] kws pos) X.env = (do
      let ov ← eval o X.env
      standAt apos.atName
      let (f, first) ← holding [ov] (getMethod ov m pl)
      callWith pos f first (backTo pos (starEach [] X.env)) (backToKw pos (keywordEach kws X.env))) := by rfl) :
    PE X (.Call (.Attribute o m apos) [] kws pos) (tMethX C m np ks.length sp gV E ta tNil tk) := by
  refine ⟨fun pins s σ H Q I h => ?_⟩
  refine PySem.W.methodCall_KW (pl := pl) (thn (ho.run pins s σ H _ I h) fun u s1 ⟨x, H1, I1, rx, a, dx, fs, ex, ea, l, q⟩ => ?_) ht
  subst ex
  obtain rfl : u = Value.ref a := rx
  refine getmeth_ok I1 ea c hm l ?_
  refine PySem.W.callWith_KW0 (first := [.ref a]) (h₀ := X.base) I.ok.mod.kin hm.kp hall ?_ hpl
  refine thn (hkw.run pos pins s1 σ H1 _ I1 q) fun ws s3 ⟨zs, H3, I3, rz, l1, l2, q3⟩ => ⟨I3.kIn, ?_⟩
  rw [hks]
  exact run_S (us := [.ref a]) (vs := [.ref a]) F hr hb (hx σ) I3 (.cons rfl .nil) rz l1 l2 q3
/-- C(e, .., k = v, ..) -/
theorem pe_makeX (Mc : Mk X.K C f) (F : FnOk X.prog X.w X.K X.mg X.base (L2.CX X.prog X.w) k f fd ps sp) (hr : Room (k + 1) X.A) (hg : Gl X x) (hm : X.mg x = some (.ref C)) (hb : KBn X.K fd ps np ks g gV) (hx : ∀ σ, PassesAt (L2.CX X.prog X.w) X σ (E σ)) (ha : PA X (e :: es) t) (hkw : PK X kws tk)
    (hall : (backToKw pos (keywordEach kws X.env)).all (·.1.isSome) = true := by rfl) (hks : (backToKw pos (keywordEach kws X.env)).filterMap (·.1) = ks := by rfl) (hdb : (x == ("__debug__" : Str)) = false := by decide)
    (he : starEach (e :: es) X.env = (false, eval e X.env) :: starEach es X.env := by rfl) (hpl : ((backTo pos (starEach (e :: es) X.env)).any (·.1) || (backToKw pos (keywordEach kws X.env)).any (·.1.isNone)) = false := by rfl) :
    PE X (.Call (.Name x p) (e :: es) kws pos) (tMakeX C np ks.length sp gV E t tk) := by
  refine ⟨fun pins s σ H Q I h => ?_⟩
  refine wpAny_Call_Name_kw (ld_glob I hg hm ?_ hdb)
  refine PySem.W.callWith_KW (h₀ := X.base) I.ok.mod.kin Mc.kp hall (thn (ha.run pos pins s σ H _ I h) fun us s1 ⟨vs, H1, I1, r, q⟩ => ?_) hpl he
  refine thn (hkw.run pos pins s1 σ H1 _ I1 q) fun ws s2 ⟨zs, H2, I2, rz, l1, l2, q2⟩ => ⟨I2.kIn, ?_⟩
  rw [hks]
  exact run_makeS Mc F hr hb (hx σ) I2 r rz l1 l2 q2
/-- C(), C(k = v, ..) -/
theorem pe_makeX0 (Mc : Mk X.K C f) (F : FnOk X.prog X.w X.K X.mg X.base (L2.CX X.prog X.w) k f fd ps sp) (hr : Room (k + 1) X.A) (hg : Gl X x) (hm : X.mg x = some (.ref C)) (hb : KBn X.K fd ps np ks g gV) (hx : ∀ σ, PassesAt (L2.CX X.prog X.w) X σ (E σ)) (hkw : PK X kws tk)
    (hall : (backToKw pos (keywordEach kws X.env)).all (·.1.isSome) = true := by rfl) (hks : (backToKw pos (keywordEach kws X.env)).filterMap (·.1) = ks := by rfl) (hdb : (x == ("__debug__" : Str)) = false := by decide)
    (hpl : ((backTo pos (starEach [] X.env)).any (·.1) || (backToKw pos (keywordEach kws X.env)).any (·.1.isNone)) = false := by rfl) :
    PE X (.Call (.Name x p) [] kws pos) (tMakeX C np ks.length sp gV E tNil tk) := by
  refine ⟨fun pins s σ H Q I h => ?_⟩
  refine wpAny_Call_Name_kw (ld_glob I hg hm ?_ hdb)
  refine PySem.W.callWith_KW0 (h₀ := X.base) I.ok.mod.kin Mc.kp hall ?_ hpl
  refine thn (hkw.run pos pins s σ H _ I h) fun ws s2 ⟨zs, H2, I2, rz, l1, l2, q2⟩ => ⟨I2.kIn, ?_⟩
  rw [hks]
  exact run_makeS (us := []) (vs := []) Mc F hr hb (hx σ) I2 .nil rz l1 l2 q2
/-- what C.m is, C a class: the def at f -/
structure CFn (K : PySem.W.Frag) (C : Addr) (m : Str) (f : Addr) : Prop where
  ga : PySem.W.specialIn K (.ref C) "__getattribute__" = some (some (.builtin "type.__getattribute__"))
  rd : PySem.W.readsIn K C (.type "type") = true
  at_ : PySem.W.findCls K (.ref C) (.type "type") m = some (.val (.ref f))
  kp : PySem.W.keepIn K (.ref f) = true
/-- C.m(e, .., k = v, ..), C a class of the module -/
theorem pe_cfnX (cf : CFn X.K C m f) (F : FnOk X.prog X.w X.K X.mg X.base (L2.CX X.prog X.w) k f fd ps sp) (hr : Room k X.A) (hg : Gl X x) (hm : X.mg x = some (.ref C)) (hb : KBn X.K fd ps np ks g gV) (hx : ∀ σ, PassesAt (L2.CX X.prog X.w) X σ (E σ)) (ha : PA X (e :: es) t) (hkw : PK X kws tk)
    (hall : (backToKw pos (keywordEach kws X.env)).all (·.1.isSome) = true := by rfl) (hks : (backToKw pos (keywordEach kws X.env)).filterMap (·.1) = ks := by rfl) (hdb : (x == ("__debug__" : Str)) = false := by decide)
    (he : starEach (e :: es) X.env = (false, eval e X.env) :: starEach es X.env := by rfl) (hpl : ((backTo pos (starEach (e :: es) X.env)).any (·.1) || (backToKw pos (keywordEach kws X.env)).any (·.1.isNone)) = false := by rfl)
    (ht : eval (.Call (.Attribute (.Name x p) m apos) (e :: es) kws pos) X.env = (do
      let ov ← eval (.Name x p) X.env
      standAt apos.atName
      let (f, first) ← holding [ov] (getMethod ov m pl)
      callWith pos f first (backTo pos (starEach (e :: es) X.env)) (backToKw pos (keywordEach kws X.env))) := by rfl) :
    PE X (.Call (.Attribute (.Name x p) m apos) (e :: es) kws pos) (tCallX np ks.length sp gV E t tk) := by
  refine ⟨fun pins s σ H Q I h => ?_⟩
  have hcl : PE X (.Name x p) (tC (.ref C)) := pe_glob hg hm rfl hdb
  refine PySem.W.methodCall_KW (pl := pl) (thn (hcl.run pins s σ H (fun v H' => v = .ref C ∧ H' = H) I ⟨rfl, rfl⟩) fun u s1 ⟨x, H1, I1, rx, ex, eH⟩ => ?_) ht
  subst ex
  subst eH
  obtain rfl : u = Value.ref C := rx
  refine PySem.W.method_cls I1.kIn cf.ga (PySem.W.cls_value I1.kIn cf.rd cf.at_ (handed_of (v := V.ref f) rfl) ?_)
  have I2 := I1.tok (s1.toks + 1)
  refine PySem.W.callWith_KW (first := []) (h₀ := X.base) I.ok.mod.kin cf.kp hall (thn (ha.run pos pins _ σ H1 _ I2 h) fun us s2 ⟨vs, H2, I3, r, q2⟩ => ?_) hpl he
  refine thn (hkw.run pos pins s2 σ H2 _ I3 q2) fun ws s3 ⟨zs, H3, I4, rz, l1, l2, q3⟩ => ⟨I4.kIn, ?_⟩
  rw [hks]
  exact run_S F hr hb (hx σ) I4 r rz l1 l2 q3
end
/-! ### as the small machine does -/
theorem PK.imp {kws : List Keyword} {t t' : TA} (h : PK X kws t) (i : ∀ σ H Q, t' σ H Q → t σ H Q) : PK X kws t' := ⟨fun pos pins s σ H Q I w => h.run pos pins s σ H Q I (i σ H Q w)⟩
abbrev RK (X : Cx) (G : Cfg) (W : WX) (e : List Keyword) (m : ML) : Prop := PK X e (SL G W m)
theorem rk_nil : RK X G W [] mNil := PK.imp pk_nil fun σ H Q ⟨ρ, M, e, R, E, p⟩ => p ρ H Ex.refl R fun _ h => (nomatch h)
theorem rk_cons {a : Expr} {ma : MX} {nm : Option Str} {kpos : Pos} {kws : List Keyword} {ml : ML} (ha : RE X G W a ma) (hr : RK X G W kws ml) : RK X G W (⟨nm, a, kpos⟩ :: kws) (mCons ma ml) :=
  PK.imp (pk_cons ha hr) fun σ H Q ⟨_, _, _, R, E, p⟩ => se_at R E p fun ρ M H v _ R o E p => sl_at R E p fun ρ2 M2 H2 vs x R2 o2 E2 p2 => by
    have q := p2 ρ2 H2 Ex.refl R2 (fun y hy => (List.mem_cons.mp hy).elim (fun z => z ▸ o.mono x.1) fun z => o2 y z)
    rw [← im_ex x o]
    exact q
theorem Po.toF {ρ : Nat → Addr} {nx : Nat} {σ : L2.St} {o : Out MV} {Q : VK} (h : PoE G ρ nx W σ o Q) : PoF G ρ nx o Q (WE W σ) := by
  cases o <;> exact h
variable {σ : L2.St} {H : Hp} {Q : VK}
theorem callX_at {as km : ML} (q : Gq G gM gV) (h : SE (G.wod od) W (mCallK np ks.length n gM φ as km) σ H Q) : tCallX np ks.length (spM G n φ) gV (WE W) (SL (G.wod od) W as) (SL (G.wod od) W km) σ H Q := by
  obtain ⟨ρ, M, e, R, E, p⟩ := h
  refine sl_at R E p fun ρ M H xs _ R o E p => sl_at R E p fun ρ2 M2 H2 ys x R2 o2 E2 p2 => ?_
  obtain ⟨g1, p3⟩ := guardO_inv p2
  obtain ⟨g1, g2⟩ := Bool.and_eq_true_iff.mp g1
  obtain ⟨g2, g3⟩ := Bool.and_eq_true_iff.mp g2
  refine ⟨by rw [List.length_map]; exact Nat.eq_of_beq_eq_true g1, by rw [List.length_map]; exact Nat.eq_of_beq_eq_true g2, od, ρ2, M2, gM xs ys, R2, ?_, q.ok _ _ _ R2.c.1 (o.mono x.1) o2, Nat.eq_of_beq_eq_true g3, Po.toF p3⟩
  rw [← q.im ρ2 xs ys R2.c.2, ← ims_ex x o]
  rfl
variable {x m : Str} {p pos apos : Pos} {e o : Expr} {es : List Expr} {kws : List Keyword} {as km : ML} {mo : MX}
theorem re_callX (q : Gq G gM gV) (F : FnOk X.prog X.w X.K X.mg X.base (L2.CX X.prog X.w) k f fd ps (spM G n φ)) (hr : Room k X.A) (hg : Gl X x) (hm : X.mg x = some (.ref f)) (hk : PySem.W.keepIn X.K (.ref f) = true) (hb : KBn X.K fd ps np ks g gV) (tk : Takes X W)
    (ha : RL X (G.wod od) W (e :: es) as) (hkw : RK X (G.wod od) W kws km) (hall : (backToKw pos (keywordEach kws X.env)).all (·.1.isSome) = true := by rfl) (hks : (backToKw pos (keywordEach kws X.env)).filterMap (·.1) = ks := by rfl)
    (hdb : (x == ("__debug__" : Str)) = false := by decide) (he : starEach (e :: es) X.env = (false, eval e X.env) :: starEach es X.env := by rfl)
    (hpl : ((backTo pos (starEach (e :: es) X.env)).any (·.1) || (backToKw pos (keywordEach kws X.env)).any (·.1.isNone)) = false := by rfl) :
    RE X (G.wod od) W (.Call (.Name x p) (e :: es) kws pos) (mCallK np ks.length n gM φ as km) := PE.imp (pe_callX F hr hg hm hk hb (fun σ => passAt tk σ) ha hkw hall hks hdb he hpl) fun σ H Q h => callX_at q h
theorem re_callX0 (q : Gq G gM gV) (F : FnOk X.prog X.w X.K X.mg X.base (L2.CX X.prog X.w) k f fd ps (spM G n φ)) (hr : Room k X.A) (hg : Gl X x) (hm : X.mg x = some (.ref f)) (hk : PySem.W.keepIn X.K (.ref f) = true) (hb : KBn X.K fd ps np ks g gV) (tk : Takes X W)
    (hkw : RK X (G.wod od) W kws km) (hall : (backToKw pos (keywordEach kws X.env)).all (·.1.isSome) = true := by rfl) (hks : (backToKw pos (keywordEach kws X.env)).filterMap (·.1) = ks := by rfl) (hdb : (x == ("__debug__" : Str)) = false := by decide)
    (hpl : ((backTo pos (starEach [] X.env)).any (·.1) || (backToKw pos (keywordEach kws X.env)).any (·.1.isNone)) = false := by rfl) :
    RE X (G.wod od) W (.Call (.Name x p) [] kws pos) (mCallK np ks.length n gM φ mNil km) := PE.imp (pe_callX0 F hr hg hm hk hb (fun σ => passAt tk σ) hkw hall hks hdb hpl) fun σ H Q h => by
  obtain ⟨ρ, M, e, R, E, p⟩ := h
  refine sl_at (ma := km) R E (k := fun ys M => guardO (([] : List MV).length.beq np && (ys.length.beq ks.length && (gM [] ys).length.beq n)) (φ (gM [] ys) M)) p fun ρ2 M2 H2 ys x R2 o2 E2 p2 => ?_
  obtain ⟨g1, p3⟩ := guardO_inv p2
  obtain ⟨g1, g2⟩ := Bool.and_eq_true_iff.mp g1
  obtain ⟨g2, g3⟩ := Bool.and_eq_true_iff.mp g2
  refine ⟨Nat.eq_of_beq_eq_true g1, by rw [List.length_map]; exact Nat.eq_of_beq_eq_true g2, od, ρ2, M2, gM [] ys, R2, ?_, q.ok _ _ _ R2.c.1 (fun _ h => nomatch h) o2, Nat.eq_of_beq_eq_true g3, Po.toF p3⟩
  rw [← q.im ρ2 [] ys R2.c.2]
  rfl
theorem re_cfnX (q : Gq G gM gV) (cf : CFn X.K C m f) (F : FnOk X.prog X.w X.K X.mg X.base (L2.CX X.prog X.w) k f fd ps (spM G n φ)) (hr : Room k X.A) (hg : Gl X x) (hm : X.mg x = some (.ref C)) (hb : KBn X.K fd ps np ks g gV) (tk : Takes X W)
    (ha : RL X (G.wod od) W (e :: es) as) (hkw : RK X (G.wod od) W kws km) (hall : (backToKw pos (keywordEach kws X.env)).all (·.1.isSome) = true := by rfl) (hks : (backToKw pos (keywordEach kws X.env)).filterMap (·.1) = ks := by rfl) (hdb : (x == ("__debug__" : Str)) = false := by decide)
    (he : starEach (e :: es) X.env = (false, eval e X.env) :: starEach es X.env := by rfl) (hpl : ((backTo pos (starEach (e :: es) X.env)).any (·.1) || (backToKw pos (keywordEach kws X.env)).any (·.1.isNone)) = false := by rfl) {pl : Sem Bool}
    (ht : eval (.Call (.Attribute (.Name x p) m apos) (e :: es) kws pos) X.env = (do
      let ov ← eval (.Name x p) X.env
      standAt apos.atName
      let (f, first) ← holding [ov] (getMethod ov m pl)
      callWith pos f first (backTo pos (starEach (e :: es) X.env)) (backToKw pos (keywordEach kws X.env))) := by rfl) :
    RE X (G.wod od) W (.Call (.Attribute (.Name x p) m apos) (e :: es) kws pos) (mCallK np ks.length n gM φ as km) := PE.imp (pe_cfnX cf F hr hg hm hb (fun σ => passAt tk σ) ha hkw hall hks hdb he hpl ht) fun σ H Q h => callX_at q h
/-- a method's name is no field -/
theorem no_fld {ρ : Nat → Addr} (h : ∀ i, G.fname i ≠ m) : ∀ fs : List (Nat × MV), (imF G ρ fs).lookup m = none
  | [] => rfl
  | p :: r => by
    have e : (m == G.fname p.1) = false := beq_eq_false_iff_ne.mpr fun z => h p.1 z.symm
    show List.lookup m ((G.fname p.1, im G ρ p.2) :: imF G ρ r) = none
    simp only [List.lookup, e]
    exact no_fld h r
theorem re_methX {c : Nat} {pl : Sem Bool} (q : Gq G gM gV) (nf : ∀ i, G.fname i ≠ m) (hC : G.cls c = C) (ho : RE X (G.wod od) W o mo) (cl : Cls X.K C) (hm : Meth X.K C m f) (F : FnOk X.prog X.w X.K X.mg X.base (L2.CX X.prog X.w) k f fd ps (spM G n φ)) (hr : Room k X.A) (hb : KBn X.K fd ps np ks g gV) (tk : Takes X W)
    (ha : RL X (G.wod od) W (e :: es) as) (hkw : RK X (G.wod od) W kws km)
    (hall : (backToKw pos (keywordEach kws X.env)).all (·.1.isSome) = true := by rfl) (hks : (backToKw pos (keywordEach kws X.env)).filterMap (·.1) = ks := by rfl) (he : starEach (e :: es) X.env = (false, eval e X.env) :: starEach es X.env := by rfl)
    (hpl : ((backTo pos (starEach (e :: es) X.env)).any (·.1) || (backToKw pos (keywordEach kws X.env)).any (·.1.isNone)) = false := by rfl)
    (ht : eval (.Call (.Attribute o m apos) (e :: es) kws pos) X.env = (do
      let ov ← eval o X.env
      standAt apos.atName
      let (f, first) ← holding [ov] (getMethod ov m pl)
      callWith pos f first (backTo pos (starEach (e :: es) X.env)) (backToKw pos (keywordEach kws X.env))) := by rfl) :
    RE X (G.wod od) W (.Call (.Attribute o m apos) (e :: es) kws pos) (mMethK np ks.length n c gM φ mo as km) :=
  PE.imp (pe_methX ho cl hm F hr hb (fun σ => passAt tk σ) ha hkw hall hks he hpl ht) fun σ H Q ⟨_, _, _, R, E, p⟩ => se_at R E p fun ρ M H v _ R ov E p => by
    obtain ⟨a, c', fs, rfl, ga, p1⟩ := asIns_inv p
    obtain ⟨g0, p2⟩ := guardO_inv p1
    have ec := Nat.eq_of_beq_eq_true g0
    subst ec
    obtain ⟨⟨dx, hi⟩, _⟩ := R.ins ga
    refine ⟨ρ a, dx, imF G ρ fs, rfl, by rw [← hC]; exact hi, no_fld nf fs, sl_at R E p2 fun ρ1 M1 H1 xs x1 R1 o1 E1 p3 => sl_at R1 E1 p3 fun ρ2 M2 H2 ys x R2 o2 E2 p2 => ?_⟩
    obtain ⟨g1, p3⟩ := guardO_inv p2
    obtain ⟨g1, g2⟩ := Bool.and_eq_true_iff.mp g1
    obtain ⟨g2, g3⟩ := Bool.and_eq_true_iff.mp g2
    have x2 := x1.trans x
    refine ⟨by rw [List.length_map]; exact Nat.eq_of_beq_eq_true g1, by rw [List.length_map]; exact Nat.eq_of_beq_eq_true g2, od, ρ2, M2, gM (.ref a :: xs) ys, R2, ?_, q.ok _ _ _ R2.c.1 (fun w hw => (List.mem_cons.mp hw).elim (fun z => z ▸ ov.mono x2.1) fun z => o1.mono x.1 w z) o2, Nat.eq_of_beq_eq_true g3, Po.toF p3⟩
    rw [← q.im ρ2 _ ys R2.c.2]
    show gV (im G ρ (.ref a) :: ims G ρ1 xs) (ims G ρ2 ys) = gV (im G ρ2 (.ref a) :: ims G ρ2 xs) (ims G ρ2 ys)
    rw [← im_ex x2 ov, ← ims_ex x o1]
theorem re_methX0 {c : Nat} {pl : Sem Bool} (q : Gq G gM gV) (nf : ∀ i, G.fname i ≠ m) (hC : G.cls c = C) (ho : RE X (G.wod od) W o mo) (cl : Cls X.K C) (hm : Meth X.K C m f) (F : FnOk X.prog X.w X.K X.mg X.base (L2.CX X.prog X.w) k f fd ps (spM G n φ)) (hr : Room k X.A) (hb : KBn X.K fd ps np ks g gV) (tk : Takes X W)
    (hkw : RK X (G.wod od) W kws km)
    (hall : (backToKw pos (keywordEach kws X.env)).all (·.1.isSome) = true := by rfl) (hks : (backToKw pos (keywordEach kws X.env)).filterMap (·.1) = ks := by rfl)
    (hpl : ((backTo pos (starEach [] X.env)).any (·.1) || (backToKw pos (keywordEach kws X.env)).any (·.1.isNone)) = false := by rfl)
    (ht : eval (.Call (.Attribute o m apos) [] kws pos) X.env = (do
      let ov ← eval o X.env
      standAt apos.atName
      let (f, first) ← holding [ov] (getMethod ov m pl)
      callWith pos f first (backTo pos (starEach [] X.env)) (backToKw pos (keywordEach kws X.env))) := by rfl) :
    RE X (G.wod od) W (.Call (.Attribute o m apos) [] kws pos) (mMethK np ks.length n c gM φ mo mNil km) :=
  PE.imp (pe_methX0 ho cl hm F hr hb (fun σ => passAt tk σ) hkw hall hks hpl ht) fun σ H Q ⟨_, _, _, R, E, p⟩ => se_at R E p fun ρ M H v _ R ov E p => by
    obtain ⟨a, c', fs, rfl, ga, p1⟩ := asIns_inv p
    obtain ⟨g0, p2⟩ := guardO_inv p1
    have ec := Nat.eq_of_beq_eq_true g0
    subst ec
    obtain ⟨⟨dx, hi⟩, _⟩ := R.ins ga
    refine ⟨ρ a, dx, imF G ρ fs, rfl, by rw [← hC]; exact hi, no_fld nf fs, sl_at (ma := km) R E (k := fun ys M => guardO ((MV.ref a :: ([] : List MV)).length.beq np && (ys.length.beq ks.length && (gM (.ref a :: []) ys).length.beq n)) (φ (gM (.ref a :: []) ys) M)) p2 fun ρ2 M2 H2 ys x R2 o2 E2 p2 => ?_⟩
    obtain ⟨g1, p3⟩ := guardO_inv p2
    obtain ⟨g1, g2⟩ := Bool.and_eq_true_iff.mp g1
    obtain ⟨g2, g3⟩ := Bool.and_eq_true_iff.mp g2
    refine ⟨Nat.eq_of_beq_eq_true g1, by rw [List.length_map]; exact Nat.eq_of_beq_eq_true g2, od, ρ2, M2, gM [.ref a] ys, R2, ?_, q.ok _ _ _ R2.c.1 (fun w hw => by rw [List.mem_singleton.mp hw]; exact ov.mono x.1) o2, Nat.eq_of_beq_eq_true g3, Po.toF p3⟩
    rw [← q.im ρ2 _ ys R2.c.2]
    show gV [im G ρ (.ref a)] (ims G ρ2 ys) = gV [im G ρ2 (.ref a)] (ims G ρ2 ys)
    rw [← im_ex x ov]
theorem make_at {c : Nat} {ρ : Nat → Addr} {M : MS} {xs ys : List MV} {vs zs : List V} (q : Gq G gM gV) (hC : G.cls c = C) (R : Rl (G.wod od) ρ M H) (ox : okVs M.nx xs) (oy : okVs M.nx ys) (ex : vs = ims G ρ xs) (ey : zs = ims G ρ ys)
    (p : PoE (G.wod od) ρ M.nx W σ (M.new (.ins c []) fun m M => guardO ((MV.ref m :: xs).length.beq np && (ys.length.beq ks.length && (gM (.ref m :: xs) ys).length.beq n)) (isNonO (φ (gM (.ref m :: xs) ys) M) fun M => .ok (.ref m) M)) Q) :
    vs.length + 1 = np ∧ zs.length = ks.length ∧ ∀ x dx, H x = none → H dx = none → dx ≠ x →
      spM G n φ (gV (.ref x :: vs) zs) (upd (upd H dx (.own x)) x (.ins C dx [])) (fun v H3 => v = .non ∧ Q (.ref x) H3) (WE W σ) := by
  obtain ⟨h1, h2, p1⟩ := new_inv R p
  obtain ⟨g1, p3⟩ := guardO_inv p1
  obtain ⟨g1, g2⟩ := Bool.and_eq_true_iff.mp g1
  obtain ⟨g2, g3⟩ := Bool.and_eq_true_iff.mp g2
  refine ⟨by rw [ex, List.length_map]; exact Nat.eq_of_beq_eq_true g1, by rw [ey, List.length_map]; exact Nat.eq_of_beq_eq_true g2, fun x dx nx nd ne => ?_⟩
  have s1 : ∀ b o, H b = some o → upd (upd H dx (.own x)) x (.ins C dx []) b = some o := fun b o e => by
    rw [upd_ne (ne_of_none e nx), upd_ne (ne_of_none e nd)]
    exact e
  have R' := R.newG (ob := .ins c []) (H' := upd (upd H dx (.own x)) x (.ins C dx [])) nx (fun w hw => nomatch hw) s1 ⟨dx, by rw [upd_same, ← hC]; rfl⟩ h1 h2
  have xb : Ex ρ M.nx (bump ρ M.nx x) (M.nx + 1) := Ex.bump
  refine ⟨od, bump ρ M.nx x, _, gM (.ref M.nx :: xs) ys, R', ?_, q.ok _ _ _ R'.c.1 (fun w hw => (List.mem_cons.mp hw).elim (fun z => z ▸ Nat.lt_succ_self _) fun z => ox.mono (Nat.le_succ _) w z) (oy.mono (Nat.le_succ _)), Nat.eq_of_beq_eq_true g3, ?_⟩
  · rw [← q.im (bump ρ M.nx x) _ ys R'.c.2, ex, ey]
    show gV (.ref x :: ims G ρ xs) (ims G ρ ys) = gV (V.ref (bump ρ M.nx x M.nx) :: ims G (bump ρ M.nx x) xs) (ims G (bump ρ M.nx x) ys)
    rw [show bump ρ M.nx x M.nx = x from if_pos rfl, ims_ex xb ox, ims_ex xb oy]
  · have p4 := Po.mono xb p3
    cases h : φ (gM (.ref M.nx :: xs) ys) ⟨M.nx + 1, M.hp.set M.nx (.ins c [])⟩ with
    | bad => rw [h] at p4; exact p4.elim
    | ex z M1 => rw [h] at p4; exact p4
    | ok v M1 =>
      rw [h] at p4
      cases v with
      | non =>
        intro ρ' H' y R1 o1
        have q1 := p4 ρ' H' y R1 (Nat.lt_of_lt_of_le (Nat.lt_succ_self M.nx) y.1)
        refine ⟨rfl, ?_⟩
        rw [show im (G.wod od) ρ' (.ref M.nx) = V.ref x from congrArg V.ref ((y.2 _ (Nat.lt_succ_self _)).trans (if_pos rfl))] at q1
        exact q1
      | _ => exact p4.elim
theorem re_makeX {c : Nat} (q : Gq G gM gV) (hC : G.cls c = C) (Mc : Mk X.K C f) (F : FnOk X.prog X.w X.K X.mg X.base (L2.CX X.prog X.w) k f fd ps (spM G n φ)) (hr : Room (k + 1) X.A) (hg : Gl X x) (hm : X.mg x = some (.ref C)) (hb : KBn X.K fd ps np ks g gV) (tk : Takes X W)
    (ha : RL X (G.wod od) W (e :: es) as) (hkw : RK X (G.wod od) W kws km)
    (hall : (backToKw pos (keywordEach kws X.env)).all (·.1.isSome) = true := by rfl) (hks : (backToKw pos (keywordEach kws X.env)).filterMap (·.1) = ks := by rfl) (hdb : (x == ("__debug__" : Str)) = false := by decide)
    (he : starEach (e :: es) X.env = (false, eval e X.env) :: starEach es X.env := by rfl) (hpl : ((backTo pos (starEach (e :: es) X.env)).any (·.1) || (backToKw pos (keywordEach kws X.env)).any (·.1.isNone)) = false := by rfl) :
    RE X (G.wod od) W (.Call (.Name x p) (e :: es) kws pos) (mMakeK np ks.length n c gM φ as km) :=
  PE.imp (pe_makeX Mc F hr hg hm hb (fun σ => passAt tk σ) ha hkw hall hks hdb he hpl) fun σ H Q ⟨_, _, _, R, E, p⟩ => sl_at R E p fun ρ1 M1 H1 xs x1 R1 o1 E1 p3 => sl_at R1 E1 p3 fun ρ2 M2 H2 ys x R2 o2 E2 p2 =>
    make_at q hC R2 (o1.mono x.1) o2 (ims_ex x o1).symm rfl p2
theorem re_makeX0 {c : Nat} (q : Gq G gM gV) (hC : G.cls c = C) (Mc : Mk X.K C f) (F : FnOk X.prog X.w X.K X.mg X.base (L2.CX X.prog X.w) k f fd ps (spM G n φ)) (hr : Room (k + 1) X.A) (hg : Gl X x) (hm : X.mg x = some (.ref C)) (hb : KBn X.K fd ps np ks g gV) (tk : Takes X W)
    (hkw : RK X (G.wod od) W kws km)
    (hall : (backToKw pos (keywordEach kws X.env)).all (·.1.isSome) = true := by rfl) (hks : (backToKw pos (keywordEach kws X.env)).filterMap (·.1) = ks := by rfl) (hdb : (x == ("__debug__" : Str)) = false := by decide)
    (hpl : ((backTo pos (starEach [] X.env)).any (·.1) || (backToKw pos (keywordEach kws X.env)).any (·.1.isNone)) = false := by rfl) :
    RE X (G.wod od) W (.Call (.Name x p) [] kws pos) (mMakeK np ks.length n c gM φ mNil km) :=
  PE.imp (pe_makeX0 Mc F hr hg hm hb (fun σ => passAt tk σ) hkw hall hks hdb hpl) fun σ H Q ⟨_, _, _, R, E, p⟩ =>
    sl_at (ma := km) R E (k := fun ys M => M.new (.ins c []) fun m M => guardO ((MV.ref m :: ([] : List MV)).length.beq np && (ys.length.beq ks.length && (gM (.ref m :: []) ys).length.beq n)) (isNonO (φ (gM (.ref m :: []) ys) M) fun M => .ok (.ref m) M)) p fun ρ2 M2 H2 ys x R2 o2 E2 p2 =>
    make_at q hC R2 (xs := []) (fun _ h => nomatch h) o2 rfl rfl p2
end
/-! ### a def -/
def startE (N : Nat) (args : List MV) : Env := args.map some ++ List.replicate (N - args.length) none
def runB (N : Nat) (b : MSt) : MF := fun args M => match b (startE N args) M with
  | .nx _ M => .ok .non M
  | .rt v M => .ok v M
  | .ex x _ M => .ex x M
  | _ => .bad
theorem start_env {G : Cfg} {ρ : Nat → Addr} {nx : Nat} {N : List Str} {n : Nat} (hn : N.length = n) {args : List MV} (h : okVs nx args) : REnv G ρ nx (L2.start N (ims G ρ args)) (startE n args) := by
  subst hn
  refine ⟨?_, fun i v q => ?_⟩
  · unfold L2.start startE
    simp
  · unfold startE at q
    unfold L2.start
    by_cases hi : i < args.length
    · rw [List.getElem?_append_left (by simpa using hi)] at q ⊢
      · rw [List.getElem?_map] at q ⊢
        rw [List.getElem?_map]
        obtain ⟨w, hw, e⟩ := Option.map_eq_some_iff.mp q
        cases e
        rw [hw]
        exact ⟨h _ (List.mem_of_getElem? hw), rfl⟩
    · rw [List.getElem?_append_right (by simpa using hi)] at q
      have z := List.mem_of_getElem? q
      rw [List.mem_replicate] at z
      exact absurd z.2 (by simp)
theorem fn_okM {P : Program} {w : World} {K : PySem.W.Frag} {mg : Str → Option Value} {base : Heap} {x qual : Str} {params : Arguments} {body : List Stmt} {scope : Scope} {dvs : List V} {kws : List (Str × V)} {f : Addr} {fd : FuncData} {N ps : List Str} {k n m : Nat} {G : Cfg} {b : MSt}
    (F : FunD K x qual params body scope dvs kws f fd) (S : FnScope N ps scope) (hn : N.length = n) (hm : ps.length = m)
    (h : ∀ (od : Addr → Obj) (cdv : Value) (A : Around) (outer : List PySem.Env) (s : Shared) (H : Hp) (E : XK), Room k (A.deeper (envOfC qual scope s.heap.objs.size f cdv)) → Takes (cxOf (L2.CX P w) P w K mg base N qual scope f cdv A outer s H E) (fun cls d _ H => E cls d H) →
      PassesOwn (model P w) (cxOf (L2.CX P w) P w K mg base N qual scope f cdv A outer s H E).A (cxOf (L2.CX P w) P w K mg base N qual scope f cdv A outer s H E).env (cxOf (L2.CX P w) P w K mg base N qual scope f cdv A outer s H E).xe →
      RSs (cxOf (L2.CX P w) P w K mg base N qual scope f cdv A outer s H E) (G.wod od) (fun cls d _ H => E cls d H) body b) :
    FnOk P w K mg base (L2.CX P w) (k + 1) f fd ps (spM G m (runB n b)) := by
  refine F.ok S (spM_len hm) fun cdv A outer s H vs Q E hr hs => ?_
  obtain ⟨od, ρ, M, args, R, rfl, ok, l, p⟩ := hs
  refine ⟨_, h od cdv A outer s H E hr (takes_of rfl rfl rfl rfl) (passes_of rfl), ρ, M, startE n args, R, start_env hn ok, ?_⟩
  unfold runB at p
  cases q : b (startE n args) M with
  | nx e M' =>
    rw [q] at p
    exact fun ρ' H' σ' x R' E' => p ρ' H' x R' trivial
  | rt v M' =>
    rw [q] at p
    exact fun ρ' H' x R' o' => p ρ' H' x R' o'
  | ex z e M' =>
    rw [q] at p
    exact fun ρ' H' σ' x R' E' => p ρ' H' x R'
  | bk _ _ => rw [q] at p; exact p.elim
  | ct _ _ => rw [q] at p; exact p.elim
  | bad => rw [q] at p; exact p.elim
end PM
end
noncomputable section
namespace PM
open PySem PySem.Spec PyProof.Rows L2
/-! ## more targets -/
section
variable {X : Cx} {pos : Pos} {o : Expr} {f : Str} {ta : TE}
def gFld (K : PySem.W.Frag) (ta : TE) (f : Str) : TG := fun v σ H Q => ta σ H fun x H2 => ∃ a C dx fs, x = .ref a ∧ H2 a = some (.ins C dx fs) ∧ Cls K C ∧ NoAttr K C f ∧ fs.length < 1000 ∧ Q σ (upd H2 a (.ins C dx (putF f v fs)))
theorem pg_fld (ha : PE X o ta) : PG X (.Attribute o f pos) (gFld X.K ta f) := by
  refine ⟨fun pins s σ H v u Q I r h => ?_⟩
  rw [assign_Attribute]
  refine wpAny_bind (wpAny_holding (thn (ha.run pins s σ H _ I h) fun ov s2 hh => ?_))
  obtain ⟨x, H2, I2, rx, a, C, dx, fs, ex, ea, c, n, l, q2⟩ := hh
  subst ex
  obtain rfl : ov = Value.ref a := rx
  refine wpAny_bind (wpAny_standAt (wpAny_bind (wpAny_holding ?_)))
  exact setattr_ok I2 ea c n l r fun s3 I3 => wpAny_release ⟨σ, _, I3, q2⟩
end
section
variable {X : Cx} {G : Cfg} {W : WX} {NF : Nat} {pos pos' : Pos} {a b c : Expr} {ma mb mc : MX} {es : List Expr}
def gAttM (f : Nat) (o : MX) : MG := fun v e M => bindS (o e M) e fun x M => setA f x v M (.nx e)
theorem rg_attr (F : Fx X.K G NF) {f : Nat} {x : Str} (hf : f < NF) (hx : G.fname f = x) (ha : RE X G W a ma) : RG X G W (.Attribute a x pos) (gAttM f ma) := by
  subst hx
  refine PG.imp (pg_fld ha) fun v σ H Q ⟨ρ0, M0, e, u, R, E, ev, ou, p⟩ => ?_
  subst ev
  refine se_atS R E p fun ρ M H x x1 R o E p => ?_
  obtain ⟨n, c, fs, rfl, hn, hc, hl, p1⟩ := setA_inv p
  obtain ⟨⟨dx, hi⟩, _⟩ := R.ins hn
  refine ⟨ρ n, G.cls c, dx, imF G ρ fs, rfl, hi, F.cl c hc, F.no c f hc hf, by rw [List.length_map]; omega, ?_⟩
  have R' := R.setI (f := f) (dx := dx) hn (ou.mono x1.1)
  have q := p1 ρ _ σ Ex.refl R' E
  rw [← im_ex x1 ou]
  exact q
theorem rs_asg2 {g1 g2 : MG} (ha : RE X G W a ma) (h1 : RG X G W b g1) (h2 : RG X G W c g2) (hh : (assignEach [b, c] X.env).map (·.2) = [assign b X.env, assign c X.env] := by rfl) (hw : swappedStores [b, c] a X.env = pure none := by rfl) :
    RS X G W (.Assign [b, c] a pos) (mAsg2 g1 g2 ma) :=
  PS.imp (ps_asg2 ha h1 h2 hh hw) fun D σ H ⟨_, _, _, R, E, p⟩ => se_atS R E p fun ρ M H v _ R o E p => by
    refine ⟨ρ, M, _, v, R, E, rfl, o, ?_⟩
    cases q : g1 v _ M with
    | nx e' M' =>
      rw [q] at p
      exact fun ρ' H' σ' x R' E' => ⟨ρ', M', e', v, R', E', (im_ex x o).symm, o.mono x.1, thenG_D (PoS.mono x p)⟩
    | ex z e' M' => rw [q] at p; exact p
    | rt _ _ => rw [q] at p; exact p.elim
    | bk _ _ => rw [q] at p; exact p.elim
    | ct _ _ => rw [q] at p; exact p.elim
    | bad => rw [q] at p; exact p.elim
end
/-! ### a, *b = .. -/
section
variable {prog : Program} {w : World} {A : Around} {E : Value → Shared → Prop} {s : Shared}
theorem star_list {l : Addr} {x : Value} {xs : List Value} {Q : List Value → Shared → Prop} (hh : A.handled = none) (hl : s.heap.IsList l (x :: xs).toArray) (hz : (x :: xs).length ≤ 16384)
    (h : ∀ (h2 : Heap) (tk : Nat), (∀ b o, s.heap.get? b = some o → h2.get? b = some o) → Q [x, .ref h2.objs.size] { s with heap := h2.push { cls := .type "list", data := .seq xs.toArray }, toks := tk }) :
    wpAny (model prog w) A (unpackItems (.ref l) 2 (some 1)) Q E s := by
  have n1 : l ≠ s.heap.objs.size := by obtain ⟨o, ho, _⟩ := hl; exact Nat.ne_of_lt (Heap.lt_size ho)
  have sz : (x :: xs).toArray.size = xs.length + 1 := by rw [List.size_toArray]; rfl
  have hz' : xs.length + 1 ≤ 16384 := hz
  unfold unpackItems
  refine wpAny_bind ?_
  unfold notIterableAtAll
  refine wpAny_bind (wpAny_specialOf hl.typeIs slot_list_iter.lookup (wpAny_pure ?_))
  simp only [Bool.false_eq_true, if_false]
  refine wpAny_bind (wpAny_holding (wpAny_pyIter_list hl ?_))
  refine wpAny_bind (wpAny_holding (PySem.W.kun_draw n1 1 0 _ _ ⟨_, Heap.get?_push_size _ rfl, rfl, rfl⟩ (hl.push _) (by omega) fun h₁ hit₁ hs₁ => ?_))
  have hl₁ : h₁.IsList l (x :: xs).toArray := (hl.push _).extBut hs₁.extBut n1
  have k1 := hit₁
  obtain ⟨oi, hoi, _⟩ := k1
  have k2 := hl₁
  obtain ⟨ol, hol, _⟩ := k2
  have e1 : List.take 1 (List.drop 0 (x :: xs).toArray.toList) = [x] := by simp
  rw [e1, if_neg (show ¬ ([x] : List Value).length < 1 from Nat.lt_irrefl 1)]
  refine wpAny_bind (wpAny_holding (PySem.W.kun_collect (s := { s with heap := h₁ }) (T := "list_iterator") (.inr (.inr (.inl rfl))) (Walks.list (A := A.in1) hh s.heap.objs.size l n1 (x :: xs).toArray) (fun j u st => st.1.typeIs) (k := 1) (by omega) ⟨hit₁, hl₁⟩ (Heap.lt_size hoi) (Heap.lt_size hol) (fun h₂ tk hk => ?_) (by rw [sizeLine_eq]; omega)))
  have e2 : (x :: xs).toArray.toList.drop 1 = xs := by simp
  rw [e2]
  show wpAny _ _ (if xs.length < 0 then _ else _) _ _ _
  rw [if_neg (Nat.not_lt_zero _)]
  show wpAny _ _ (newList (xs.take xs.length) >>= fun d => pure ([x] ++ [d] ++ xs.drop xs.length)) _ _ _
  rw [List.take_length, List.drop_length]
  have k : ∀ b o, s.heap.get? b = some o → h₂.get? b = some o := fun b o e => by
    have hb : b ≠ s.heap.objs.size := Nat.ne_of_lt (Heap.lt_size e)
    exact hk b o hb (hs₁.extBut b o hb (Heap.get?_push_of_some _ e))
  exact wpAny_bind (wpAny_newList (wpAny_pure (h h₂ tk k)) (by rw [sizeLine_eq]; omega))
theorem star_tuple {l : Addr} {x : Value} {xs : List Value} {Q : List Value → Shared → Prop} (hh : A.handled = none) (hl : IsTup s.heap l (x :: xs).toArray) (hz : (x :: xs).length ≤ 16384)
    (h : ∀ (h2 : Heap) (tk : Nat), (∀ b o, s.heap.get? b = some o → h2.get? b = some o) → Q [x, .ref h2.objs.size] { s with heap := h2.push { cls := .type "list", data := .seq xs.toArray }, toks := tk }) :
    wpAny (model prog w) A (unpackItems (.ref l) 2 (some 1)) Q E s := by
  have n1 : l ≠ s.heap.objs.size := by obtain ⟨o, ho, _⟩ := hl; exact Nat.ne_of_lt (Heap.lt_size ho)
  have sz : (x :: xs).toArray.size = xs.length + 1 := by rw [List.size_toArray]; rfl
  have hz' : xs.length + 1 ≤ 16384 := hz
  unfold unpackItems
  refine wpAny_bind ?_
  unfold notIterableAtAll
  refine wpAny_bind (wpAny_specialOf hl.typeIs slot_tuple_iter.lookup (wpAny_pure ?_))
  simp only [Bool.false_eq_true, if_false]
  refine wpAny_bind (wpAny_holding (iter_tuple hl ?_))
  refine wpAny_bind (wpAny_holding (draw_tuple n1 1 0 _ _ ⟨_, Heap.get?_push_size _ rfl, rfl, rfl⟩ (hl.push _) (by omega) fun h₁ hit₁ hs₁ => ?_))
  have hl₁ : IsTup h₁ l (x :: xs).toArray := (hl.push _).extBut hs₁.extBut n1
  have k1 := hit₁
  obtain ⟨oi, hoi, _⟩ := k1
  have k2 := hl₁
  obtain ⟨ol, hol, _⟩ := k2
  have e1 : List.take 1 (List.drop 0 (x :: xs).toArray.toList) = [x] := by simp
  rw [e1, if_neg (show ¬ ([x] : List Value).length < 1 from Nat.lt_irrefl 1)]
  refine wpAny_bind (wpAny_holding (PySem.W.kun_collect (s := { s with heap := h₁ }) (T := "tuple_iterator") (.inr (.inr (.inr rfl))) (Walks.tuple (A := A.in1) hh s.heap.objs.size l n1 (x :: xs).toArray) (fun j u st => st.1.typeIs) (k := 1) (by omega) ⟨hit₁, hl₁⟩ (Heap.lt_size hoi) (Heap.lt_size hol) (fun h₂ tk hk => ?_) (by rw [sizeLine_eq]; omega)))
  have e2 : (x :: xs).toArray.toList.drop 1 = xs := by simp
  rw [e2]
  show wpAny _ _ (if xs.length < 0 then _ else _) _ _ _
  rw [if_neg (Nat.not_lt_zero _)]
  show wpAny _ _ (newList (xs.take xs.length) >>= fun d => pure ([x] ++ [d] ++ xs.drop xs.length)) _ _ _
  rw [List.take_length, List.drop_length]
  have k : ∀ b o, s.heap.get? b = some o → h₂.get? b = some o := fun b o e => by
    have hb : b ≠ s.heap.objs.size := Nat.ne_of_lt (Heap.lt_size e)
    exact hk b o hb (hs₁.extBut b o hb (Heap.get?_push_of_some _ e))
  exact wpAny_bind (wpAny_newList (wpAny_pure (h h₂ tk k)) (by rw [sizeLine_eq]; omega))
end
def gStar (K : PySem.W.Frag) (g : TGs) : TG := fun v σ H Q => ∃ a y ys, v = .ref a ∧ (SqL K H a (y :: ys) ∨ SqT K H a (y :: ys)) ∧ ys.length < 16384 ∧ ∀ D, H D = none → g [y, .ref D] σ (upd H D (.lst ys)) Q
theorem pg_star {X : Cx} {a b : Expr} {g : TGs} {k : Nat} {p pos : Pos} (hc : X.calm = true) (h : PGs X [a, b] g) (hm : (assignEach [a, .Starred b p] X.env).map (·.2) = (assignEach [a, b] X.env).map (·.2) := by rfl) (hn : (assignEach [a, .Starred b p] X.env).length = 2 := by rfl)
    (hs : (assignEach [a, .Starred b p] X.env).findIdx? (·.1) = some 1 := by rfl) : PG X (.Tuple [a, .Starred b p] k pos) (gStar X.K g) := by
  refine ⟨fun pins s σ H v u Q I r hw => ?_⟩
  obtain ⟨l, y, ys, e1, hq, hl, hw⟩ := hw
  subst e1
  obtain rfl : u = Value.ref l := r
  rw [assign_Tuple]
  refine wpAny_bind (wpAny_standAt ?_)
  unfold unpack
  rw [hn, hs, hm]
  have fin : ∀ (u : Value) (us : List Value) (h2 : Heap) (tk : Nat), RelV y u → Vals ys us → (∀ b o, s.heap.get? b = some o → h2.get? b = some o) →
      wpAny (model X.prog X.w) X.A (assignInOrder ((assignEach [a, b] X.env).map (·.2)) [u, .ref h2.objs.size]) (fun _ s' => ∃ σ' H', Inv X pins σ' H' s' ∧ Q σ' H') X.xe { s with heap := h2.push { cls := .type "list", data := .seq us.toArray }, toks := tk } := fun u us h2 tk ru rs kk => by
    have I1 : Inv X pins σ H { s with heap := h2, toks := s.toks } := I.kept kk
    have hD : H h2.objs.size = none := I1.hok.fresh (Nat.le_refl _)
    have I2 : Inv X pins σ (upd H h2.objs.size (.lst ys)) { s with heap := h2.push { cls := .type "list", data := .seq us.toArray }, toks := tk } :=
      I1.laid (t' := tk) (fun b o e => Heap.get?_push_of_some _ e) (Nat.le_refl _) ⟨by rw [sizeLine_eq]; omega, us, 0, rs, Heap.get?_push_size _ rfl⟩
    exact h.run pins _ σ _ _ _ Q I2 (.cons ru (.cons (show RelV (V.ref h2.objs.size) (Value.ref h2.objs.size) from rfl) .nil)) (hw h2.objs.size hD)
  rcases hq with hq | hq
  · obtain ⟨its, rv, pl, hz⟩ := I.list hq
    cases rv with
    | cons r1 r2 =>
      have l2 := Paired.length r2
      exact wpAny_bind (wpAny_holding (star_list (I.ok.hd hc) pl.isList (by rw [List.length_cons]; omega) fun h2 tk kk => fin _ _ h2 tk r1 r2 kk))
  · obtain ⟨its, rv, pl, hz⟩ := I.tuple hq
    cases rv with
    | cons r1 r2 =>
      have l2 := Paired.length r2
      exact wpAny_bind (wpAny_holding (star_tuple (I.ok.hd hc) pl (by rw [List.length_cons]; omega) fun h2 tk kk => fin _ _ h2 tk r1 r2 kk))
def gStarM (g : List MV → Env → MS → SOut) : MG := fun v e M => match v with
  | .ref m => (match M.get m with
    | some (.lst (x :: xs)) => (match M.new (.lst xs) (fun n M => .ok (.ref n) M) with
      | .ok r M => if xs.length < 16384 then g [x, r] e M else .bad
      | _ => .bad)
    | some (.tup (x :: xs)) => (match M.new (.lst xs) (fun n M => .ok (.ref n) M) with
      | .ok r M => if xs.length < 16384 then g [x, r] e M else .bad
      | _ => .bad)
    | _ => .bad)
  | _ => .bad
theorem newS {G : Cfg} {ρ : Nat → Addr} {M : MS} {H : Hp} {W : WX} {xs : List MV} {x : MV} {g : List MV → Env → MS → SOut} {e : Env} {D : Ends} (R : Rl G ρ M H) (ok : okVs M.nx (x :: xs)) (p : PoS G ρ M.nx W (match M.new (.lst xs) (fun n M => .ok (.ref n) M) with
      | .ok r M => if xs.length < 16384 then g [x, r] e M else .bad
      | _ => .bad) D) : xs.length < 16384 ∧ ∀ a, H a = none → ∃ M', M'.nx = M.nx + 1 ∧ Rl G (bump ρ M.nx a) M' (upd H a (.lst (ims G ρ xs))) ∧ Ex ρ M.nx (bump ρ M.nx a) M'.nx ∧ PoS G (bump ρ M.nx a) M'.nx W (g [x, .ref M.nx] e M') D := by
  unfold MS.new at p
  dsimp only at p
  by_cases z : xs.length < 16384
  · rw [if_pos z] at p
    have ot : okVs M.nx xs := fun w hw => ok w (List.mem_cons_of_mem _ hw)
    refine ⟨z, fun a ha => ⟨_, rfl, R.newG (ob := .lst xs) ha (okVs.mono (Nat.le_succ _) ot) (same_upd ha) ?_ (R.some_at _) R.none_at, Ex.bump, PoS.mono Ex.bump p⟩⟩
    show upd H a _ a = _
    rw [upd_same, ims_bump ot]
  · rw [if_neg z] at p; exact p.elim
theorem rg_star {X : Cx} {G : Cfg} {W : WX} {a b : Expr} {g : List MV → Env → MS → SOut} {k : Nat} {p pos : Pos} (hK : X.K = G.K) (hc : X.calm = true) (h : RGs X G W [a, b] g) (hm : (assignEach [a, .Starred b p] X.env).map (·.2) = (assignEach [a, b] X.env).map (·.2) := by rfl) (hn : (assignEach [a, .Starred b p] X.env).length = 2 := by rfl)
    (hs : (assignEach [a, .Starred b p] X.env).findIdx? (·.1) = some 1 := by rfl) : RG X G W (.Tuple [a, .Starred b p] k pos) (gStarM g) :=
  PG.imp (pg_star hc h hm hn hs) fun v σ H Q ⟨ρ, M, e, u, R, E, ev, ou, p⟩ => by
    subst ev
    have fin : ∀ {m : Nat} {x : MV} {xs : List MV}, okV M.nx (.ref m) → (SqL G.K H (ρ m) (ims G ρ (x :: xs)) ∨ SqT G.K H (ρ m) (ims G ρ (x :: xs))) → okVs M.nx (x :: xs) → PoS G ρ M.nx W (match M.new (.lst xs) (fun n M => .ok (.ref n) M) with
        | .ok r M => if xs.length < 16384 then g [x, r] e M else .bad
        | _ => .bad) (endG Q) → gStar X.K (SGs G W g) (.ref (ρ m)) σ H Q := fun {m x xs} om sq ok p => by
      obtain ⟨z, pp⟩ := newS R ok p
      refine ⟨ρ m, im G ρ x, ims G ρ xs, rfl, by rw [hK]; exact sq, by rw [List.length_map]; exact z, fun D hD => ?_⟩
      obtain ⟨M', en, R', xb, p2⟩ := pp D hD
      have ox := ok x List.mem_cons_self
      refine ⟨bump ρ M.nx D, M', e, [x, .ref M.nx], R', E.mono xb, ?_, fun w hw => ?_, p2⟩
      · show [im G ρ x, V.ref D] = [im G (bump ρ M.nx D) x, V.ref (bump ρ M.nx D M.nx)]
        rw [im_ex xb ox, show bump ρ M.nx D M.nx = D from if_pos rfl]
      · simp only [List.mem_cons, List.not_mem_nil, or_false] at hw
        rcases hw with rfl | rfl
        · exact ox.mono xb.1
        · show M.nx < M'.nx
          omega
    unfold gStarM at p
    cases u with
    | ref m =>
      dsimp only at p
      cases q : M.get m with
      | none => rw [q] at p; exact p.elim
      | some ob =>
        rw [q] at p
        cases ob with
        | lst l =>
          obtain ⟨c, ok⟩ := R.lst q
          cases l with
          | nil => exact p.elim
          | cons x xs => exact fin ou (.inl (.inl (.inl c))) ok p
        | tup l =>
          obtain ⟨c, ok⟩ := R.tup (show tupOf (M.get m) = some l by rw [q]; rfl)
          cases l with
          | nil => exact p.elim
          | cons x xs => exact fin ou (.inr c) ok p
        | _ => exact p.elim
    | _ => exact p.elim
end PM
end
noncomputable section
namespace PM
open PySem PySem.Spec PyProof.Rows L2
/-! ## isinstance -/
inductive MCls where
  | int | bool | str | tup | lst
inductive MTy where
  | non | int | bool | str | tup | lst
def tyM (v : MV) (M : MS) : Option MTy := match v with
  | .non => some .non
  | .int _ => some .int
  | .bl _ => some .bool
  | .str _ => some .str
  | .sym _ _ => some .str
  | .ref n => (match M.get n with
    | some (.tup _) => some .tup
    | some (.ktup _) => some .tup
    | some (.lst _) => some .lst
    | _ => none)
  | .opq => none
def MTy.s : MTy → String
  | .non => "NoneType" | .int => "int" | .bool => "bool" | .str => "str" | .tup => "tuple" | .lst => "list"
def MCls.s : MCls → String
  | .int => "int" | .bool => "bool" | .str => "str" | .tup => "tuple" | .lst => "list"
def isiB (t : MTy) (c : MCls) : Bool := match c with
  | .int => (match t with | .int => true | .bool => true | _ => false)
  | .bool => (match t with | .bool => true | _ => false)
  | .str => (match t with | .str => true | _ => false)
  | .tup => (match t with | .tup => true | _ => false)
  | .lst => (match t with | .lst => true | _ => false)
theorem isi_kit : ∀ (t : MTy) (c : MCls), kitB t.s c.s = some (isiB t c) := by
  intro t c
  cases t <;> cases c <;> decide +kernel
def oIsi (c : MCls) (v : MV) (M : MS) : Out MV := someO (tyM v M) fun t => .ok (.bl (isiB t c)) M
def mIsi (c : MCls) (a : MX) : MX := mUn (oIsi c) a
section
variable {X : Cx} {G : Cfg} {W : WX} {a b c : Expr} {ma mb mc : MX} {p p2 pos : Pos}
theorem ty_ok {ρ : Nat → Addr} {M : MS} {H : Hp} {v : MV} {t : MTy} (R : Rl G ρ M H) (h : tyM v M = some t) : TyX G.K H (im G ρ v) (.type t.s) := by
  unfold tyM at h
  cases v with
  | non => cases h; exact .base .non
  | int i => cases h; exact .base (.int i)
  | bl i => cases h; exact .base (.bl i)
  | str i => cases h; exact .base (.str i)
  | sym f i => cases h; exact .base (.str _)
  | opq => cases h
  | ref n =>
    dsimp only at h
    cases q : M.get n with
    | none => rw [q] at h; cases h
    | some ob =>
      rw [q] at h
      cases ob with
      | tup xs => cases h; exact .base (.tup (R.tupH q).1)
      | lst xs => cases h; exact .base (.lst (R.lst q).1)
      | ktup xs =>
        cases h
        rcases (R.tup (show tupOf (M.get n) = some xs by rw [q]; rfl)).1 with (c | ⟨o, c⟩) | ⟨o, its, m, l, oc, _⟩
        · exact .base (.tup c)
        · exact .fTuple c
        · exact .kTuple l oc
      | _ => cases h
theorem re_isi {x : Str} (c : MCls) (hK : X.K = G.K) (hg : Gl X "isinstance") (hm : X.mg "isinstance" = none) (hgx : Gl X x) (hmx : X.mg x = none) (hv : bootBuiltins x = some (.type c.s)) (ha : RE X G W a ma) (hn : x ≠ "__name__" := by decide) (hd : (x == ("__debug__" : Str)) = false := by decide)
    (he : starEach (a :: [.Name x p2]) X.env = (false, eval a X.env) :: starEach [.Name x p2] X.env := by rfl) (he2 : starEach [.Name x p2] X.env = (false, eval (.Name x p2) X.env) :: starEach [] X.env := by rfl) (hpl : (backTo pos (starEach [.Name x p2] X.env)).any (·.1) = false := by rfl) :
    RE X G W (.Call (.Name "isinstance" p) [a, .Name x p2] [] pos) (mIsi c ma) := by
  have hc : PE X (.Name x p2) (tC (.ty c.s)) := pe_bltn hgx hmx hv rfl hn hd
  refine PE.imp (pe_callB call_isi hg hm boot_isinstance (pa_cons ha (pa_cons hc pa_nil he2) he) (by decide) (by decide) he hpl) fun σ H Q ⟨_, _, _, R, E, p⟩ => se_at R E p fun ρ M H v _ R o E p => ?_
  obtain ⟨t, ht, p1⟩ := someO_inv p
  refine ⟨_, _, .type t.s, .type c.s, isiB t c, rfl, .ty c.s, by rw [hK]; exact ty_ok R ht, kit_ty (isi_kit t c), Po.fin R p1 trivial⟩
/-! ## dict([..]), tuple([..]) -/
def pairsOf (M : MS) : List MV → Option (List (MKey × MV))
  | [] => some []
  | v :: vs => match v with
    | .ref n => (match tupOf (M.get n) with
      | some [k, x] => (match keyOf k with
        | some key => (match pairsOf M vs with
          | some r => some ((key, x) :: r)
          | none => none)
        | none => none)
      | _ => none)
    | _ => none
def mergeM : List (MKey × MV) → List (MKey × MV) → Option (List (MKey × MV))
  | acc, [] => some acc
  | acc, p :: ps => match acc.all fun q => cmpK q.1 p.1 with
    | true => mergeM (aPut acc p.1 p.2) ps
    | false => none
theorem pairs_ok {ρ : Nat → Addr} {M : MS} {H : Hp} (R : Rl G ρ M H) : ∀ {l : List MV} {ps : List (MKey × MV)}, pairsOf M l = some ps →
    ∃ as : List Addr, ims G ρ l = as.map V.ref ∧ Paired (fun p (kv : Key × V) => SqT G.K H p [kV kv.1, kv.2]) as (imD G ρ ps) ∧ ∀ p ∈ ps, okV M.nx p.2
  | [], ps, h => by
    cases h
    exact ⟨[], rfl, .nil, fun _ h => nomatch h⟩
  | v :: vs, ps, h => by
    unfold pairsOf at h
    cases v with
    | ref n =>
      dsimp only at h
      cases q : tupOf (M.get n) with
      | none => rw [q] at h; cases h
      | some xs =>
        rw [q] at h
        obtain ⟨c, ok⟩ := R.tup q
        match xs, c, ok, h with
        | [], _, _, h => cases h
        | [_], _, _, h => cases h
        | _ :: _ :: _ :: _, _, _, h => cases h
        | [k, x], c, ok, h =>
          dsimp only at h
          cases q2 : keyOf k with
          | none => rw [q2] at h; cases h
          | some key =>
            rw [q2] at h
            dsimp only at h
            cases q3 : pairsOf M vs with
            | none => rw [q3] at h; cases h
            | some r =>
              rw [q3] at h
              cases h
              obtain ⟨as, e1, e2, e3⟩ := pairs_ok R q3
              refine ⟨ρ n :: as, by rw [List.map_cons, ← e1]; rfl, .cons ?_ e2, fun p hp => ?_⟩
              · have c' : SqT G.K H (ρ n) [im G ρ k, im G ρ x] := c
                rw [keyOf_im q2] at c'
                exact c'
              · rcases List.mem_cons.mp hp with e | e
                · rw [e]; exact ok x (by simp)
                · exact e3 p e
    | _ => cases h
theorem merge_ok {ρ : Nat → Addr} {nx : Nat} : ∀ {ps acc r : List (MKey × MV)}, mergeM acc ps = some r → (∀ p ∈ acc, okV nx p.2) → (∀ p ∈ ps, okV nx p.2) → mergeK (imD G ρ acc) (imD G ρ ps) = imD G ρ r ∧ ∀ p ∈ r, okV nx p.2
  | [], acc, r, h, h1, _ => by
    cases h
    exact ⟨rfl, h1⟩
  | p :: ps, acc, r, h, h1, h2 => by
    unfold mergeM at h
    cases z : acc.all fun q => cmpK q.1 p.1 with
    | false => rw [z] at h; cases h
    | true =>
      rw [z] at h
      have hk : ∀ q ∈ acc, imK G q.1 = imK G p.1 → q.1 = p.1 := fun q hq => cmpK_ok (List.all_eq_true.mp z q hq)
      have ih := merge_ok (ρ := ρ) (nx := nx) h (fun q hq => (mem_aPut hq).elim (h1 q) fun e => by rw [e]; exact h2 p List.mem_cons_self) fun q hq => h2 q (List.mem_cons_of_mem _ hq)
      refine ⟨?_, ih.2⟩
      rw [← ih.1]
      show mergeK (putK (imD G ρ acc) (imK G p.1) (im G ρ p.2)) (imD G ρ ps) = _
      rw [putK_im hk]
def oDictP (xs : List MV) (M : MS) : Out MV := one1 xs fun v => asL v M fun _ l => someO (pairsOf M l) fun ps => someO (mergeM [] ps) fun kvs => M.new (.dk kvs) fun n M => .ok (.ref n) M
theorem cn_dictP : CN G W (fun xs H Q => ∃ (a : Addr) (ps : List Addr) (kvs : List (Key × V)), xs = [.ref a] ∧ SqL G.K H a (ps.map V.ref) ∧ Paired (fun p kv => SqT G.K H p [kV kv.1, kv.2]) ps kvs ∧
    ∀ p, H p = none → Q (.ref p) (upd H p (.dK (mergeK [] kvs)))) oDictP := fun ρ M H σ vs Q R o p => by
  obtain ⟨y, rfl, p1⟩ := one_inv p
  obtain ⟨n, l, rfl, hl, p2⟩ := asL_inv p1
  obtain ⟨ps, h1, p3⟩ := someO_inv p2
  obtain ⟨kvs, h2, p4⟩ := someO_inv p3
  obtain ⟨as, e1, e2, e3⟩ := pairs_ok R h1
  obtain ⟨e4, e5⟩ := merge_ok (ρ := ρ) h2 (fun _ h => nomatch h) e3
  refine ⟨ρ n, as, imD G ρ ps, rfl, by rw [← e1]; exact .inl (.inl (R.lst hl).1), e2, ?_⟩
  have e4 : mergeK [] (imD G ρ ps) = imD G ρ kvs := e4
  rw [e4]
  exact new_dk_ok R p4 e5
def oTuple (v : MV) (M : MS) : Out MV := asL v M fun _ l => M.new (.tup l) fun n M => .ok (.ref n) M
theorem re_tupleOf (hK : X.K = G.K) (hg : Gl X "tuple") (hm : X.mg "tuple" = none) (ha : RE X G W a ma) (na : starEach [a] X.env = (false, eval a X.env) :: starEach [] X.env := by rfl) : RE X G W (.Call (.Name "tuple" p) [a] [] pos) (mUn oTuple ma) :=
  PE.imp (pe_tupleOf hg hm ha na) fun σ H Q ⟨_, _, _, R, E, p⟩ => se_at R E p fun ρ M H v _ R o E p => by
    obtain ⟨n, l, rfl, hl, p2⟩ := asL_inv p
    obtain ⟨c, k⟩ := R.lst hl
    exact .inl ⟨ρ n, _, rfl, .inl (.inl c), new_tup_ok R p2 k⟩
/-! ## a dict of the module -/
structure HD (K : PySem.W.Frag) (w : World) (a : Addr) (f : Str → Option Int) : Prop where
  at_ : ∀ s i, f s = some i → KDct K w a s (.int i)
def oHD (f : Str → Option Int) (v : MV) (M : MS) : Out MV := match v with
  | .str s => (match f s with
    | some i => .ok (.int i) M
    | none => .bad)
  | _ => .bad
theorem re_hd {x : Str} {ad : Addr} {f : Str → Option Int} (hg : Gl X x) (hm : X.mg x = some (.ref ad)) (h : HD X.K X.w ad f) (ha : RE X G W a ma) (hd : (x == ("__debug__" : Str)) = false := by decide) (hs : PlainIx a := by exact fun _ _ => rfl) :
    RE X G W (.Subscript (.Name x p) a pos) (mUn (oHD f) ma) := by
  have h1 : PE X (.Name x p) (tC (.ref ad)) := pe_glob hg hm rfl hd
  refine PE.imp (pe_ix ix_kdict h1 ha hs) fun σ H Q ⟨_, _, _, R, E, p⟩ => se_at R E p fun ρ M H v _ R o E p => ?_
  cases v with
  | str s =>
    unfold oHD at p
    dsimp only at p
    cases q : f s with
    | none => rw [q] at p; exact p.elim
    | some i =>
      rw [q] at p
      exact ⟨ad, s, .int i, rfl, rfl, h.at_ s i q, Po.fin R p trivial⟩
  | _ => exact p.elim
/-- a constant of the module that is an object -/
theorem re_globR {x : Str} {n : Nat} (hn : n < G.n0) (hg : Gl X x) (hm : X.mg x = some (.ref (G.ra n))) (hd : (x == ("__debug__" : Str)) = false := by decide) : RE X G W (.Name x pos) (mC (.ref n)) :=
  PE.imp (pe_glob (v := .ref (G.ra n)) hg hm rfl hd) fun σ H Q ⟨ρ, M, e, R, E, p⟩ => by
    have q := p ρ H Ex.refl R (Nat.lt_of_lt_of_le hn R.c.1)
    show Q (.ref (G.ra n)) H
    rw [← R.c.2 n hn]
    exact q
/-! ## {k: v, ..} -/
def mPairs : List (MX × MX) → Env → MS → (List (MV × MV) → MS → Out MV) → Out MV
  | [], _, M, k => k [] M
  | q :: r, e, M, k => (q.1 e M).bind fun x M => (q.2 e M).bind fun y M => mPairs r e M fun ps M => k ((x, y) :: ps) M
def keysP : List (MV × MV) → Option (List (MKey × MV))
  | [] => some []
  | p :: ps => match keyOf p.1 with
    | some k => (match keysP ps with
      | some r => some ((k, p.2) :: r)
      | none => none)
    | none => none
def endD (n : Nat) (ps : List (MV × MV)) (M : MS) : Out MV := match M.get n with
  | some (.dk []) => someO (keysP ps) fun kv => someO (mergeM [] kv) fun kvs => guardO (kv.length.ble 15) (.ok (.ref n) (M.put n (.dk kvs)))
  | _ => .bad
def mDisp (trs : List (MX × MX)) : MX := fun e M => M.new (.dk []) fun n M => mPairs trs e M fun ps M => endD n ps M
inductive RPs (X : Cx) (G : Cfg) (W : WX) : List (Option Expr) → List Expr → List (MX × MX) → Prop where
  | nil : RPs X G W [] [] []
  | cons {k v : Expr} {ks : List (Option Expr)} {vs : List Expr} {mk mv : MX} {r : List (MX × MX)} (hk : RE X G W k mk) (hv : RE X G W v mv) (hr : RPs X G W ks vs r) : RPs X G W (some k :: ks) (v :: vs) ((mk, mv) :: r)
theorem RPs.pps {ks : List (Option Expr)} {vs : List Expr} {trs : List (MX × MX)} (h : RPs X G W ks vs trs) : PPs X pos ks vs (trs.map fun q => (SE G W q.1, SE G W q.2)) := by
  induction h with
  | nil => exact pps_nil
  | cons hk hv _ ih => exact pps_cons hk hv ih
theorem keysP_ok {ρ : Nat → Addr} {nx : Nat} : ∀ {ps : List (MV × MV)} {kv : List (MKey × MV)}, keysP ps = some kv → (∀ p ∈ ps, okV nx p.1 ∧ okV nx p.2) → (ps.map fun p => (im G ρ p.1, im G ρ p.2)) = (imD G ρ kv).map (fun q => (kV q.1, q.2)) ∧ ∀ p ∈ kv, okV nx p.2
  | [], kv, h, _ => by cases h; exact ⟨rfl, fun _ h => nomatch h⟩
  | p :: ps, kv, h, ho => by
    unfold keysP at h
    cases q : keyOf p.1 with
    | none => rw [q] at h; cases h
    | some k =>
      rw [q] at h
      dsimp only at h
      cases q2 : keysP ps with
      | none => rw [q2] at h; cases h
      | some r =>
        rw [q2] at h
        cases h
        obtain ⟨e1, e2⟩ := keysP_ok (ρ := ρ) (nx := nx) q2 fun x hx => ho x (List.mem_cons_of_mem _ hx)
        refine ⟨?_, fun x hx => ?_⟩
        · rw [List.map_cons, e1, keyOf_im q]
          rfl
        · rcases List.mem_cons.mp hx with e | e
          · rw [e]; exact (ho p List.mem_cons_self).2
          · exact e2 x e
theorem pairs_at {σ : L2.St} {Q : VK} {T : List (V × V) → Hp → Prop} : ∀ {trs : List (MX × MX)} {ρ : Nat → Addr} {M : MS} {H : Hp} {e : Env} {k : List (MV × MV) → MS → Out MV} (R : Rl G ρ M H) (E : REnv G ρ M.nx σ e) (p : PoE G ρ M.nx W σ (mPairs trs e M k) Q)
    (c : ∀ ρ1 M1 H1 ps, Ex ρ M.nx ρ1 M1.nx → Rl G ρ1 M1 H1 → (∀ p ∈ ps, okV M1.nx p.1 ∧ okV M1.nx p.2) → PoE G ρ1 M1.nx W σ (k ps M1) Q → T (ps.map fun p => (im G ρ1 p.1, im G ρ1 p.2)) H1),
    tPairs (trs.map fun q => (SE G W q.1, SE G W q.2)) σ H T
  | [], ρ, M, H, e, k, R, E, p, c => c ρ M H [] Ex.refl R (fun _ h => nomatch h) p
  | q :: r, ρ, M, H, e, k, R, E, p, c => by
    refine se_at R E p fun ρ1 M1 H1 x x1 R1 o1 E1 p1 => se_at R1 E1 p1 fun ρ2 M2 H2 y x2 R2 o2 E2 p2 => ?_
    refine pairs_at (trs := r) (T := fun ps H3 => T ((im G ρ1 x, im G ρ2 y) :: ps) H3) R2 E2 p2 fun ρ3 M3 H3 ps x3 R3 o3 p3 => ?_
    have q := c ρ3 M3 H3 ((x, y) :: ps) ((x1.trans x2).trans x3) R3 (fun z hz => by
      rcases List.mem_cons.mp hz with e | e
      · rw [e]; exact ⟨o1.mono (x2.trans x3).1, o2.mono x3.1⟩
      · exact o3 z e) p3
    rw [List.map_cons] at q
    rw [← im_ex (x2.trans x3) o1, ← im_ex x3 o2]
    exact q
theorem re_disp {ks : List (Option Expr)} {vs : List Expr} {trs : List (MX × MX)} (h : RPs X G W ks vs trs) (hall : ks.all (·.isSome) = true := by rfl) (hl : ks.length = vs.length := by rfl) (h0 : ks ≠ [] := by exact List.cons_ne_nil _ _) (h15 : ks.length ≤ 15 := by decide) :
    RE X G W (.Dict ks vs pos) (mDisp trs) :=
  PE.imp (pe_disp h.pps hall hl h0 h15) fun σ H Q ⟨ρ, M, e, R, E, p⟩ => fun D hD => by
    obtain ⟨g1, g2, p1⟩ := new_inv R p
    have R1 := R.newG (ob := .dk []) hD (fun q hq => nomatch hq) (same_upd hD) (H' := upd H D (.dK [])) (by
      show upd H D _ D = _
      rw [upd_same]
      rfl) g1 g2
    have x1 : Ex ρ M.nx (bump ρ M.nx D) (M.nx + 1) := Ex.bump
    refine pairs_at R1 (E.mono x1) (Po.mono x1 p1) fun ρ2 M2 H2 ps x2 R2 o2 p2 => ?_
    have hn : ρ2 M.nx = D := (x2.2 _ (Nat.lt_succ_self _)).trans (if_pos rfl)
    unfold endD at p2
    cases q : M2.get M.nx with
    | none => rw [q] at p2; exact p2.elim
    | some ob =>
      rw [q] at p2
      match ob, q, p2 with
      | .dk [], q, p2 =>
        obtain ⟨kv, h1, p3⟩ := someO_inv p2
        obtain ⟨kvs, h2, p4⟩ := someO_inv p3
        obtain ⟨h3, p5⟩ := guardO_inv p4
        obtain ⟨e1, e2⟩ := keysP_ok (ρ := ρ2) h1 o2
        obtain ⟨e4, e5⟩ := merge_ok (ρ := ρ2) h2 (fun _ h => nomatch h) e2
        have c : H2 (ρ2 M.nx) = some (.dK []) := (R2.o _ _ q).2.2
        rw [hn] at c
        refine ⟨c, imD G ρ2 kv, e1, by rw [List.length_map]; exact Nat.le_of_ble_eq_true h3, ?_⟩
        have e4 : mergeK [] (imD G ρ2 kv) = imD G ρ2 kvs := e4
        rw [e4]
        have R3 := R2.write (ob' := .dk kvs) (u := .dK (imD G ρ2 kvs)) q rfl rfl e5 (by
          show upd H2 _ _ _ = _
          rw [upd_same])
        have z := p5 ρ2 _ Ex.refl R3 (R2.lt q)
        rw [hn] at z
        rw [show im G ρ2 (.ref M.nx) = V.ref D from congrArg V.ref hn] at z
        exact z
      | .dk (_ :: _), _, p2 => exact p2.elim
      | .lst _, _, p2 => exact p2.elim
      | .tup _, _, p2 => exact p2.elim
      | .ktup _, _, p2 => exact p2.elim
      | .dkL _, _, p2 => exact p2.elim
      | .dt _, _, p2 => exact p2.elim
      | .dtL _, _, p2 => exact p2.elim
      | .ins _ _, _, p2 => exact p2.elim
      | .xd _, _, p2 => exact p2.elim
/-! ## d.pop(a tuple) -/
def popT (dv yv : MV) (M : MS) : Out MV := someO (dkOf dv yv M) fun q => match q with
  | .t n kvs key false => someO (aGet kvs key) fun v => .ok v (M.put n (.dt (aDrop kvs key)))
  | _ => .bad
def isDT (v : MV) (M : MS) (k : Out MV) : Out MV := match v with
  | .ref n => (match M.get n with
    | some (.dt _) => k
    | _ => .bad)
  | _ => .bad
def mDPopT (d y : MX) : MX := fun e M => (d e M).bind fun dv M => isDT dv M ((y e M).bind fun yv M => popT dv yv M)
end
end PM
end
noncomputable section
namespace PM
open PySem PySem.Spec PyProof.Rows L2
section
variable {X : Cx} {G : Cfg} {W : WX} {a b c o e : Expr} {ma mb mc md_ me : MX} {p p2 pos pos' apos cpos : Pos}
/-! ## d.pop(a tuple), d[k] = .. as a target -/
theorem isDT_inv {ρ : Nat → Addr} {M : MS} {H : Hp} {σ : L2.St} {Q : VK} {v : MV} {k : Out MV} (R : Rl G ρ M H) (p : PoE G ρ M.nx W σ (isDT v M k) Q) : tyV G.K "dict" (im G ρ v) H ∧ PoE G ρ M.nx W σ k Q := by
  unfold isDT at p
  cases v with
  | ref n =>
    dsimp only at p
    cases q : M.get n with
    | none => rw [q] at p; exact p.elim
    | some ob =>
      rw [q] at p
      cases ob with
      | dt kvs =>
        refine ⟨?_, p⟩
        have c : H (ρ n) = some (.dT (imDt G ρ kvs)) := (R.o n _ q).2.2
        exact .inr (.inr (.inl ⟨rfl, .inr ⟨_, c⟩⟩))
      | _ => exact p.elim
  | _ => exact p.elim
theorem popT_ok {ρ : Nat → Addr} {M : MS} {H : Hp} {σ : L2.St} {Q : VK} {d y : MV} (R : Rl G ρ M H) (p : PoE G ρ M.nx W σ (popT d y M) Q) : rPopT1 (im G ρ d) [im G ρ y] H Q := by
  obtain ⟨q, h1, p3⟩ := someO_inv p
  have D := dkOf_ok R h1
  cases D with
  | t n kvs key bb e h hy hb c =>
    obtain ⟨w, h2, p4⟩ := someO_inv p3
    subst e
    refine ⟨ρ n, imDt G ρ kvs, key.map (imK G), bb, im G ρ w, rfl, by rw [hy], (R.o n _ h).2.2, hb, ?_, ?_⟩
    · have := valV_im (f := fun ks : List MKey => ks.map (imK G)) (g := im G ρ) c
      rw [h2] at this
      exact this
    · rw [dropK_im (f := fun ks : List MKey => ks.map (imK G)) c]
      have R3 : Rl G ρ (M.put n (.dt (aDrop kvs key))) (upd H (ρ n) (.dT (imDt G ρ (aDrop kvs key)))) := R.write h rfl rfl (fun p hp => (R.o n _ h).2.1 p (mem_aDrop hp)) upd_same
      exact Po.fin R3 p4 ((R.o n _ h).2.1 _ (mem_aGet h2))
  | _ => exact p3.elim
theorem re_dpopT (hu : X.A.units + 1 < cLine) (hK : X.K = G.K) (ho : RE X G W o md_) (he : RE X G W e me)
    (hbase : attributeBase o "pop" X.env (eval o X.env) = eval o X.env := by rfl)
    (hfew : ((backTo cpos (starEach [e] X.env)).all (fun x => !x.1) && (backToKw cpos (keywordEach [] X.env)).all (fun x => x.1.isSome)
      && decide (([e] : List Expr).length + ([] : List Keyword).length + (if ([] : List Keyword).isEmpty then 0 else 1) < 30)) = true := by rfl)
    (hline : (apos.endLine == cpos.line) = true := by rfl) (hs : starEach [e] X.env = (false, eval e X.env) :: starEach [] X.env := by rfl) (hplain : (backTo cpos (starEach [] X.env)).any (·.1) = false := by rfl) :
    RE X G W (.Call (.Attribute o "pop" apos) [e] [] cpos) (mDPopT md_ me) :=
  PE.imp (pe_bm PySem.F.plainAttrs_dict PySem.F.slot_dict_pop PySem.F.type_dict_pop (mt_popT1 hu) ho (pa_cons he pa_nil hs) hbase hfew hline hs hplain) fun σ H Q ⟨_, _, _, R, E, p⟩ => se_at R E p fun ρ M H v _ R o E p => by
    obtain ⟨ty, p1⟩ := isDT_inv R p
    refine ⟨by rw [hK]; exact ty, se_at R E p1 fun ρ2 M2 H2 u x R2 o2 E2 p2 => ?_⟩
    rw [← im_ex x o]
    exact popT_ok R2 p2
def gDPut (d y : MX) : MG := fun v e M => bindS (d e M) e fun dv M => bindS (y e M) e fun yv M => putD dv yv v M (.nx e)
theorem rg_dput (hu : X.A.units + 1 < cLine) (ha : RE X G W a ma) (hb : RE X G W b mb)
    (hh : ∀ v, assign (.Subscript a b pos) X.env v = (do
      let ov ← holding [v] (eval a X.env)
      let iv ← holding [v, ov] (eval b X.env)
      standAt pos
      holding [v, ov, iv] (setItem ov iv v)
      release [v, ov, iv] []) := by intro _; rfl) : RG X G W (.Subscript a b pos) (gDPut ma mb) :=
  PG.imp (pg_sub ha hb (set_dict hu) hh) fun v σ H Q ⟨ρ0, M0, e, u, R, E, ev, ou, p⟩ => by
    subst ev
    refine se_atS R E p fun ρ M H x x1 R o E p => se_atS R E p fun ρ2 M2 H2 y x2 R2 o2 E2 p2 => ?_
    obtain ⟨q, h1, h2, p3⟩ := putD_inv p2
    have ex := x1.trans x2
    obtain ⟨ad, H4, e1, e2, R4⟩ := (dkOf_ok R2 h1).put R2 h2 (ou.mono ex.1)
    rw [← im_ex x2 o, ← im_ex ex ou]
    exact ⟨ad, H4, e1, e2, p3 ρ2 H4 σ (by rw [DK.put_nx]; exact Ex.refl) R4 (by rw [DK.put_nx]; exact E2)⟩
/-! ## xs[i] += e, x += e -/
def rGetL : V → V → Hp → VK → Prop := fun o i H Q => ∃ l xs k v, o = .ref l ∧ i = .int k ∧ H l = some (.lst xs) ∧ 0 ≤ k ∧ k < 2 ^ 63 ∧ xs[k.toNat]? = some v ∧ Q v H
theorem get_list : PGet X rGetL := by
  intro pins s σ H o i ov iv Q I ro ri h
  obtain ⟨l, xs, k, v, rfl, rfl, hl, h0, h1, hx, q⟩ := h
  obtain rfl : ov = Value.ref l := ro
  obtain ⟨t, rfl⟩ := ri
  obtain ⟨its, r, pl, hz⟩ := I.list (.inl (.inl hl))
  obtain ⟨w, ew, rw'⟩ := r.get hx
  exact getItem_listL (l := its) pl.isList h0 h1 ew ⟨v, H, I, rw', q⟩
def getL (o i : MV) (M : MS) (k : MV → SOut) : SOut := match o, i with
  | .ref n, .int z => (match M.get n with
    | some (.lst xs) => (match decide (0 ≤ z) && decide (z < 1000000) with
      | true => (match xs[z.toNat]? with
        | some v => k v
        | none => .bad)
      | false => .bad)
    | _ => .bad)
  | _, _ => .bad
theorem getL_inv {ρ : Nat → Addr} {nx : Nat} {o i : MV} {M : MS} {k : MV → SOut} {D : Ends} (p : PoS G ρ nx W (getL o i M k) D) : ∃ n z xs v, o = .ref n ∧ i = .int z ∧ M.get n = some (.lst xs) ∧ 0 ≤ z ∧ z < 1000000 ∧ xs[z.toNat]? = some v ∧ PoS G ρ nx W (k v) D := by
  unfold getL at p
  cases o with
  | ref n =>
    cases i with
    | int z =>
      dsimp only at p
      cases q : M.get n with
      | none => rw [q] at p; exact p.elim
      | some ob =>
        rw [q] at p
        cases ob with
        | lst xs =>
          dsimp only at p
          cases q1 : decide (0 ≤ z) && decide (z < 1000000) with
          | false => rw [q1] at p; exact p.elim
          | true =>
            rw [q1] at p
            dsimp only at p
            obtain ⟨g1, g2⟩ := Bool.and_eq_true_iff.mp q1
            cases q2 : xs[z.toNat]? with
            | none => rw [q2] at p; exact p.elim
            | some v =>
              rw [q2] at p
              exact ⟨n, z, xs, v, rfl, rfl, q, of_decide_eq_true g1, of_decide_eq_true g2, q2, p⟩
        | _ => exact p.elim
    | _ => exact p.elim
  | _ => cases i <;> exact p.elim
def mAugL (g : Int → Int → Int) (o i v : MX) : MSt := fun e M => bindS (o e M) e fun ov M => bindS (i e M) e fun iv M => getL ov iv M fun x => bindS (v e M) e fun y M => intS g x y fun z => putL ov iv z M (.nx e)
theorem rs_augL {op : Operator} {g : Int → Int → Int} (hop : PIp X op (ipI g)) (ha : RE X G W a ma) (hb : RE X G W b mb) (hc : RE X G W c mc)
    (hh : ∀ ov iv new, augStore b ov iv new = (do holding [new, ov, iv] (setItem ov iv new); release [new, ov, iv] []; pure .next) := by intros; rfl) : RS X G W (.AugAssign (.Subscript a b pos') op c pos) (mAugL g ma mb mc) :=
  PS.imp (ps_augS ha hb get_list hc hop set_list hh) fun D σ H ⟨_, _, _, R, E, p⟩ => se_atS R E p fun ρ M H x x1 R o E p => se_atS R E p fun ρ2 M2 H2 y x2 R2 o2 E2 p2 => by
    obtain ⟨n, z, xs, v, rfl, rfl, q, h0, h1, hx, p3⟩ := getL_inv p2
    obtain ⟨cl, k⟩ := R2.lst q
    have en : ρ2 n = ρ n := x2.2 n o
    refine ⟨ρ n, ims G ρ2 xs, z, im G ρ2 v, rfl, rfl, by rw [← en]; exact cl, h0, by omega, ims_get? hx, se_atS R2 E2 p3 fun ρ3 M3 H3 w x3 R3 o3 E3 p4 => ?_⟩
    obtain ⟨i, j, ei, rfl, p5⟩ := intS_inv p4
    subst ei
    refine ⟨i, j, rfl, rfl, ?_⟩
    obtain ⟨n', z', ys, j', e1, e2, q', hj, p6⟩ := putL_inv p5
    cases e1
    cases e2
    obtain ⟨cl', k'⟩ := R3.lst q'
    have en' : ρ3 n = ρ n := (x3.2 n (R2.lt q)).trans en
    have R4 := R3.setL q' (ys := ys.set j' (.int (g i j))) fun w hw => by
      rcases List.mem_or_eq_of_mem_set hw with h | h
      · exact k' w h
      · rw [h]; trivial
    rw [en'] at cl' R4
    refine ⟨ρ n, ims G ρ3 ys, z, j', rfl, rfl, cl', by rw [List.length_map]; exact hj, ?_⟩
    have p7 := p6 ρ3 _ σ Ex.refl R4 E3
    rw [show ims G ρ3 (ys.set j' (.int (g i j))) = (ims G ρ3 ys).set j' (.int (g i j)) from List.map_set ..] at p7
    exact p7
def mAugN (i : Nat) (g : Int → Int → Int) (v : MX) : MSt := fun e M => bindS (mVar i e M) e fun x M => bindS (v e M) e fun y M => intS g x y fun z => .nx (e.set i (some z)) M
theorem rs_augN (i : Nat) {x : Str} {op : Operator} {g : Int → Int → Int} (hop : PIp X op (ipI g)) (hN : X.N.Nodup) (hi : X.N[i]? = some x) (hx : Loc X.env.scope x) (ha : RE X G W a ma) (hf : X.fn x = true ∨ X.env.scope.names.lookup x = some .local := by first | exact .inl rfl | exact .inr rfl | assumption) :
    RS X G W (.AugAssign (.Name x pos') op a pos) (mAugN i g ma) :=
  PS.imp (ps_aug hN hi hx ha hop hf) fun D σ H ⟨ρ, M, e, R, E, p⟩ => by
    unfold mAugN mVar at p
    cases q : e[i]? with
    | none => rw [q] at p; exact p.elim
    | some oo =>
      cases oo with
      | none => rw [q] at p; exact p.elim
      | some v =>
        rw [q] at p
        obtain ⟨o1, e1⟩ := E.2 i v q
        refine ⟨_, e1, se_atS R E p fun ρ2 M2 H2 w x2 R2 o2 E2 p2 => ?_⟩
        obtain ⟨i', j, ei, rfl, p3⟩ := intS_inv p2
        subst ei
        exact ⟨i', j, rfl, rfl, p3 ρ2 H2 _ Ex.refl R2 (E2.set (v := .int (g i' j)) i trivial)⟩
/-! ## try: .. finally: .., where nothing is raised -/
theorem ps_fin0 {body fs : List Stmt} {f₀ : Stmt} {tb tf : TS} (hb : PSs X.nox body tb) (hf : PSs X.nox (f₀ :: fs) tf) : PS X (.Try body [] [] (f₀ :: fs) pos) (fun D σ H => tb { nx := fun σ1 H1 => tf D σ1 H1, rt := fun _ _ => False } σ H) := by
  refine ⟨fun pins s σ H D I h => ?_⟩
  refine wpAny_Try_finally (wpAny_mono (hb.run pins s σ H { nx := fun σ1 H1 => tf D σ1 H1, rt := fun _ _ => False } (I.wish _) h) (fun g s1 z => ?_) fun _ _ z => False.elim z)
  cases g with
  | ret u => exact absurd z.choose_spec.choose_spec.choose_spec.2.2 id
  | brk => exact absurd z.choose_spec.choose_spec.2 id
  | cont => exact absurd z.choose_spec.choose_spec.2 id
  | next =>
    obtain ⟨σ1, H1, J1, q1⟩ := z
    refine wpAny_execs_nil (wpAny_mono (hf.run pins s1 σ1 H1 D (J1.unwish.wish _) q1) (fun g2 s2 q2 => ?_) fun _ _ z => False.elim z)
    have q3 : SP X pins D g2 s2 := q2.unwish
    cases g2 <;> exact q3
def noEx (o : SOut) : SOut := match o with
  | .nx e M => .nx e M
  | .rt v M => .rt v M
  | .bk e M => .bk e M
  | .ct e M => .ct e M
  | _ => .bad
def mFin (b f : MSt) : MSt := fun e M => match b e M with
  | .nx e M => noEx (f e M)
  | _ => .bad
theorem rs_fin {body fs : List Stmt} {f₀ : Stmt} {mbd mf : MSt} (hb : RSs X.nox G WF body mbd) (hf : RSs X.nox G WF (f₀ :: fs) mf) : RS X G W (.Try body [] [] (f₀ :: fs) pos) (mFin mbd mf) :=
  PS.imp (ps_fin0 hb hf) fun D σ H ⟨ρ, M, e, R, E, p⟩ => by
    refine ⟨ρ, M, e, R, E, ?_⟩
    unfold mFin at p
    cases q : mbd e M with
    | nx e1 M1 =>
      rw [q] at p
      intro ρ1 H1 σ1 x R1 E1
      refine ⟨ρ1, M1, e1, R1, E1, ?_⟩
      have p1 := PoS.mono x p
      dsimp only at p1
      cases q2 : mf e1 M1 with
      | nx e2 M2 => rw [q2] at p1; exact p1
      | rt v M2 => rw [q2] at p1; exact p1
      | bk e2 M2 => rw [q2] at p1; exact p1
      | ct e2 M2 => rw [q2] at p1; exact p1
      | ex z e2 M2 => rw [q2] at p1; exact p1.elim
      | bad => rw [q2] at p1; exact p1
    | rt _ _ => rw [q] at p; exact p.elim
    | bk _ _ => rw [q] at p; exact p.elim
    | ct _ _ => rw [q] at p; exact p.elim
    | ex _ _ _ => rw [q] at p; exact p.elim
    | bad => rw [q] at p; exact p.elim
end
end PM
end
noncomputable section
namespace PM
open PySem PySem.Spec PyProof.Rows L2
/-! ## short forms for a printed derivation -/
section
variable {X : Cx} {G : Cfg} {W : WX} {a b c o e : Expr} {ma mb mc md_ me : MX} {p p2 pos pos' apos cpos : Pos}
theorem re_gi {x : Str} {i : Int} (h : ∃ t, X.mg x = some (.int i t)) (hg : Gl X x) (hd : (x == ("__debug__" : Str)) = false := by decide) : RE X G W (.Name x pos) (mC (.int i)) := by
  obtain ⟨t, h⟩ := h
  exact re_glob hg h (fun _ => ⟨t, rfl⟩) (fun _ => trivial) hd
theorem re_gs {x s : Str} (h : ∃ t, X.mg x = some (.str s t)) (hg : Gl X x) (hd : (x == ("__debug__" : Str)) = false := by decide) : RE X G W (.Name x pos) (mC (.str s)) := by
  obtain ⟨t, h⟩ := h
  exact re_glob hg h (fun _ => ⟨t, rfl⟩) (fun _ => trivial) hd
def oNeg (v : MV) (M : MS) : Out MV := asI v fun i => .ok (.int (-i)) M
theorem re_neg (ha : RE X G W a ma) : RE X G W (.UnaryOp .USub a pos) (mUn oNeg ma) :=
  re_un (pe_un un_neg ha) fun ρ M H σ v Q R o p => by
    obtain ⟨i, rfl, p1⟩ := asI_inv p
    exact ⟨i, rfl, Po.fin R p1 trivial⟩
theorem e_lt (ha : RE X G W a ma) (hb : RE X G W b mb) : RE X G W (.Compare a [.Lt] [b] pos) (mBi (oCmp fun i j => decide (i < j)) ma mb) := re_cmp op_lt (cb_cmp _) ha hb (nomark _)
theorem e_le (ha : RE X G W a ma) (hb : RE X G W b mb) : RE X G W (.Compare a [.LtE] [b] pos) (mBi (oCmp fun i j => decide (i ≤ j)) ma mb) := re_cmp op_le (cb_cmp _) ha hb (nomark _)
theorem e_gt (ha : RE X G W a ma) (hb : RE X G W b mb) : RE X G W (.Compare a [.Gt] [b] pos) (mBi (oCmp fun i j => decide (j < i)) ma mb) := re_cmp op_gt (cb_cmp _) ha hb (nomark _)
theorem e_ge (ha : RE X G W a ma) (hb : RE X G W b mb) : RE X G W (.Compare a [.GtE] [b] pos) (mBi (oCmp fun i j => decide (j ≤ i)) ma mb) := re_cmp op_ge (cb_cmp _) ha hb (nomark _)
theorem e_is (ha : RE X G W a ma) (hb : RE X G W b mb) : RE X G W (.Compare a [.Is] [b] pos) (mBi (oIs false) ma mb) := re_cmp op_isN cb_is ha hb (nomark _)
theorem e_isn (ha : RE X G W a ma) (hb : RE X G W b mb) : RE X G W (.Compare a [.IsNot] [b] pos) (mBi (oIs true) ma mb) := re_cmp op_notN cb_isnot ha hb (nomark _)
theorem t_lt (ha : RE X G W a ma) (hb : RE X G W b mb) : RT X G W (.Compare a [.Lt] [b] pos) (toT (mBi (oCmp fun i j => decide (i < j)) ma mb)) := rt_cmp op_lt (cb_cmp _) ha hb (nomark _)
theorem t_le (ha : RE X G W a ma) (hb : RE X G W b mb) : RT X G W (.Compare a [.LtE] [b] pos) (toT (mBi (oCmp fun i j => decide (i ≤ j)) ma mb)) := rt_cmp op_le (cb_cmp _) ha hb (nomark _)
theorem t_gt (ha : RE X G W a ma) (hb : RE X G W b mb) : RT X G W (.Compare a [.Gt] [b] pos) (toT (mBi (oCmp fun i j => decide (j < i)) ma mb)) := rt_cmp op_gt (cb_cmp _) ha hb (nomark _)
theorem t_ge (ha : RE X G W a ma) (hb : RE X G W b mb) : RT X G W (.Compare a [.GtE] [b] pos) (toT (mBi (oCmp fun i j => decide (j ≤ i)) ma mb)) := rt_cmp op_ge (cb_cmp _) ha hb (nomark _)
theorem t_is (ha : RE X G W a ma) (hb : RE X G W b mb) : RT X G W (.Compare a [.Is] [b] pos) (toT (mBi (oIs false) ma mb)) := rt_cmp op_isN cb_is ha hb (nomark _)
theorem t_isn (ha : RE X G W a ma) (hb : RE X G W b mb) : RT X G W (.Compare a [.IsNot] [b] pos) (toT (mBi (oIs true) ma mb)) := rt_cmp op_notN cb_isnot ha hb (nomark _)
section
variable {k : Nat} (hr : Room k X.A) (hK : X.K = G.K)
include hr hK
theorem e_eq (ha : RE X G W a ma) (hb : RE X G W b mb) : RE X G W (.Compare a [.Eq] [b] pos) (mBi (oEq false) ma mb) := re_cmp (op_eqD (by have := hr.un; omega)) (by rw [hK]; exact cb_eq) ha hb (nomark _)
theorem e_ne (ha : RE X G W a ma) (hb : RE X G W b mb) : RE X G W (.Compare a [.NotEq] [b] pos) (mBi (oEq true) ma mb) := re_cmp (op_neD (by have := hr.un; omega)) (by rw [hK]; exact cb_ne) ha hb (nomark _)
theorem t_eq (ha : RE X G W a ma) (hb : RE X G W b mb) : RT X G W (.Compare a [.Eq] [b] pos) (toT (mBi (oEq false) ma mb)) := rt_cmp (op_eqD (by have := hr.un; omega)) (by rw [hK]; exact cb_eq) ha hb (nomark _)
theorem t_ne (ha : RE X G W a ma) (hb : RE X G W b mb) : RT X G W (.Compare a [.NotEq] [b] pos) (toT (mBi (oEq true) ma mb)) := rt_cmp (op_neD (by have := hr.un; omega)) (by rw [hK]; exact cb_ne) ha hb (nomark _)
theorem e_in (ha : RE X G W a ma) (hb : RE X G W b mb) (hm : behindInMarks .In b = false := by rfl) : RE X G W (.Compare a [.In] [b] pos) (mBi (oIn false) ma mb) := re_cmp (op_inAll (by have := hr.un; omega)) (by rw [hK]; exact cb_in false) ha hb hm
theorem e_nin (ha : RE X G W a ma) (hb : RE X G W b mb) (hm : behindInMarks .NotIn b = false := by rfl) : RE X G W (.Compare a [.NotIn] [b] pos) (mBi (oIn true) ma mb) := re_cmp (op_notInAll (by have := hr.un; omega)) (by rw [hK]; exact cb_in true) ha hb hm
theorem t_in (ha : RE X G W a ma) (hb : RE X G W b mb) (hm : behindInMarks .In b = false := by rfl) : RT X G W (.Compare a [.In] [b] pos) (toT (mBi (oIn false) ma mb)) := rt_cmp (op_inAll (by have := hr.un; omega)) (by rw [hK]; exact cb_in false) ha hb hm
theorem t_nin (ha : RE X G W a ma) (hb : RE X G W b mb) (hm : behindInMarks .NotIn b = false := by rfl) : RT X G W (.Compare a [.NotIn] [b] pos) (toT (mBi (oIn true) ma mb)) := rt_cmp (op_notInAll (by have := hr.un; omega)) (by rw [hK]; exact cb_in true) ha hb hm
end
end
/-! ## callees -/
/-- a way of calling a def: np positional values, keywords ks -/
def Sh (K : PySem.W.Frag) (G : Cfg) (fd : FuncData) (ps : List Str) (np : Nat) (ks : List Str) (gM : List MV → List MV → List MV) : Prop := ∃ gV g, KBn K fd ps np ks g gV ∧ Gq G gM gV
def CalS (X : Cx) (G : Cfg) (k : Nat) (f : Addr) (np : Nat) (ks : List Str) (n : Nat) (gM : List MV → List MV → List MV) (φ : MF) : Prop :=
  ∃ fd ps gV g, FnOk X.prog X.w X.K X.mg X.base (L2.CX X.prog X.w) k f fd ps (spM G n φ) ∧ KBn X.K fd ps np ks g gV ∧ Gq G gM gV
theorem calS {X : Cx} {G : Cfg} {k : Nat} {f : Addr} {fd : FuncData} {ps : List Str} {np n : Nat} {ks : List Str} {gM : List MV → List MV → List MV} {φ : MF} (F : FnOk X.prog X.w X.K X.mg X.base (L2.CX X.prog X.w) k f fd ps (spM G n φ)) (s : Sh X.K G fd ps np ks gM) : CalS X G k f np ks n gM φ := by
  obtain ⟨gV, g, h1, h2⟩ := s
  exact ⟨fd, ps, gV, g, F, h1, h2⟩
section
variable {G : Cfg} {W : WX} {X : Cx} {np n k : Nat} {f C : Addr} {ks : List Str} {φ : MF} {gM : List MV → List MV → List MV} {od : Addr → Obj} {x m : Str} {p pos apos : Pos} {e o : Expr} {es : List Expr} {kws : List Keyword} {as km : ML} {mo : MX}
theorem c_call {nk : Nat} (h : CalS X G k f np ks n gM φ) (hr : Room k X.A) (hg : Gl X x) (hm : X.mg x = some (.ref f)) (hk : PySem.W.keepIn X.K (.ref f) = true) (tk : Takes X W)
    (ha : RL X (G.wod od) W (e :: es) as) (hkw : RK X (G.wod od) W kws km) (hall : (backToKw pos (keywordEach kws X.env)).all (·.1.isSome) = true := by rfl) (hks : (backToKw pos (keywordEach kws X.env)).filterMap (·.1) = ks := by rfl)
    (hdb : (x == ("__debug__" : Str)) = false := by decide) (he : starEach (e :: es) X.env = (false, eval e X.env) :: starEach es X.env := by rfl)
    (hpl : ((backTo pos (starEach (e :: es) X.env)).any (·.1) || (backToKw pos (keywordEach kws X.env)).any (·.1.isNone)) = false := by rfl) (hnk : ks.length = nk := by rfl) :
    RE X (G.wod od) W (.Call (.Name x p) (e :: es) kws pos) (mCallK np nk n gM φ as km) := by
  subst hnk
  obtain ⟨fd, ps, gV, g, F, hb, q⟩ := h
  exact re_callX q F hr hg hm hk hb tk ha hkw hall hks hdb he hpl
theorem c_call0 {nk : Nat} (h : CalS X G k f np ks n gM φ) (hr : Room k X.A) (hg : Gl X x) (hm : X.mg x = some (.ref f)) (hk : PySem.W.keepIn X.K (.ref f) = true) (tk : Takes X W)
    (hkw : RK X (G.wod od) W kws km) (hall : (backToKw pos (keywordEach kws X.env)).all (·.1.isSome) = true := by rfl) (hks : (backToKw pos (keywordEach kws X.env)).filterMap (·.1) = ks := by rfl) (hdb : (x == ("__debug__" : Str)) = false := by decide)
    (hpl : ((backTo pos (starEach [] X.env)).any (·.1) || (backToKw pos (keywordEach kws X.env)).any (·.1.isNone)) = false := by rfl) (hnk : ks.length = nk := by rfl) :
    RE X (G.wod od) W (.Call (.Name x p) [] kws pos) (mCallK np nk n gM φ mNil km) := by
  subst hnk
  obtain ⟨fd, ps, gV, g, F, hb, q⟩ := h
  exact re_callX0 q F hr hg hm hk hb tk hkw hall hks hdb hpl
theorem c_cfn {nk : Nat} (h : CalS X G k f np ks n gM φ) (cf : CFn X.K C m f) (hr : Room k X.A) (hg : Gl X x) (hm : X.mg x = some (.ref C)) (tk : Takes X W)
    (ha : RL X (G.wod od) W (e :: es) as) (hkw : RK X (G.wod od) W kws km) (hall : (backToKw pos (keywordEach kws X.env)).all (·.1.isSome) = true := by rfl) (hks : (backToKw pos (keywordEach kws X.env)).filterMap (·.1) = ks := by rfl) (hdb : (x == ("__debug__" : Str)) = false := by decide)
    (he : starEach (e :: es) X.env = (false, eval e X.env) :: starEach es X.env := by rfl) (hpl : ((backTo pos (starEach (e :: es) X.env)).any (·.1) || (backToKw pos (keywordEach kws X.env)).any (·.1.isNone)) = false := by rfl) {pl : Sem Bool}
    (ht : eval (.Call (.Attribute (.Name x p) m apos) (e :: es) kws pos) X.env = (do
      let ov ← eval (.Name x p) X.env
      standAt apos.atName
      let (f, first) ← holding [ov] (getMethod ov m pl)
      callWith pos f first (backTo pos (starEach (e :: es) X.env)) (backToKw pos (keywordEach kws X.env))) := by rfl) (hnk : ks.length = nk := by rfl) :
    RE X (G.wod od) W (.Call (.Attribute (.Name x p) m apos) (e :: es) kws pos) (mCallK np nk n gM φ as km) := by
  subst hnk
  obtain ⟨fd, ps, gV, g, F, hb, q⟩ := h
  exact re_cfnX q cf F hr hg hm hb tk ha hkw hall hks hdb he hpl ht
theorem c_meth {c : Nat} {pl : Sem Bool} {nk : Nat} (h : CalS X G k f np ks n gM φ) (nf : ∀ i, G.fname i ≠ m) (hC : G.cls c = C) (ho : RE X (G.wod od) W o mo) (cl : Cls X.K C) (hm : Meth X.K C m f) (hr : Room k X.A) (tk : Takes X W)
    (ha : RL X (G.wod od) W (e :: es) as) (hkw : RK X (G.wod od) W kws km)
    (hall : (backToKw pos (keywordEach kws X.env)).all (·.1.isSome) = true := by rfl) (hks : (backToKw pos (keywordEach kws X.env)).filterMap (·.1) = ks := by rfl) (he : starEach (e :: es) X.env = (false, eval e X.env) :: starEach es X.env := by rfl)
    (hpl : ((backTo pos (starEach (e :: es) X.env)).any (·.1) || (backToKw pos (keywordEach kws X.env)).any (·.1.isNone)) = false := by rfl)
    (ht : eval (.Call (.Attribute o m apos) (e :: es) kws pos) X.env = (do
      let ov ← eval o X.env
      standAt apos.atName
      let (f, first) ← holding [ov] (getMethod ov m pl)
      callWith pos f first (backTo pos (starEach (e :: es) X.env)) (backToKw pos (keywordEach kws X.env))) := by rfl) (hnk : ks.length = nk := by rfl) :
    RE X (G.wod od) W (.Call (.Attribute o m apos) (e :: es) kws pos) (mMethK np nk n c gM φ mo as km) := by
  subst hnk
  obtain ⟨fd, ps, gV, g, F, hb, q⟩ := h
  exact re_methX q nf hC ho cl hm F hr hb tk ha hkw hall hks he hpl ht
theorem c_meth0 {c : Nat} {pl : Sem Bool} {nk : Nat} (h : CalS X G k f np ks n gM φ) (nf : ∀ i, G.fname i ≠ m) (hC : G.cls c = C) (ho : RE X (G.wod od) W o mo) (cl : Cls X.K C) (hm : Meth X.K C m f) (hr : Room k X.A) (tk : Takes X W)
    (hkw : RK X (G.wod od) W kws km)
    (hall : (backToKw pos (keywordEach kws X.env)).all (·.1.isSome) = true := by rfl) (hks : (backToKw pos (keywordEach kws X.env)).filterMap (·.1) = ks := by rfl)
    (hpl : ((backTo pos (starEach [] X.env)).any (·.1) || (backToKw pos (keywordEach kws X.env)).any (·.1.isNone)) = false := by rfl)
    (ht : eval (.Call (.Attribute o m apos) [] kws pos) X.env = (do
      let ov ← eval o X.env
      standAt apos.atName
      let (f, first) ← holding [ov] (getMethod ov m pl)
      callWith pos f first (backTo pos (starEach [] X.env)) (backToKw pos (keywordEach kws X.env))) := by rfl) (hnk : ks.length = nk := by rfl) :
    RE X (G.wod od) W (.Call (.Attribute o m apos) [] kws pos) (mMethK np nk n c gM φ mo mNil km) := by
  subst hnk
  obtain ⟨fd, ps, gV, g, F, hb, q⟩ := h
  exact re_methX0 q nf hC ho cl hm F hr hb tk hkw hall hks hpl ht
theorem c_make {c : Nat} {nk : Nat} (h : CalS X G k f np ks n gM φ) (hC : G.cls c = C) (Mc : Mk X.K C f) (hr : Room (k + 1) X.A) (hg : Gl X x) (hm : X.mg x = some (.ref C)) (tk : Takes X W)
    (ha : RL X (G.wod od) W (e :: es) as) (hkw : RK X (G.wod od) W kws km)
    (hall : (backToKw pos (keywordEach kws X.env)).all (·.1.isSome) = true := by rfl) (hks : (backToKw pos (keywordEach kws X.env)).filterMap (·.1) = ks := by rfl) (hdb : (x == ("__debug__" : Str)) = false := by decide)
    (he : starEach (e :: es) X.env = (false, eval e X.env) :: starEach es X.env := by rfl) (hpl : ((backTo pos (starEach (e :: es) X.env)).any (·.1) || (backToKw pos (keywordEach kws X.env)).any (·.1.isNone)) = false := by rfl) (hnk : ks.length = nk := by rfl) :
    RE X (G.wod od) W (.Call (.Name x p) (e :: es) kws pos) (mMakeK np nk n c gM φ as km) := by
  subst hnk
  obtain ⟨fd, ps, gV, g, F, hb, q⟩ := h
  exact re_makeX q hC Mc F hr hg hm hb tk ha hkw hall hks hdb he hpl
theorem c_make0 {c : Nat} {nk : Nat} (h : CalS X G k f np ks n gM φ) (hC : G.cls c = C) (Mc : Mk X.K C f) (hr : Room (k + 1) X.A) (hg : Gl X x) (hm : X.mg x = some (.ref C)) (tk : Takes X W)
    (hkw : RK X (G.wod od) W kws km)
    (hall : (backToKw pos (keywordEach kws X.env)).all (·.1.isSome) = true := by rfl) (hks : (backToKw pos (keywordEach kws X.env)).filterMap (·.1) = ks := by rfl) (hdb : (x == ("__debug__" : Str)) = false := by decide)
    (hpl : ((backTo pos (starEach [] X.env)).any (·.1) || (backToKw pos (keywordEach kws X.env)).any (·.1.isNone)) = false := by rfl) (hnk : ks.length = nk := by rfl) :
    RE X (G.wod od) W (.Call (.Name x p) [] kws pos) (mMakeK np nk n c gM φ mNil km) := by
  subst hnk
  obtain ⟨fd, ps, gV, g, F, hb, q⟩ := h
  exact re_makeX0 q hC Mc F hr hg hm hb tk hkw hall hks hdb hpl
end
/-! ## ways of calling -/
section
variable {K : PySem.W.Frag} {G : Cfg} {x qual : Str} {params : Arguments} {body : List Stmt} {scope : Scope} {dvs : List V} {kws : List (Str × V)} {f : Addr} {fd : FuncData} {ps : List Str}
theorem gq_id : Gq G (fun a _ => a) (fun vs _ => vs) := ⟨fun _ _ _ _ => rfl, fun _ _ _ _ h _ => h⟩
theorem gq_app {d : List MV} {dV : List V} (h : ∀ ρ : Nat → Addr, (∀ n, n < G.n0 → ρ n = G.ra n) → ims G ρ d = dV) (ok : ∀ nx, G.n0 ≤ nx → okVs nx d) : Gq G (fun a _ => a ++ d) (fun vs _ => vs ++ dV) :=
  ⟨fun ρ a b c => by
    show _ = List.map _ (a ++ d)
    rw [List.map_append, ← h ρ c], fun nx a b n h1 _ => okVs_app h1 (ok nx n)⟩
theorem gq_id' : Gq G (fun a _ => a) (fun vs _ => vs ++ []) := ⟨fun ρ a b c => List.append_nil _, fun _ _ _ _ h _ => h⟩
theorem gq_kw : Gq G (fun a b => a ++ b) (fun vs zs => vs ++ zs) :=
  ⟨fun ρ a b c => by
    show _ = List.map _ (a ++ b)
    rw [List.map_append], fun nx a b n h1 h2 => okVs_app h1 h2⟩
theorem gq_kwd {d : List MV} {dV : List V} (h : ∀ ρ : Nat → Addr, (∀ n, n < G.n0 → ρ n = G.ra n) → ims G ρ d = dV) (ok : ∀ nx, G.n0 ≤ nx → okVs nx d) : Gq G (fun a b => a ++ b ++ d) (fun vs zs => vs ++ zs ++ dV) :=
  ⟨fun ρ a b c => by
    show _ = List.map _ (a ++ b ++ d)
    rw [List.map_append, List.map_append, ← h ρ c], fun nx a b n h1 h2 => okVs_app (okVs_app h1 h2) (ok nx n)⟩
theorem kbn_of {dV : List V} {ds : List Value} {np : Nat} (hb : Binds K fd ps ds) (r : Vals dV ds) (hn : np + dV.length = ps.length) : KBn K fd ps np [] (fun us _ => us ++ ds) (fun vs _ => vs ++ dV) :=
  ⟨fun s us ws X l1 _ => hb s us X (by rw [List.length_append, l1, ← r.length]; exact hn), fun r1 _ => r1.append r⟩
/-- every parameter is written -/
theorem sh_all (F : FunD K x qual params body scope [] kws f fd) {np : Nat} (hn : ps.length = np)
    (h : ∀ (kV doc pm : Value) (an : Option Addr) (cdv ct : Value) (us : List Value), us.length = ps.length → bindArgs (PySem.W.fnOf x qual params body scope .none kV doc pm an cdv ct) ⟨us, []⟩ = pure (ps.zip us)) : Sh K G fd ps np [] (fun a _ => a) :=
  ⟨_, _, kbn_of (F.bindsN h) .nil hn.symm, gq_id'⟩
/-- positional defaults: j of them are written -/
theorem sh_dfl (F : FunD K x qual params body scope dvs kws f fd) {np : Nat} {d : List MV} (j : Nat) (hd : dvs ≠ []) (hn : np + (dvs.length - j) = ps.length)
    (h : ∀ (T : Addr) (kV doc pm : Value) (an : Option Addr) (cdv ct : Value) (us its : List Value), us.length = np → its.length = dvs.length →
      ∃ k, bindArgs (PySem.W.fnOf x qual params body scope (.ref T) kV doc pm an cdv ct) ⟨us, []⟩ = seqItems? (.ref T) >>= k ∧ k (some its.toArray) = pure (ps.zip (us ++ its.drop j)))
    (hm : ∀ ρ : Nat → Addr, (∀ n, n < G.n0 → ρ n = G.ra n) → ims G ρ d = dvs.drop j) (ok : ∀ nx, G.n0 ≤ nx → okVs nx d) : Sh K G fd ps np [] (fun a _ => a ++ d) := by
  obtain ⟨ds, r, b⟩ := F.binds1 np j hd hn h
  exact ⟨_, _, kbn_of b r (by rw [List.length_drop]; exact hn), gq_app hm ok⟩
/-- keyword-only defaults, none written -/
theorem sh_kw0 (F : FunD K x qual params body scope [] kws f fd) {np : Nat} {d : List MV} (hk : kws ≠ []) (hn : np + kws.length = ps.length)
    (h : ∀ (D : Addr) (doc pm : Value) (an : Option Addr) (cdv ct : Value) (us ks : List Value), us.length = np → ks.length = kws.length →
      KwChain D ((kws.map (·.1)).zip ks) (bindArgs (PySem.W.fnOf x qual params body scope .none (.ref D) doc pm an cdv ct) ⟨us, []⟩) (ps.zip (us ++ ks)))
    (hm : ∀ ρ : Nat → Addr, (∀ n, n < G.n0 → ρ n = G.ra n) → ims G ρ d = kws.map (·.2)) (ok : ∀ nx, G.n0 ≤ nx → okVs nx d) : Sh K G fd ps np [] (fun a _ => a ++ d) := by
  obtain ⟨ds, r, b⟩ := F.binds0 np hk hn h
  exact ⟨_, _, kbn_of b r (by rw [List.length_map]; exact hn), gq_app hm ok⟩
/-- keyword-only parameters without defaults, all written -/
theorem sh_kwall (F : FunD K x qual params body scope [] [] f fd) {np : Nat} {ks : List Str}
    (h : ∀ (kV doc pm : Value) (an : Option Addr) (cdv ct : Value) (us ws : List Value), us.length = np → ws.length = ks.length → bindArgs (PySem.W.fnOf x qual params body scope .none kV doc pm an cdv ct) ⟨us, ks.zip ws⟩ = pure (ps.zip (us ++ ws))) : Sh K G fd ps np ks (fun a b => a ++ b) := by
  obtain ⟨oc, od, dV, kV, doc, pm, an, cdv, ct, osl, rfl, lk, hcd, hD, hK⟩ := F.ex
  rcases hD with ⟨_, rfl⟩ | ⟨e, _⟩
  · exact ⟨_, _, ⟨fun s us ws X l1 l2 => .of_eq (h kV doc pm an cdv ct us ws l1 l2), fun r1 r2 => r1.append r2⟩, gq_kw⟩
  · exact absurd rfl e
/-- keyword-only defaults, the first of them written (ms: those that lack) -/
theorem sh_kwd (F : FunD K x qual params body scope [] kws f fd) {np : Nat} {ks : List Str} {d : List MV} (ms : List (Str × V)) (hk : kws ≠ []) (hms : ∀ q ∈ ms, q ∈ kws)
    (h : ∀ (D : Addr) (doc pm : Value) (an : Option Addr) (cdv ct : Value) (us mv ws : List Value), us.length = np → mv.length = ms.length → ws.length = ks.length →
      KwChain D ((ms.map (·.1)).zip mv) (bindArgs (PySem.W.fnOf x qual params body scope .none (.ref D) doc pm an cdv ct) ⟨us, ks.zip ws⟩) (ps.zip (us ++ ws ++ mv)))
    (hm : ∀ ρ : Nat → Addr, (∀ n, n < G.n0 → ρ n = G.ra n) → ims G ρ d = ms.map (·.2)) (ok : ∀ nx, G.n0 ≤ nx → okVs nx d) : Sh K G fd ps np ks (fun a b => a ++ b ++ d) := by
  obtain ⟨mv, b⟩ := F.kbinds0 np ks ms (fun {α} us mz ws => us ++ ws ++ mz) hk hms (fun r1 r2 r3 => (r1.append r3).append r2) h
  exact ⟨_, _, b, gq_kwd hm ok⟩
end
/-- the def's record at f, as the written part has it -/
def fdAt (K : PySem.W.Frag) (f : Addr) : FuncData := match K.lookup f with
  | some ⟨_, _, .func fd, _⟩ => fd
  | _ => PySem.W.fnOf "" "" { posonlyargs := [], args := [], vararg := none, kwonlyargs := [], kw_defaults := [], kwarg := none, defaults := [] } [] { kind := .function, names := [], isGenerator := false, isCoroutine := false } .none .none .none .none none .none .none
theorem fd_at {K : PySem.W.Frag} {x qual : Str} {params : Arguments} {body : List Stmt} {scope : Scope} {dvs : List V} {kws : List (Str × V)} {f : Addr} {fd : FuncData} (F : FunD K x qual params body scope dvs kws f fd) : FunD K x qual params body scope dvs kws f (fdAt K f) := by
  have e : fdAt K f = fd := by
    obtain ⟨oc, od, dV, kV, doc, pm, an, cdv, ct, osl, rfl, lk, _⟩ := F.ex
    unfold fdAt
    rw [lk]
  rw [e]
  exact F
end PM
end
noncomputable section
namespace PM
open PySem PySem.Spec PyProof.Rows L2
/-! ## names of fields, made-up names -/
def zs (n : Nat) : Str := ⟨(List.replicate n 122).toArray⟩
theorem zs_size (n : Nat) : (zs n).cps.size = n := by
  show (List.replicate n 122).toArray.size = n
  rw [List.size_toArray, List.length_replicate]
def fnm (fl : List Str) (i : Nat) : Str := match fl[i]? with
  | some s => s
  | none => zs (i + 1000)
theorem fnm_inj {fl : List Str} (nd : fl.Nodup) (hs : ∀ s ∈ fl, s.cps.size < 1000) : ∀ i j, fnm fl i = fnm fl j → i = j := by
  intro i j h
  unfold fnm at h
  cases hi : fl[i]? with
  | some s =>
    rw [hi] at h
    cases hj : fl[j]? with
    | some t =>
      rw [hj] at h
      have h : s = t := h
      subst h
      exact nodup_ix nd hi hj
    | none =>
      rw [hj] at h
      have h : s = zs (j + 1000) := h
      have := hs s (List.mem_of_getElem? hi)
      rw [h, zs_size] at this
      omega
  | none =>
    rw [hi] at h
    cases hj : fl[j]? with
    | some t =>
      rw [hj] at h
      have h : zs (i + 1000) = t := h
      have := hs t (List.mem_of_getElem? hj)
      rw [← h, zs_size] at this
      omega
    | none =>
      rw [hj] at h
      have h : zs (i + 1000) = zs (j + 1000) := h
      have := congrArg (fun s : Str => s.cps.size) h
      simp only [zs_size] at this
      omega
theorem fnm_ne {fl : List Str} {m : Str} (h : m ∉ fl) (hm : m.cps.size < 1000) (i : Nat) : fnm fl i ≠ m := by
  intro e
  unfold fnm at e
  cases hi : fl[i]? with
  | some s =>
    rw [hi] at e
    have e : s = m := e
    exact h (e ▸ List.mem_of_getElem? hi)
  | none =>
    rw [hi] at e
    have e : zs (i + 1000) = m := e
    have := congrArg (fun s : Str => s.cps.size) e
    simp only [zs_size] at this
    omega
def zname (f i : Nat) : Str := zs i
theorem zname_inj (f i j : Nat) (h : zname f i = zname f j) : i = j := by
  have := congrArg (fun s : Str => s.cps.size) h
  simpa only [zname, zs_size] using this
theorem zname_ok (f i : Nat) : PyData.strOk (zname f i) = true := by
  unfold zname zs PyData.strOk
  simp only [List.toArray_replicate]
  rw [Array.all_eq_true]
  intro j hj
  simp
theorem fxw {K : PySem.W.Frag} {G : Cfg} {NF : Nat} {od : Addr → Obj} (h : Fx K G NF) : Fx K (G.wod od) NF := ⟨h.k, h.cl, h.no⟩
end PM
end
noncomputable section
namespace PM
open PySem PySem.Spec PyProof.Rows L2
section
variable {X : Cx} {G : Cfg} {W : WX} {a b c o e : Expr} {es : List Expr} {ml : ML} {ma mb mc md_ me mo : MX} {p p2 pos pos' apos cpos : Pos}
theorem nf_ {G : Cfg} {fl : List Str} (m : Str) (h : m ∉ fl) (hm : m.cps.size < 1000) (e : G.fname = fnm fl := by rfl) : ∀ i, G.fname i ≠ m := fun i => by
  rw [e]
  exact fnm_ne h hm i
def oLenD (xs : List MV) (M : MS) : Out MV := one1 xs fun v => match v with
  | .ref n => (match M.get n with
    | some (.dk l) => .ok (.int l.length) M
    | some (.dt l) => .ok (.int l.length) M
    | _ => .bad)
  | _ => .bad
theorem b_lenD (hg : Gl X "len") (hm : X.mg "len" = none) (ha : RL X G W (e :: es) ml) (he : starEach (e :: es) X.env = (false, eval e X.env) :: starEach es X.env := by rfl) (hpl : (backTo pos (starEach es X.env)).any (·.1) = false := by rfl) :
    RE X G W (.Call (.Name "len" p) (e :: es) [] pos) (mFn oLenD ml) :=
  re_callB (CallR.or call_lenD call_len_dT) (fun ρ M H σ vs Q R ov p => by
    obtain ⟨v, rfl, p1⟩ := one_inv p
    cases v with
    | ref n =>
      dsimp only at p1
      cases q : M.get n with
      | none => rw [q] at p1; exact p1.elim
      | some ob =>
        rw [q] at p1
        cases ob with
        | dk l =>
          refine .inl ⟨ρ n, imD G ρ l, rfl, (R.o n _ q).2.2, ?_⟩
          rw [List.length_map]
          exact Po.fin R p1 trivial
        | dt l =>
          refine .inr ⟨ρ n, imDt G ρ l, rfl, (R.o n _ q).2.2, ?_⟩
          rw [List.length_map]
          exact Po.fin R p1 trivial
        | _ => exact p1.elim
    | _ => exact p1.elim) hg hm boot_len ha (by decide) (by decide) he hpl
section
variable (hK : X.K = G.K) (hc : X.calm = true)
include hK hc
theorem b_len (hg : Gl X "len") (hm : X.mg "len" = none) (ha : RL X G W (e :: es) ml) (he : starEach (e :: es) X.env = (false, eval e X.env) :: starEach es X.env := by rfl) (hpl : (backTo pos (starEach es X.env)).any (·.1) = false := by rfl) :
    RE X G W (.Call (.Name "len" p) (e :: es) [] pos) (mFn oLen ml) := re_callB call_len (by rw [hK]; exact cn_len) hg hm boot_len ha (by decide) (by decide) he hpl
theorem b_max (hg : Gl X "max") (hm : X.mg "max" = none) (ha : RL X G W (e :: es) ml) (he : starEach (e :: es) X.env = (false, eval e X.env) :: starEach es X.env := by rfl) (hpl : (backTo pos (starEach es X.env)).any (·.1) = false := by rfl) :
    RE X G W (.Call (.Name "max" p) (e :: es) [] pos) (mFn oMax ml) := re_callB (call_max2 hc) cn_max hg hm boot_max ha (by decide) (by decide) he hpl
theorem b_min (hg : Gl X "min") (hm : X.mg "min" = none) (ha : RL X G W (e :: es) ml) (he : starEach (e :: es) X.env = (false, eval e X.env) :: starEach es X.env := by rfl) (hpl : (backTo pos (starEach es X.env)).any (·.1) = false := by rfl) :
    RE X G W (.Call (.Name "min" p) (e :: es) [] pos) (mFn oMin ml) := re_callB (call_min2 hc) cn_min hg hm boot_min ha (by decide) (by decide) he hpl
theorem b_any (hg : Gl X "any") (hm : X.mg "any" = none) (ha : RL X G W (e :: es) ml) (he : starEach (e :: es) X.env = (false, eval e X.env) :: starEach es X.env := by rfl) (hpl : (backTo pos (starEach es X.env)).any (·.1) = false := by rfl) :
    RE X G W (.Call (.Name "any" p) (e :: es) [] pos) (mFn oAny ml) := re_callB (cr_any hc) (by rw [hK]; exact cn_any) hg hm boot_any ha (by decide) (by decide) he hpl
theorem b_all (hg : Gl X "all") (hm : X.mg "all" = none) (ha : RL X G W (e :: es) ml) (he : starEach (e :: es) X.env = (false, eval e X.env) :: starEach es X.env := by rfl) (hpl : (backTo pos (starEach es X.env)).any (·.1) = false := by rfl) :
    RE X G W (.Call (.Name "all" p) (e :: es) [] pos) (mFn oAll ml) := re_callB (cr_all hc) (by rw [hK]; exact cn_all) hg hm boot_all ha (by decide) (by decide) he hpl
theorem b_int (hg : Gl X "int") (hm : X.mg "int" = none) (ha : RL X G W (e :: es) ml) (he : starEach (e :: es) X.env = (false, eval e X.env) :: starEach es X.env := by rfl) (hpl : (backTo pos (starEach es X.env)).any (·.1) = false := by rfl) :
    RE X G W (.Call (.Name "int" p) (e :: es) [] pos) (mFn oInt1 ml) := re_callTy call_int1 cn_int1 hg hm (by decide +kernel) ha (by decide) (by decide) he hpl
theorem b_list (hg : Gl X "list") (hm : X.mg "list" = none) (ha : RL X G W (e :: es) ml) (he : starEach (e :: es) X.env = (false, eval e X.env) :: starEach es X.env := by rfl) (hpl : (backTo pos (starEach es X.env)).any (·.1) = false := by rfl) :
    RE X G W (.Call (.Name "list" p) (e :: es) [] pos) (mFn oList ml) := re_callTy (CallR.or call_list_of (call_listD hc)) (by rw [hK]; exact cn_list) hg hm (by decide +kernel) ha (by decide) (by decide) he hpl
theorem b_dict (hg : Gl X "dict") (hm : X.mg "dict" = none) (ha : RL X G W (e :: es) ml) (he : starEach (e :: es) X.env = (false, eval e X.env) :: starEach es X.env := by rfl) (hpl : (backTo pos (starEach es X.env)).any (·.1) = false := by rfl) :
    RE X G W (.Call (.Name "dict" p) (e :: es) [] pos) (mFn oDictP ml) := re_callTy (call_dictP hc) (by rw [hK]; exact cn_dictP) hg hm (by decide +kernel) ha (by decide) (by decide) he hpl
end
theorem sh_dflA {K : PySem.W.Frag} {G : Cfg} {x qual : Str} {params : Arguments} {body : List Stmt} {scope : Scope} {dvs : List V} {kws : List (Str × V)} {f : Addr} {fd : FuncData} {ps : List Str} (F : FunD K x qual params body scope dvs kws f fd) {np : Nat} (j : Nat) (hd : dvs ≠ []) (hj : dvs.drop j = []) (hn : np = ps.length)
    (h : ∀ (T : Addr) (kV doc pm : Value) (an : Option Addr) (cdv ct : Value) (us its : List Value), us.length = np → its.length = dvs.length →
      ∃ k, bindArgs (PySem.W.fnOf x qual params body scope (.ref T) kV doc pm an cdv ct) ⟨us, []⟩ = seqItems? (.ref T) >>= k ∧ k (some its.toArray) = pure (ps.zip (us ++ its.drop j))) : Sh K G fd ps np [] (fun a _ => a) := by
  have hl : dvs.length - j = 0 := by
    have := congrArg List.length hj
    rw [List.length_drop] at this
    exact this
  obtain ⟨ds, r, b⟩ := F.binds1 np j hd (by rw [hl]; exact hn) h
  rw [hj] at r
  exact ⟨_, _, kbn_of b r hn, gq_id'⟩
theorem bad_fn {P : Program} {w : World} {K : PySem.W.Frag} {mg : Str → Option Value} {base : Heap} {k : Nat} {f : Addr} {fd : FuncData} {ps : List Str} {G : Cfg} {n : Nat} (h : ps.length = n) : FnOk P w K mg base (L2.CX P w) k f fd ps (spM G n fun _ _ => .bad) :=
  ⟨spM_len h, fun _ _ _ _ _ _ _ _ _ _ _ _ _ hs => by
    obtain ⟨_, _, _, _, _, _, _, _, p⟩ := hs
    exact p.elim⟩
/-! ### len of an own instance -/
def mLenW (c : Nat) (n : Nat) (φ : MF) (o : MX) : MX := fun e M => (o e M).bind fun v M => asIns v M fun _ c' _ => guardO (c'.beq c && Nat.beq 1 n) ((φ [v] M).bind fun r M => asI r fun i => guardO (decide (0 ≤ i) && decide (i < 1000000000)) (.ok (.int i) M))
structure LenC (K : PySem.W.Frag) (C f : Addr) : Prop where
  at_ : PySem.W.findIn K (.ref C) "__len__" = some (some (.ref f))
  fn : PySem.W.isFn K (.ref f) = true
theorem fr_of {pins : List (Addr × Obj)} {σ : L2.St} {H : Hp} {s : Shared} (I : Inv X pins σ H s) : ∃ m, PyProof.Rows.Fr X.base X.env.locals s.heap m := by
  obtain ⟨m, hn, _⟩ := I.loc
  exact ⟨m, hn, fun b o e => (I.bs b o e).1, Nat.le_trans I.ok.bsz I.ok.above⟩
theorem re_lenW {k n c : Nat} {C f : Addr} {φ : MF} {od : Addr → Obj} (h : CalS X G k f 1 [] n (fun a _ => a) φ) (hC : G.cls c = C) (lc : LenC X.K C f) (hr : Room (k + 1) X.A) (tk : Takes X W) (hg : Gl X "len") (hm : X.mg "len" = none) (ha : RE X (G.wod od) W a ma)
    (he : starEach [a] X.env = (false, eval a X.env) :: starEach [] X.env := by rfl) (hpl : (backTo pos (starEach [] X.env)).any (·.1) = false := by rfl) :
    RE X (G.wod od) W (.Call (.Name "len" p) [a] [] pos) (mLenW c n φ ma) := by
  refine ⟨fun pins s σ H Q I hh => ?_⟩
  obtain ⟨fd, ps, gV, g, F, hb, q⟩ := h
  have hw : wpAny (model X.prog X.w) X.A (spliced (backTo pos (starEach [a] X.env))) (AP X pins σ fun vs H1 => ∃ (ad dx : Addr) (fs : List (Str × V)), vs = [.ref ad] ∧ H1 ad = some (.ins C dx fs) ∧
      spM G n φ [.ref ad] H1 (fun v H2 => ∃ i : Int, v = .int i ∧ 0 ≤ i ∧ i < 2 ^ 63 ∧ Q (.int i) H2) (WE W σ)) X.xe s := by
    refine (pa_cons ha pa_nil he).run pos pins s σ H _ I ?_
    obtain ⟨ρ, M, en, R, E, p⟩ := hh
    refine se_at R E p fun ρ M H v _ R ov E p => ?_
    obtain ⟨n', c', fs, rfl, ga, p1⟩ := asIns_inv p
    obtain ⟨g0, p2⟩ := guardO_inv p1
    obtain ⟨g1, g2⟩ := Bool.and_eq_true_iff.mp g0
    have ec := Nat.eq_of_beq_eq_true g1
    have en := Nat.eq_of_beq_eq_true g2
    subst ec
    obtain ⟨⟨dx, hi⟩, _⟩ := R.ins ga
    refine ⟨ρ n', dx, imF G ρ fs, rfl, by rw [← hC]; exact hi, od, ρ, M, [.ref n'], R, rfl, fun w hw => by rw [List.mem_singleton.mp hw]; exact ov, en, ?_⟩
    cases z : φ [.ref n'] M with
    | bad => rw [z] at p2; exact p2.elim
    | ex x M1 => rw [z] at p2; exact p2
    | ok v M1 =>
      rw [z] at p2
      intro ρ1 H1 x1 R1 o1
      have p3 := Po.mono x1 p2
      obtain ⟨i, rfl, p4⟩ := asI_inv p3
      obtain ⟨gi, p5⟩ := guardO_inv p4
      obtain ⟨gi1, gi2⟩ := Bool.and_eq_true_iff.mp gi
      have b1 := of_decide_eq_true gi1
      have b2 := of_decide_eq_true gi2
      exact ⟨i, rfl, b1, by omega, Po.fin R1 p5 trivial⟩
  refine wpAny_Call_Name_kw (ld_blt I hg hm boot_len ?_ (by decide) (by decide))
  refine PyProof.Rows.callWith_builtin1 (thn hw fun us s1 hh1 => ?_) he hpl
  obtain ⟨vs, H1, I1, r1, ad, dx, fs, rfl, hi, hs⟩ := hh1
  obtain ⟨u, rfl, ru⟩ := vals1 r1
  obtain rfl : u = Value.ref ad := ru
  obtain ⟨m, fr⟩ := fr_of I1
  obtain ⟨mA, O, _⟩ := ins_get I1.hok hi
  obtain ⟨ob, J, _⟩ := O.look
  refine PySem.W.len_K fr I1.ok.mod.kin J lc.at_ lc.fn ?_
  have b := hb.to s1 [.ref ad] [] I1.kIn rfl rfl
  have gl : Vals (gV [V.ref ad] []) (g [Value.ref ad] []) := hb.rel (.cons (show RelV (V.ref ad) (Value.ref ad) from rfl) .nil) .nil
  refine wpAny_call (codeAny_mono (F.run X.A.in1 X.stack s1 H1 ⟨[.ref ad], [].zip []⟩ (g [.ref ad] []) [.ref ad] _ (WE W σ) hr.in1 I1.env0.in1 b ?_ hs) fun r s' hq => ?_)
  · have e : gV [V.ref ad] [] = [V.ref ad] := by
      obtain ⟨od', ρ, M, args, R, ea, oa, la, _⟩ := hs
      have z := q.im ρ args [] R.c.2
      have e2 : ims G ρ args = [V.ref ad] := ea.symm
      rw [e2] at z
      exact z
    rw [e] at gl
    exact gl
  · cases r with
    | error er => exact (passAt tk σ) pins H1 s1 er s' I1 hq
    | ok fl =>
      cases fl with
      | ret u =>
        obtain ⟨v, H', I2, rv, i, rfl, b1, b2, q1⟩ := I1.after hq
        obtain ⟨t, rfl⟩ := rv
        exact ⟨⟨b1, b2⟩, .int i, H', I2.tok _, ⟨_, rfl⟩, q1⟩
      | next => exact False.elim hq
      | brk => exact False.elim hq
      | cont => exact False.elim hq
end
end PM
end
noncomputable section
namespace PM
open PySem PySem.Spec PyProof.Rows L2
/-! ## sorted: pairs of a text and an int -/
def sLt (p q : List Nat × Int) : Bool := if p.1 = q.1 then decide (p.2 < q.2) else decide (p.1 < q.1)
theorem sLt_swo (k : α → List Nat × Int) : SrtO.Swo fun v u => sLt (k v) (k u) := by
  refine ⟨fun x y h => ?_, fun x y z h1 h2 => ?_⟩
  · unfold sLt at h ⊢
    by_cases e : (k x).1 = (k y).1
    · rw [if_pos e, decide_eq_true_eq] at h
      rw [if_pos e.symm, decide_eq_false_iff_not]
      omega
    · rw [if_neg e, decide_eq_true_eq] at h
      rw [if_neg (Ne.symm e), decide_eq_false_iff_not]
      exact List.lt_asymm h
  · unfold sLt at *
    by_cases e1 : (k y).1 = (k x).1
    · rw [if_pos e1, decide_eq_false_iff_not] at h1
      by_cases e2 : (k z).1 = (k y).1
      · rw [if_pos e2, decide_eq_false_iff_not] at h2
        rw [if_pos (e2.trans e1), decide_eq_false_iff_not]
        omega
      · rw [if_neg e2, decide_eq_false_iff_not] at h2
        rw [if_neg (fun q => e2 (q.trans e1.symm)), decide_eq_false_iff_not, ← e1]
        exact h2
    · rw [if_neg e1, decide_eq_false_iff_not] at h1
      have l1 : (k x).1 < (k y).1 := Classical.byContradiction fun q => e1 (List.le_antisymm (List.not_lt.mp q) (List.not_lt.mp h1))
      by_cases e2 : (k z).1 = (k y).1
      · rw [e2, if_neg e1, decide_eq_false_iff_not]
        exact h1
      · rw [if_neg e2, decide_eq_false_iff_not] at h2
        have l2 : (k y).1 < (k z).1 := Classical.byContradiction fun q => e2 (List.le_antisymm (List.not_lt.mp q) (List.not_lt.mp h2)).symm.symm
        have l3 := List.lt_trans l1 l2
        rw [if_neg (fun q => by rw [q] at l3; exact List.lt_irrefl _ l3), decide_eq_false_iff_not]
        exact List.lt_asymm l3
/-- v is a pair of a text and an int -/
def IsSP (h : Heap) (v : Value) (x : Str) (y : Int) : Prop := ∃ a o t u n, v = .ref a ∧ h.get? a = some o ∧ o.cls = .type "tuple" ∧ o.data = .seq #[.str x t, .int y u] n
theorem IsSP.keeps {h h' : Heap} {v : Value} {x : Str} {y : Int} (p : IsSP h v x y) (k : ∀ b o, h.get? b = some o → o.cls = .type "tuple" → h'.get? b = some o) : IsSP h' v x y := by
  obtain ⟨a, o, t, u, n, e, ho, hc, hd⟩ := p
  exact ⟨a, o, t, u, n, e, k _ _ ho hc, hc, hd⟩
section
variable {prog : Program} {w : World} {A : Around} {s : Shared}
def keyS (k : Value → Str × Int) (v : Value) : List Nat × Int := ((k v).1.cps.toList, (k v).2)
theorem sp_cmp {vs : List Value} {k : Value → Str × Int} (hp : ∀ v ∈ vs, IsSP s.heap v (k v).1 (k v).2) : SrtO.Cmp prog w A s (tuples' true) (fun p => p.1 ∈ vs) (SrtO.lt2 fun v u => sLt (keyS k v) (keyS k u)) := by
  intro p q hm hm'
  have h1 := hp _ hm
  have h2 := hp _ hm'
  show wpAny (model prog w) A (keyLt' (tuples' true) p.1 q.1) (fun r s' => s' = s ∧ r = sLt (keyS k p.1) (keyS k q.1)) (fun _ _ => False) s
  unfold sLt keyS
  generalize (k p.1).1 = x at h1 ⊢
  generalize (k p.1).2 = y at h1 ⊢
  generalize (k q.1).1 = x2 at h2 ⊢
  generalize (k q.1).2 = y2 at h2 ⊢
  obtain ⟨a, o, t, u, n, e, ho, hc, hd⟩ := h1
  obtain ⟨a2, o2, t2, u2, n2, e2, ho2, hc2, hd2⟩ := h2
  rw [e, e2]
  have ext : ∀ {a b : Str}, a.cps.toList = b.cps.toList → a = b := fun {a b} h => by
    cases a
    cases b
    rw [Str.mk.injEq]
    exact Array.toList_inj.mp h
  refine PySem.W.kat_lt ho hd ho2 hd2 ?_
  show PySem.W.KatLex prog w A true (decide (2 < 2)) _ [(.str x t, .str x2 t2), (.int y u, .int y2 u2)] 0 s
  refine PySem.W.kat_cons (SeqAt.EqAt.str_str x t x2 t2 prog w _ _ ?_)
  refine PySem.W.kat_go (fun e1 => ?_) (fun e1 => ?_)
  · have ex : x = x2 := by simpa using e1
    have ec : x.cps.toList = x2.cps.toList := by rw [ex]
    refine PySem.W.kat_yes (PySem.W.kat_cons (SeqAt.EqAt.int_int y u y2 u2 prog w _ _ ?_))
    refine PySem.W.kat_go (fun e4 => ?_) (fun e4 => ?_)
    · have ey : y = y2 := by simpa using e4
      refine PySem.W.kat_yes (PySem.W.kat_nil ⟨rfl, ?_⟩)
      rw [if_pos ec, ey]
      exact (decide_eq_false (Int.lt_irrefl _)).symm
    · refine PySem.W.kat_no (PySem.W.kat_one _ _ (PyProof.Rows.lt_int ?_))
      show s = s ∧ decide (y < y2) = _
      rw [if_pos ec]
      exact ⟨rfl, rfl⟩
  · have ex : ¬ x.cps.toList = x2.cps.toList := fun z => by
      rw [ext z] at e1
      simp at e1
    refine PySem.W.kat_no (oneLt_str ⟨rfl, ?_⟩)
    rw [if_neg ex]
theorem sp_firsts {h : Heap} : ∀ {vs : List Value}, (∀ v ∈ vs, ∃ x y, IsSP h v x y) → ∃ fs : List Value, PySem.W.KatTups h vs fs ∧ fs.length = vs.length ∧ ∀ f ∈ fs, ∃ x t, f = Value.str x t
  | [], _ => ⟨[], PySem.W.KatTups.nil, rfl, fun _ hm => nomatch hm⟩
  | v :: vs, hp => by
    obtain ⟨fs, h1, h2, h3⟩ := sp_firsts (vs := vs) fun u hm => hp u (List.mem_cons_of_mem _ hm)
    obtain ⟨x, y, a, o, t, u, n, rfl, ho, hc, hd⟩ := hp v List.mem_cons_self
    exact ⟨.str x t :: fs, PySem.W.KatTups.cons ho hc hd rfl h1, by rw [List.length_cons, List.length_cons, h2], fun f hm => (List.mem_cons.mp hm).elim (fun z => ⟨x, t, z⟩) (h3 f)⟩
theorem sp_sortable {a : Addr} {vs : List Value} {k : Value → Str × Int} (h0 : 0 < vs.length) (hp : ∀ v ∈ vs, IsSP s.heap v (k v).1 (k v).2) (ha : ∀ o, s.heap.get? a = some o → o.cls ≠ .type "tuple") : SrtO.SortableO prog w A s a vs fun v u => sLt (keyS k v) (keyS k u) := by
  intro h2 keep
  have hp2 : ∀ v ∈ vs, IsSP h2 v (k v).1 (k v).2 := fun v hm => (hp v hm).keeps fun b o e c => keep b o (fun z => ha o (z ▸ e) c) e
  obtain ⟨fs, k1, k2, k3⟩ := sp_firsts fun v hm => ⟨_, _, hp2 v hm⟩
  refine ⟨tuples' true, fun Q E hq => ?_, sp_cmp hp2⟩
  refine PySem.W.kat_kind (T := .type "str") k1 (by omega) (fun f hm => ?_) (by rfl) ?_
  · obtain ⟨x, t, rfl⟩ := k3 f hm
    exact PySem.W.Looks.now
  · have e : (Value.type "str" != Value.type "tuple") = true := by decide +kernel
    rw [e]
    exact hq
end
/-! ### as a rule -/
abbrev ltS (k : V → Str × Int) (x y : V) : Bool := sLt ((k x).1.cps.toList, (k x).2) ((k y).1.cps.toList, (k y).2)
theorem ltS_swo (k : V → Str × Int) : SrtO.Swo (ltS k) := sLt_swo fun x => ((k x).1.cps.toList, (k x).2)
def rSortS (K : PySem.W.Frag) : List V → Hp → VK → Prop := fun vs H Q => ∃ (a : Addr) (xs : List V) (k : V → Str × Int), vs = [V.ref a] ∧ SqL K H a xs ∧ (∀ x ∈ xs, ∃ t, x = V.ref t ∧ H t = some (.tup [.str (k x).1, .int (k x).2])) ∧
  ∀ ys p, SrtO.Srtd (ltS k) ys → SrtO.Stb (ltS k) ys xs → H p = none → Q (.ref p) (upd H p (.lst ys))
theorem cr_sortS {X : Cx} : CallR X (.builtin "sorted") (rSortS X.K) := by
  intro pins s σ H vs us Q I r h
  obtain ⟨a, xs, k, rfl, hs, hx, q⟩ := h
  obtain ⟨its, rv, hl, hz⟩ := I.list hs
  obtain ⟨u, rfl, ru⟩ := vals1 r
  obtain rfl : u = Value.ref a := ru
  obtain ⟨e1, e2⟩ := refs_back rv fun x m => let ⟨t, e, _⟩ := hx x m; ⟨t, e⟩
  have hp : ∀ v ∈ its, IsSP s.heap v (k (backV v)).1 (k (backV v)).2 := fun v hv => by
    obtain ⟨t, rfl⟩ := e2 v hv
    have hm : V.ref t ∈ xs := by rw [e1]; exact List.mem_map.mpr ⟨_, hv, rfl⟩
    obtain ⟨t2, e, ht⟩ := hx _ hm
    cases e
    obtain ⟨_, its2, r2, o, ho, hc, n, hd⟩ := I.hok _ _ ht
    obtain ⟨u1, u2, rfl, ri, rj⟩ := vals2 r2
    obtain ⟨t1, rfl⟩ := ri
    obtain ⟨t2, rfl⟩ := rj
    exact ⟨t, o, t1, t2, n, rfl, ho, hc, hd⟩
  refine SrtO.sorted_ord (sLt_swo (keyS fun u => k (backV u))) hl.isList (by rw [← rv.length]; exact hz) (fun h2 h₁ d ha kk => ?_) fun out h1 h2 => ?_
  · refine sp_sortable (s := { s with heap := h₁ }) (k := fun u => k (backV u)) (by omega) (fun v hm => (hp v hm).keeps fun b o e _ => (kk b o e).2) fun o e c => ?_
    have e3 : some o = some (PyProof.Rows.seqObj "list" its.toArray 0) := e.symm.trans ha
    cases e3
    exact absurd (Value.type.inj c) (by decide)
  · have h3 : ∀ u ∈ out, ∃ a, u = Value.ref a := fun u hu => e2 u (h2.perm.mem_iff.mp hu)
    have hb : SrtO.Stb (ltS k) (out.map backV) xs := by
      rw [e1]
      exact SrtO.Stb.map (ltS_swo k) backV h2
    obtain ⟨ep, he⟩ := PyProof.Rows.sortedAll_at s.heap its out.toArray
    exact ⟨.ref _, upd H (s.heap.objs.size + 1) (.lst (out.map backV)), I.laid (t' := s.toks) (fun _ _ => PyProof.Rows.sortedAll_old) (Nat.le_succ _) ⟨by rw [hb.len]; exact hz, out, ep, vals_back h3, he⟩, rfl, q _ _ (SrtO.srtd_map h1) hb (I.hok.fresh (Nat.le_succ _))⟩
end PM
end
noncomputable section
namespace PM
open PySem PySem.Spec PyProof.Rows L2
theorem one_or_none {α : Type} {l m : List α} (p : l.Perm m) (h : l.length ≤ 1) : l = m := by
  match l, h with
  | [], _ => exact (List.Perm.nil_eq p).symm ▸ rfl
  | [x], _ => exact (List.Perm.singleton_eq p).symm ▸ rfl
  | _ :: _ :: _, h => simp at h
/-- all stand strictly one behind another -/
theorem stb_of_perm {α : Type} {lt : α → α → Bool} (O : SrtO.Swo lt) {l m : List α} (p : l.Perm m) (h : l.Pairwise fun x y => lt x y = true) : SrtO.Stb lt l m := by
  refine ⟨p, fun x => one_or_none (p.filter _) ?_⟩
  have h2 : (l.filter (SrtO.eqv lt x)).Pairwise fun x y => lt x y = true := h.filter _
  match q : l.filter (SrtO.eqv lt x), h2 with
  | [], _ => exact Nat.zero_le _
  | [_], _ => exact Nat.le_refl _
  | a :: b :: r, h2 =>
    have ma : a ∈ l.filter (SrtO.eqv lt x) := by rw [q]; exact List.mem_cons_self
    have mb : b ∈ l.filter (SrtO.eqv lt x) := by rw [q]; exact List.mem_cons_of_mem _ List.mem_cons_self
    obtain ⟨a1, a2⟩ := SrtO.eqv_iff.mp (List.mem_filter.mp ma).2
    obtain ⟨b1, b2⟩ := SrtO.eqv_iff.mp (List.mem_filter.mp mb).2
    have hab : lt a b = true := (List.pairwise_cons.mp h2).1 b List.mem_cons_self
    have z : lt a b = false := O.tr b x a b1 a2
    rw [hab] at z
    cases z
theorem srtd_of {α : Type} {lt : α → α → Bool} (O : SrtO.Swo lt) {l : List α} (h : l.Pairwise fun x y => lt x y = true) : SrtO.Srtd lt l := h.imp fun {x y} z => O.asym x y z
end PM
end
noncomputable section
namespace PM
open PySem PySem.Spec PyProof.Rows L2
theorem srt_uniq {α : Type} {lt : α → α → Bool} (O : SrtO.Swo lt) : ∀ {l m : List α}, l.Perm m → l.Pairwise (fun x y => lt x y = true) → SrtO.Srtd lt m → l = m
  | [], m, p, _, _ => List.Perm.nil_eq p
  | a :: l, [], p, _, _ => by
    have := p.length_eq
    simp at this
  | a :: l, b :: m, p, h1, h2 => by
    have e : a = b := by
      have ma : a ∈ b :: m := p.mem_iff.mp List.mem_cons_self
      have mb : b ∈ a :: l := p.mem_iff.mpr List.mem_cons_self
      rcases List.mem_cons.mp ma with e | ma
      · exact e
      · rcases List.mem_cons.mp mb with e | mb
        · exact e.symm
        · have z := (List.pairwise_cons.mp h1).1 b mb
          have z2 := (List.pairwise_cons.mp h2).1 a ma
          rw [z] at z2
          cases z2
    subst e
    rw [srt_uniq O (List.Perm.cons_inv p) (List.pairwise_cons.mp h1).2 (List.pairwise_cons.mp h2).2]
/-! ### over the small machine -/
def keyM (M : MS) (v : MV) : Option (List Nat × Int) := match v with
  | .ref n => (match M.get n with
    | some (.tup xs) => (match xs with
      | [.str s, .int i] => some (s.cps.toList, i)
      | _ => none)
    | _ => none)
  | _ => none
def ltM (M : MS) (v u : MV) : Bool := match keyM M v with
  | some p => (match keyM M u with
    | some q => sLt p q
    | none => false)
  | none => false
def insM (M : MS) (v : MV) : List MV → List MV
  | [] => [v]
  | u :: r => if ltM M v u = true then v :: u :: r else u :: insM M v r
def srtM (M : MS) : List MV → List MV
  | [] => []
  | v :: r => insM M v (srtM M r)
def chainM (M : MS) : List MV → Bool
  | [] => true
  | v :: r => (match r with
    | [] => (keyM M v).isSome
    | u :: _ => ltM M v u) && chainM M r
def oSortS (xs : List MV) (M : MS) : Out MV := one1 xs fun v => asL v M fun _ l => guardO (chainM M (srtM M l)) (M.new (.lst (srtM M l)) fun n M => .ok (.ref n) M)
theorem insM_perm (M : MS) (v : MV) : ∀ l, (insM M v l).Perm (v :: l)
  | [] => List.Perm.refl _
  | u :: r => by
    unfold insM
    split
    · exact List.Perm.refl _
    · exact (List.Perm.cons u (insM_perm M v r)).trans (List.Perm.swap v u r)
theorem srtM_perm (M : MS) : ∀ l, (srtM M l).Perm l
  | [] => List.Perm.refl _
  | v :: r => (insM_perm M v _).trans (List.Perm.cons v (srtM_perm M r))
theorem chainM_all {M : MS} : ∀ {l : List MV}, chainM M l = true → (∀ v ∈ l, (keyM M v).isSome = true) ∧ l.Pairwise fun v u => ltM M v u = true
  | [], _ => ⟨fun _ h => (nomatch h), List.Pairwise.nil⟩
  | [v], h => by
    obtain ⟨h1, _⟩ := Bool.and_eq_true_iff.mp h
    exact ⟨fun u hu => (by rw [List.mem_singleton.mp hu]; exact h1), List.pairwise_singleton _ _⟩
  | v :: u :: r, h => by
    obtain ⟨h1, h2⟩ := Bool.and_eq_true_iff.mp h
    have h1 : ltM M v u = true := h1
    obtain ⟨k1, k2⟩ := chainM_all h2
    have kv : (keyM M v).isSome = true := by
      unfold ltM at h1
      cases q : keyM M v with
      | none => rw [q] at h1; cases h1
      | some p => rfl
    have ks : ∀ x ∈ v :: u :: r, (keyM M x).isSome = true := fun x hx => (List.mem_cons.mp hx).elim (fun e => e ▸ kv) (k1 x)
    refine ⟨ks, List.pairwise_cons.mpr ⟨fun x hx => ?_, k2⟩⟩
    rcases List.mem_cons.mp hx with e | hx
    · rw [e]
      exact h1
    · have h3 : ltM M u x = true := (List.pairwise_cons.mp k2).1 x hx
      unfold ltM at h1 h3 ⊢
      have sv := ks v List.mem_cons_self
      have su := ks u (List.mem_cons_of_mem _ List.mem_cons_self)
      have sx := ks x (List.mem_cons_of_mem _ (List.mem_cons_of_mem _ hx))
      cases qv : keyM M v with
      | none => rw [qv] at sv; cases sv
      | some p =>
      cases qu : keyM M u with
      | none => rw [qu] at su; cases su
      | some q =>
      cases qx : keyM M x with
      | none => rw [qx] at sx; cases sx
      | some z =>
      rw [qv, qu] at h1
      rw [qu, qx] at h3
      have O := sLt_swo (fun x : List Nat × Int => x)
      exact O.ltle h1 (O.asym _ _ h3)
def keyH (H : Hp) (x : V) : Str × Int := match x with
  | .ref t => (match H t with
    | some (.tup xs) => (match xs with
      | [.str s, .int i] => (s, i)
      | _ => (⟨#[]⟩, 0))
    | _ => (⟨#[]⟩, 0))
  | _ => (⟨#[]⟩, 0)
theorem keyM_inv {M : MS} {v : MV} {p : List Nat × Int} (h : keyM M v = some p) : ∃ n s i, v = .ref n ∧ M.get n = some (.tup [.str s, .int i]) ∧ p = (s.cps.toList, i) := by
  unfold keyM at h
  cases v with
  | ref n =>
    dsimp only at h
    cases q : M.get n with
    | none => rw [q] at h; cases h
    | some o =>
      rw [q] at h
      cases o with
      | tup xs =>
        dsimp only at h
        split at h
        · exact ⟨n, _, _, rfl, q, (Option.some.inj h).symm⟩
        · cases h
      | _ => cases h
  | _ => cases h
theorem keyM_im {G : Cfg} {ρ : Nat → Addr} {M : MS} {H : Hp} (R : Rl G ρ M H) {v : MV} {p : List Nat × Int} (h : keyM M v = some p) :
    (∃ t, im G ρ v = .ref t ∧ H t = some (.tup [.str (keyH H (im G ρ v)).1, .int (keyH H (im G ρ v)).2])) ∧ p = ((keyH H (im G ρ v)).1.cps.toList, (keyH H (im G ρ v)).2) := by
  obtain ⟨n, s, i, rfl, q, rfl⟩ := keyM_inv h
  have c : H (ρ n) = some (.tup [.str s, .int i]) := (R.o n _ q).2.2
  have e : keyH H (im G ρ (.ref n)) = (s, i) := by
    show (match H (ρ n) with
      | some (.tup xs) => (match xs with
        | [.str s, .int i] => (s, i)
        | _ => ((⟨#[]⟩, 0) : Str × Int))
      | _ => (⟨#[]⟩, 0)) = _
    rw [c]
  rw [e]
  exact ⟨⟨_, rfl, c⟩, rfl⟩
theorem cn_sortS {G : Cfg} {W : WX} : CN G W (rSortS G.K) oSortS := by
  intro ρ M H σ vs Q R ov p
  obtain ⟨v, rfl, p1⟩ := one_inv p
  obtain ⟨n, xs, rfl, q, p2⟩ := asL_inv p1
  obtain ⟨g, p3⟩ := guardO_inv p2
  obtain ⟨k1, k2⟩ := chainM_all g
  have pm := srtM_perm M xs
  refine ⟨ρ n, ims G ρ xs, keyH H, rfl, SqL.of (R.lst q).1, fun x hx => ?_, fun ys p h1 h2 hp => ?_⟩
  · obtain ⟨u, hu, rfl⟩ := List.mem_map.mp hx
    have := k1 u (pm.mem_iff.mpr hu)
    cases z : keyM M u with
    | none => rw [z] at this; cases this
    | some w => exact (keyM_im R z).1
  · have pw : (ims G ρ (srtM M xs)).Pairwise fun x y => ltS (keyH H) x y = true := by
      refine List.pairwise_map.mpr (k2.imp ?_)
      intro a b h
      unfold ltM at h
      cases za : keyM M a with
      | none => rw [za] at h; cases h
      | some pa =>
        cases zb : keyM M b with
        | none => rw [za, zb] at h; cases h
        | some pb =>
          rw [za, zb] at h
          have ea := (keyM_im R za).2
          have eb := (keyM_im R zb).2
          show sLt _ _ = true
          rw [← ea, ← eb]
          exact h
    have e : ims G ρ (srtM M xs) = ys := srt_uniq (ltS_swo (keyH H)) (((pm.map _)).trans h2.perm.symm) pw h1
    rw [← e]
    exact new_lst_ok R p3 (fun u hu => (R.lst q).2 u (pm.mem_iff.mp hu)) p hp
section
variable {X : Cx} {G : Cfg} {W : WX} {e : Expr} {es : List Expr} {ml : ML} {p pos : Pos}
theorem b_sorted (hK : X.K = G.K) (hc : X.calm = true) (hg : Gl X "sorted") (hm : X.mg "sorted" = none) (ha : RL X G W (e :: es) ml) (he : starEach (e :: es) X.env = (false, eval e X.env) :: starEach es X.env := by rfl) (hpl : (backTo pos (starEach es X.env)).any (·.1) = false := by rfl) :
    RE X G W (.Call (.Name "sorted" p) (e :: es) [] pos) (mFn oSortS ml) := re_callB cr_sortS (by rw [hK]; exact cn_sortS) hg hm boot_sorted ha (by decide) (by decide) he hpl
end
end PM
end
noncomputable section
namespace PM
open PySem PySem.Spec PyProof.Rows L2
/-! ## is_name, by hand -/
def smallS : Str := "abcdefghijklmnopqrstuvwxyz"
def isSm (c : Nat) : Bool := Nat.ble 97 c && Nat.ble c 122
theorem smallS_eq : smallS.cps.toList = List.range' 97 26 := by decide +kernel
theorem small_in (c : Nat) : decide (c ∈ smallS.cps.toList) = isSm c := by
  rw [smallS_eq]
  unfold isSm
  have e : (c ∈ List.range' 97 26) ↔ (97 ≤ c ∧ c ≤ 122) := by
    rw [List.mem_range'_1]
    omega
  rw [Bool.eq_iff_iff, decide_eq_true_eq, e, Bool.and_eq_true_iff, Nat.ble_eq, Nat.ble_eq]
def oNmLen (ny : Nat) (v : MV) (M : MS) : Out MV := match v with
  | .str s => guardO (Nat.ble s.cps.size CAP) (.ok (.bl (Nat.ble 1 s.cps.size && Nat.ble s.cps.size 6)) M)
  | .sym _ i => guardO (Nat.ble (i + 1) ny) (.ok (.bl true) M)
  | _ => .bad
def oNmAll (ny : Nat) (v : MV) (M : MS) : Out MV := match v with
  | .str s => guardO (Nat.ble s.cps.size CAP) (.ok (.bl (s.cps.toList.all isSm)) M)
  | .sym _ i => guardO (Nat.ble (i + 1) ny) (.ok (.bl true) M)
  | _ => .bad
def mNmAll (ny : Nat) (m : MX) : MX := fun e M => guardO (Nat.ble 2 e.length) (mUn (oNmAll ny) m e M)
/-- the made-up names are names -/
def TauOk (G : Cfg) (ny : Nat) : Prop := ∀ f i, i < ny → 1 ≤ (G.tau f i).cps.size ∧ (G.tau f i).cps.size ≤ 6 ∧ (G.tau f i).cps.toList.all isSm = true
section
variable {X : Cx} {G : Cfg} {W : WX} {ny : Nat} {p p1 p2 p3 p4 p5 p6 p7 : Pos}
theorem nm_val {ρ : Nat → Addr} {M : MS} {v : MV} {f : MV → MS → Out MV} {o : Out MV} {H : Hp} {σ : L2.St} {Q : VK} (ht : TauOk G ny) :
    (PoE G ρ M.nx W σ (oNmLen ny v M) Q → ∃ z : Str, im G ρ v = .str z ∧ z.cps.size ≤ sizeLine ∧ PoE G ρ M.nx W σ (.ok (.bl (Nat.ble 1 z.cps.size && Nat.ble z.cps.size 6)) M) Q) ∧
    (PoE G ρ M.nx W σ (oNmAll ny v M) Q → ∃ z : Str, im G ρ v = .str z ∧ z.cps.size < sizeLine ∧ PoE G ρ M.nx W σ (.ok (.bl (z.cps.toList.all isSm)) M) Q) := by
  have cl : CAP < sizeLine := by rw [sizeLine_eq]; decide
  constructor
  · intro p
    cases v with
    | str s =>
      obtain ⟨g, p⟩ := guardO_inv p
      exact ⟨s, rfl, Nat.le_of_lt (Nat.lt_of_le_of_lt (Nat.le_of_ble_eq_true g) cl), p⟩
    | sym f i =>
      obtain ⟨g, p⟩ := guardO_inv p
      obtain ⟨h1, h2, h3⟩ := ht f i (Nat.le_of_ble_eq_true g)
      refine ⟨_, rfl, Nat.le_of_lt (Nat.lt_of_le_of_lt h2 (by rw [sizeLine_eq]; decide)), ?_⟩
      rw [Nat.ble_eq_true_of_le h1, Nat.ble_eq_true_of_le h2]
      exact p
    | _ => exact p.elim
  · intro p
    cases v with
    | str s =>
      obtain ⟨g, p⟩ := guardO_inv p
      exact ⟨s, rfl, Nat.lt_of_le_of_lt (Nat.le_of_ble_eq_true g) cl, p⟩
    | sym f i =>
      obtain ⟨g, p⟩ := guardO_inv p
      obtain ⟨h1, h2, h3⟩ := ht f i (Nat.le_of_ble_eq_true g)
      refine ⟨_, rfl, Nat.lt_of_le_of_lt h2 (by rw [sizeLine_eq]; decide), ?_⟩
      rw [h3]
      exact p
    | _ => exact p.elim
theorem re_nmLen {a : Expr} {ma : MX} {j1 : Nat} {x : Str} (ht : TauOk G ny) (hg : Gl X "len") (hm : X.mg "len" = none) (hgx : Gl X x) (hmx : ∃ t, X.mg x = some (.int 6 t)) (ha : RE X G W a ma) (hd : (x == ("__debug__" : Str)) = false := by decide)
    (he : starEach [a] X.env = (false, eval a X.env) :: starEach [] X.env := by rfl) (hpl : (backTo p2 (starEach [] X.env)).any (·.1) = false := by rfl)
    (hmm : lastMarks [.LtE, .LtE] [.Call (.Name "len" p1) [a] [] p2, .Name x p3] = false := by with_unfolding_all rfl) :
    RE X G W (.Compare (.Constant (.int 1) j1 p4) [.LtE, .LtE] [.Call (.Name "len" p1) [a] [] p2, .Name x p3] p5) (mUn (oNmLen ny) ma) := by
  obtain ⟨t6, h6⟩ := hmx
  refine PE.imp (pe_chain op_le op_le pe_int (pe_callB call_len_str hg hm boot_len (pa_cons ha pa_nil he) (by decide) (by decide) he hpl) (pe_glob (v := .int 6) hgx h6 ⟨_, rfl⟩ hd) hmm) fun σ H Q ⟨ρ, M, e, R, E, p⟩ => ?_
  refine se_at R E p fun ρ M H v x R o _ p => ?_
  obtain ⟨z, ez, hz, p⟩ := (nm_val (o := .bad) (H := H) (f := oNmLen ny) ht).1 p
  refine ⟨z, by rw [ez], hz, 1, z.cps.size, rfl, rfl, ?_⟩
  have fin := Po.fin R p trivial
  refine ⟨_, rfl, ?_⟩
  by_cases h1 : (1 : Int) ≤ (z.cps.size : Int)
  · rw [show decide ((1 : Int) ≤ (z.cps.size : Int)) = true from decide_eq_true h1, if_pos rfl]
    refine ⟨_, _, rfl, rfl, ?_⟩
    show Q (.bl (decide ((z.cps.size : Int) ≤ 6))) H
    have e : (Nat.ble 1 z.cps.size && z.cps.size.ble 6) = decide ((z.cps.size : Int) ≤ 6) := by
      rw [Bool.eq_iff_iff, decide_eq_true_eq, Bool.and_eq_true_iff, Nat.ble_eq, Nat.ble_eq]
      omega
    rw [← e]
    exact fin
  · rw [show decide ((1 : Int) ≤ (z.cps.size : Int)) = false from decide_eq_false h1, if_neg (by simp)]
    have e : (Nat.ble 1 z.cps.size && z.cps.size.ble 6) = false := by
      rw [Bool.eq_false_iff]
      intro q
      rw [Bool.and_eq_true_iff, Nat.ble_eq, Nat.ble_eq] at q
      omega
    rw [e] at fin
    exact fin
theorem Rl.ext {ρ : Nat → Addr} {M : MS} {H H' : Hp} (R : Rl G ρ M H) (hs : ∀ b o, H b = some o → H' b = some o) : Rl G ρ M H' := by
  refine ⟨fun n o q => ?_, R.j, ?_, R.c, R.f⟩
  · obtain ⟨a1, a2, c⟩ := R.o n o q
    refine ⟨a1, a2, ?_⟩
    cases o with
    | lst xs => exact hs _ _ c
    | tup xs => exact hs _ _ c
    | ktup xs =>
      rcases (show SqT _ _ _ _ from c) with (c | ⟨ob, c⟩) | c
      · exact .inl (.inl (hs _ _ c))
      · exact .inl (.inr ⟨ob, hs _ _ c⟩)
      · exact .inr c
    | dk kvs => exact hs _ _ c
    | dkL kvs => exact hs _ _ c
    | dt kvs => exact hs _ _ c
    | dtL kvs => exact hs _ _ c
    | ins cc fs => obtain ⟨dx, c⟩ := c; exact ⟨dx, hs _ _ c⟩
    | xd fs => exact hs _ _ c
  · rcases R.s with ⟨o, q⟩ | q
    · exact .inl ⟨o, hs _ _ q⟩
    · exact .inr q
theorem re_nmAll {a elt tg : Expr} {ma : MX} {scope : Scope} {own : List (Str × Nat)} (ht : TauOk G ny) (hK : X.K = G.K) (hc : X.calm = true) (hN : X.N.Nodup) (hg : Gl X "all") (hm : X.mg "all" = none) (ha : RE X G W a ma) (ok : BlkOk X.N X.env.scope scope own) (hv : own.map (·.2) = [1])
    (hgt : ∀ (s : Shared) (H : Hp) (C : Addr) (cl : List (Str × Addr)) (fp : List Addr), PG (X.blk s H scope (compEnvC scope cl C X.env) fp) tg (gName 1))
    (het : ∀ (s : Shared) (H : Hp) (C : Addr) (cl : List (Str × Addr)) (fp : List Addr), PE (X.blk s H scope (compEnvC scope cl C X.env) fp) elt (tOp rInS (tVar 1) (tC (.str smallS))))
    (hs : ∀ x, foldedSetIterable a X.env x = pure x := by intro _; rfl)
    (he : starEach [.ListComp elt [⟨tg, a, [], 0⟩] scope p1] X.env = (false, eval (.ListComp elt [⟨tg, a, [], 0⟩] scope p1) X.env) :: starEach [] X.env := by rfl) (hpl : (backTo p2 (starEach [] X.env)).any (·.1) = false := by rfl) :
    RE X G W (.Call (.Name "all" p3) [.ListComp elt [⟨tg, a, [], 0⟩] scope p1] [] p2) (mNmAll ny ma) := by
  refine PE.imp (pe_callB (cr_all hc) hg hm boot_all (pa_cons (pe_lc hc hN (pi_str ha) ok hgt (fun _ _ _ _ _ => pts_nil) het hs) pa_nil he) (by decide) (by decide) he hpl) fun σ H Q ⟨ρ, M, e, R, E, p⟩ => ?_
  rw [hv]
  obtain ⟨hl, p⟩ := guardO_inv p
  have hl : 2 ≤ σ.length := by rw [E.1]; exact Nat.le_of_ble_eq_true hl
  refine se_at R E p fun ρ M H v x R o E p => ?_
  obtain ⟨z, ez, hz, p⟩ := (nm_val (o := .bad) (H := H) (f := oNmLen ny) ht).2 p
  refine ⟨z, ez, fun D hD => ?_⟩
  have two : ∀ u u' : HO, upd (upd H D u) D u' = upd H D u' := fun u u' => funext fun b => by
    by_cases q : b = D
    · rw [q, upd_same, upd_same]
    · rw [upd_ne q, upd_ne q, upd_ne q]
  refine lc_it walk_str (fun i H' => H' = upd H D (.lst ((z.cps.toList.take i).map fun c => .bl (isSm c)))) rfl (fun _ _ _ _ => trivial) ?_ ?_
  · rintro i x H1 H2 hi rfl ⟨rfl, c, hcx, rfl⟩
    refine ⟨?_, ?_⟩
    · show ((σ.set 1 none).set 1 (some _)).set 1 none = σ.set 1 none
      rw [List.set_set, List.set_set]
    · dsimp only [tYes]
      rw [if_pos rfl]
      refine ⟨.str ⟨#[c]⟩, ?_, c, smallS, rfl, rfl, _, upd_same, ?_, ?_⟩
      · show ((σ.set 1 none).set 1 (some _))[1]? = _
        rw [List.set_set, List.getElem?_set_self (by omega)]
      · rw [List.length_map, List.length_take, Array.length_toList]
        omega
      · show upd (upd H D _) D _ = _
        rw [two, small_in]
        congr 2
        have hi2 : i < z.cps.toList.length := by rw [Array.length_toList]; exact hi
        rw [List.take_add_one, List.map_append]
        have e2 : z.cps.toList[i]? = some c := by rw [Array.getElem?_toList]; exact hcx
        rw [e2]
        rfl
  · rintro H1 rfl
    refine ⟨D, z.cps.toList.map isSm, rfl, .inl (.inl ?_), ?_⟩
    · rw [upd_same]
      have e3 : z.cps.toList.take z.cps.size = z.cps.toList := by
        rw [← Array.length_toList, List.take_length]
      rw [e3, List.map_map]
      rfl
    · rw [List.all_map]
      exact p ρ _ Ex.refl (R.ext fun b o' eb => by rw [upd_ne (ne_of_none eb hD)]; exact eb) trivial
end
end PM
end
noncomputable section
namespace PM
open PySem PySem.Spec PyProof.Rows L2
def spin : Nat → Int → Int
  | 0, r => r
  | t + 1, r => if 0 < r then spin t (r / 840) else r
def turnOf (σ : L2.St) : Nat := match σ[5]? with
  | some (some (V.int t)) => t.toNat
  | _ => 0
theorem spin_stop {r : Int} (h : ¬ 0 < r) : ∀ t, spin t r = r
  | 0 => rfl
  | t + 1 => if_neg h
theorem spin_go {r : Int} {t : Int} (h : 0 < r) (ht : 0 < t) : spin t.toNat r = spin (t - 1).toNat (r / 840) := by
  obtain ⟨j, hj⟩ : ∃ j, t.toNat = j + 1 := ⟨t.toNat - 1, by omega⟩
  rw [hj, show (t - 1).toNat = j by omega]
  exact if_pos h
def cellF (ns : List Int) (k : Int) : Int := if ns = [] then 0 else ns.getD (k % (ns.length : Int)).toNat 0
def pkF (ns : List Int) (k m : Int) : Int :=
  let c := cellF ns k
  let r := spin (k / (if (1 : Int) > (ns.length : Int) then 1 else (ns.length : Int))).toNat (c / (10 ^ 18))
  if 0 < r then r % 840 % m else
    let d := (c * 31 + 6151 * (k + 1)) * 40692 % 2147483399
    (d * d + d / 31) % 2147483629 % m
theorem pkF_go {ns : List Int} {k m : Int} (h : 0 < spin (k / (if (1 : Int) > (ns.length : Int) then 1 else (ns.length : Int))).toNat (cellF ns k / (10 ^ 18))) : pkF ns k m = spin (k / (if (1 : Int) > (ns.length : Int) then 1 else (ns.length : Int))).toNat (cellF ns k / (10 ^ 18)) % 840 % m := if_pos h
theorem pkF_stop {ns : List Int} {k m : Int} (h : ¬ 0 < spin (k / (if (1 : Int) > (ns.length : Int) then 1 else (ns.length : Int))).toNat (cellF ns k / (10 ^ 18))) :
    pkF ns k m = ((cellF ns k * 31 + 6151 * (k + 1)) * 40692 % 2147483399 * ((cellF ns k * 31 + 6151 * (k + 1)) * 40692 % 2147483399) + (cellF ns k * 31 + 6151 * (k + 1)) * 40692 % 2147483399 / 31) % 2147483629 % m := if_neg h
theorem pick_d (c k : Int) : 0 ≤ (c * 31 + 6151 * (k + 1)) * 40692 % 2147483399 ∧ (c * 31 + 6151 * (k + 1)) * 40692 % 2147483399 < 2147483399 := ⟨Int.emod_nonneg _ (by decide), Int.emod_lt_of_pos _ (by decide)⟩
theorem pkF_ok (ns : List Int) (k : Int) {m : Int} (h : 0 < m) : 0 ≤ pkF ns k m ∧ pkF ns k m < m := by
  have h0 : m ≠ 0 := by omega
  unfold pkF
  dsimp only
  generalize spin _ _ = r
  by_cases q : 0 < r
  · rw [if_pos q]
    exact ⟨Int.emod_nonneg _ h0, Int.emod_lt_of_pos _ h⟩
  · rw [if_neg q]
    exact ⟨Int.emod_nonneg _ h0, Int.emod_lt_of_pos _ h⟩
def pickF (pk : Int → Int → Int) : MF := fun args M => match args with
  | [.opq, .int k, .int m] => guardO (decide (0 ≤ k) && decide (0 < m)) (.ok (.int (pk k m)) M)
  | _ => .bad
theorem guardF_inv {G : Cfg} {ρ : Nat → Addr} {nx : Nat} {b : Bool} {k : Out MV} {Q : VK} {E : XK} (p : PoF G ρ nx (guardO b k) Q E) : b = true ∧ PoF G ρ nx k Q E := by
  cases b with
  | true => exact ⟨rfl, p⟩
  | false => exact p.elim
theorem dp_ints {K : PySem.W.Frag} {H : Hp} : ∀ ns : List Int, DpAll K H (ns.map V.int) (ns.map PyData.int) ∧ PyData.canLayAll0 (ns.map PyData.int) = true ∧ PyData.depthAll (ns.map PyData.int) ≤ 1
  | [] => ⟨.nil, rfl, Nat.zero_le _⟩
  | i :: ns => by
    obtain ⟨h1, h2, h3⟩ := dp_ints (K := K) (H := H) ns
    refine ⟨.cons (.int i) h1, ?_, ?_⟩
    · show (PyData.canLay0 (.int i) && _) = true
      rw [h2]
      rfl
    · show max (PyData.depth (.int i)) _ ≤ 1
      exact Nat.max_le.mpr ⟨Nat.zero_le _, h3⟩
end PM
end
noncomputable section
namespace PM
open PySem PySem.Spec PyProof.Rows L2
/-! ## the end: facts of the head -/
theorem no_of {K : PySem.W.Frag} {fl : List Str} {cls : Nat → Addr} {n : Nat} (h : ((List.range n).all fun c => fl.all fun x => He.eqO (PySem.W.findIn K (.ref (cls c)) x) (some none)) = true) :
    ∀ c f, c < n → f < fl.length → NoAttr K (cls c) (fnm fl f) := by
  intro c f hc hf
  have h1 := List.all_eq_true.mp h c (List.mem_range.mpr hc)
  have e : fl[f]? = some fl[f] := List.getElem?_eq_getElem hf
  have h2 := List.all_eq_true.mp h1 fl[f] (List.getElem_mem hf)
  unfold fnm
  rw [e]
  exact He.eqO_ok h2
def tupAB (K : PySem.W.Frag) (a : Addr) (vs : List He.Dv) : Bool := match K.lookup a with
  | some o => (match o.data with
    | .seq its _ => decide (o.cls = .type "tuple") && (decide (its.size ≤ sizeLine) && He.relAll (vs.map (He.Dv.v K)) its.toList)
    | _ => false)
  | none => false
theorem tupAB_ok {K : PySem.W.Frag} {a : Addr} {vs : List He.Dv} (h : tupAB K a vs = true) (H : Hp) : SqT K H a (vs.map (He.Dv.v K)) := by
  unfold tupAB at h
  cases q : K.lookup a with
  | none => rw [q] at h; cases h
  | some o =>
    rw [q] at h
    dsimp only at h
    cases e : o.data with
    | seq its n =>
      rw [e] at h
      obtain ⟨h1, h2⟩ := He.ba h
      obtain ⟨h3, h4⟩ := He.ba h2
      exact .inr ⟨o, its, n, q, of_decide_eq_true h1, e, of_decide_eq_true h3, He.relAll_ok h4⟩
    | _ => rw [e] at h; cases h
def cfB (K : PySem.W.Frag) (C : Addr) (m : Str) (f : Addr) : Bool :=
  He.eqO (PySem.W.specialIn K (.ref C) "__getattribute__") (some (some (.builtin "type.__getattribute__"))) && (PySem.W.readsIn K C (.type "type") && ((match PySem.W.findCls K (.ref C) (.type "type") m with
    | some (.val (.ref g)) => decide (g = f)
    | _ => false) && PySem.W.keepIn K (.ref f)))
theorem cfB_ok {K : PySem.W.Frag} {C : Addr} {m : Str} {f : Addr} (h : cfB K C m f = true) : CFn K C m f := by
  obtain ⟨h1, h2⟩ := He.ba h
  obtain ⟨h3, h4⟩ := He.ba h2
  obtain ⟨h5, h6⟩ := He.ba h4
  refine ⟨He.eqO_ok h1, h3, ?_, h6⟩
  split at h5
  · rename_i g e
    rw [e, of_decide_eq_true h5]
  · cases h5
def lenB (K : PySem.W.Frag) (C f : Addr) : Bool := He.eqO (PySem.W.findIn K (.ref C) "__len__") (some (some (.ref f))) && PySem.W.isFn K (.ref f)
theorem lenB_ok {K : PySem.W.Frag} {C f : Addr} (h : lenB K C f = true) : LenC K C f := by
  obtain ⟨h1, h2⟩ := He.ba h
  exact ⟨He.eqO_ok h1, h2⟩
theorem hd_of {K : PySem.W.Frag} {w : World} {a : Addr} {f : Str → Option Int} {kvs : List (Str × He.Dv)} (hk : ∃ es n, KDict K w a es n) (hv : He.valsB K a kvs = true) (hf : ∀ s i, f s = some i → (s, He.Dv.int i) ∈ kvs) : HD K w a f := by
  obtain ⟨es, n, k1, k2, _⟩ := hk
  refine ⟨fun s i e => ?_⟩
  obtain ⟨u, e1, r⟩ := He.valsB_ok hv (hf s i e)
  exact ⟨es, n, u, k1, k2, e1, r⟩
/-- the law's end: as walk_ofE, CX by the world -/
theorem walk_w {l : PySem.W.OpenLaw} {n k : Nat} {q : Program} {loose : List Str} {XP : (Str → Option Value) → Heap → Prop} {YP : World → Heap → Prop} {d : DefRec} {x : Str}
    (hn : l.most = some n) (hn2 : n ≤ sizeLine) (hdf : d.params.defaults = []) (hr : Room k callerA)
    (F : ∀ (w : World) (mg : Str → Option Value) (fa : Addr) (h : Heap), YP w h → h.Ns mainGlobals mg → mg d.name = some (.ref fa) →
      ∃ (K : PySem.W.Frag) (fd : FuncData) (sp : Sp), K.In h ∧ (∀ (s : Shared) (u : Value), BindsTo s fd ⟨[u], []⟩ [(x, u)]) ∧
        (∀ (H : Hp) (a : Addr) (ns : List Int), ns.length ≤ n → Only H → SqL K H a (ns.map V.int) → sp [.ref a] H (fun v _ => v = .bl true) fun _ _ _ => False) ∧
        ∀ base : Heap, K.In base → base.Ns mainGlobals mg → FnOk l.prog w K mg base (L2.CX l.prog w) k fa fd [x] sp) :
    PySem.W.WalkO q loose XP YP l.row.toRowW d [] (fun f vs => PySem.call f vs) :=
  Att.attach_call hn hdf fun w s₀ s₁ mg mb fa o pm cd doc a vs ns G Y ho hd hcd hmg hobj hints hlen hg => by
    obtain ⟨K, fd, sp, KX, hb, hsp, hF⟩ := F w mg fa _ Y G.T.g hmg
    exact law_call KX G.T.g G.T.b G.T.builtins G.T.nolimit hg hobj hints (Nat.le_trans hlen hn2) hr hF hb (fun H hO hS => hsp H a ns hlen hO hS) fun H e s' ⟨_, _, _, _, _, _, _, _, _, _, _, _, z⟩ => z
theorem sqf_only {K : PySem.W.Frag} {H : Hp} {a : Addr} {xs : List V} (hO : Only H) (h : SqL K H a xs) : SqF K H a xs := by
  rcases h with (h | ⟨o, h⟩) | h
  · rcases hO a with e | ⟨o, ys, e⟩
    · rw [e] at h; cases h
    · rw [e] at h; cases h
  · exact .inl ⟨o, h⟩
  · exact .inr h
end PM
end
noncomputable section
namespace PM
open PySem PySem.Spec PyProof.Rows L2
/-! ## the head's facts over few objects, found by paths -/
def rfA : Option (Option Value) → Addr
  | some (some (.ref a)) => a
  | _ => 0
def vrA : Value → Addr
  | .ref a => a
  | _ => 0
/-- what the namespace at a holds under x -/
def atN (g : Addr → Option Obj) (a : Addr) (x : Str) : Addr := rfA (PySem.W.nsIn (He.frG g [a]) a x)
def nsOf (g : Addr → Option Obj) (C : Addr) : Addr := match g C with
  | some o => (match o.data with
    | .cls cd => cd.ns
    | _ => 0)
  | none => 0
def codeOf (g : Addr → Option Obj) (f : Addr) : Addr := match g f with
  | some o => (match o.data with
    | .func fd => vrA fd.code
    | _ => 0)
  | none => 0
def dflOf (g : Addr → Option Obj) (f : Addr) : List Addr := match g f with
  | some o => (match o.data with
    | .func fd => [vrA fd.defaults, vrA fd.kwdefaults]
    | _ => [])
  | none => []
def vlsOf (g : Addr → Option Obj) (d : Addr) : List Addr := if d = 0 then [] else match g d with
  | some o => (match o.data with
    | .dict es _ => es.toList.map fun e => vrA e.val
    | _ => [])
  | none => []
def clsAs (g : Addr → Option Obj) (p : Str × List Str) : List Addr :=
  let C := atN g mainGlobals p.1
  let N := nsOf g C
  C :: N :: p.2.flatMap fun m => let f := atN g N m; [f, codeOf g f]
/-- the classes with their methods, the defs, the tables; the defs that have defaults -/
def pathA (cs : List (Str × List Str)) (gs : List Str) (ds : List (Str × Option Str)) (g : Addr → Option Obj) : List Addr :=
  mainGlobals :: cStatics :: (cs.flatMap (clsAs g) ++ gs.flatMap (fun x => let f := atN g mainGlobals x; [f, codeOf g f]) ++
    ds.flatMap fun p => let f := (match p.2 with
      | none => atN g mainGlobals p.1
      | some m => atN g (nsOf g (atN g mainGlobals p.1)) m)
    let l := dflOf g f
    l ++ l.flatMap (vlsOf g))
structure SaysP (fa : List He.Fa) (fn : List He.DefD) (ts : List He.Tab) (ex : PySem.W.Frag → Bool) (w : World) (K : PySem.W.Frag) : Prop where
  t : He.SaysT fa fn ts w K
  more : ex K = true
def obsP (as : (Addr → Option Obj) → List Addr) (fa : List He.Fa) (fn : List He.DefD) (ts : List He.Tab) (ex : PySem.W.Frag → Bool) (g : Addr → Option Obj) : He.AlX := (He.obsT fa fn ts (He.frG g (as g)), ex (He.frG g (as g)))
def hookP (as : (Addr → Option Obj) → List Addr) (fa : List He.Fa) (fn : List He.DefD) (ts : List He.Tab) (ex : PySem.W.Frag → Bool) : PySem.W.Hook where
  α := He.AlX
  obs := fun s => obsP as fa fn ts ex s.heap.get?
  val := fun w => He.valX fn ts w
  says := fun w h => ∃ K : PySem.W.Frag, K.In h ∧ SaysP fa fn ts ex w K
  of := fun _ _ e => ⟨_, He.frG_in, ⟨congrArg (fun z : He.AlX => z.1) e, congrArg (fun z : He.AlX => z.2) e⟩⟩
  keeps := fun _ _ _ ⟨K, hK, c⟩ k => ⟨K, PySem.W.Frag.In.keeps hK k, c⟩
theorem obsP_eq {as : (Addr → Option Obj) → List Addr} {fa : List He.Fa} {fn : List He.DefD} {ts : List He.Tab} {ex : PySem.W.Frag → Bool} {g : Addr → Option Obj} {s : Shared} (h : ∀ a, g a = s.heap.get? a) : obsP as fa fn ts ex g = (hookP as fa fn ts ex).obs s := by
  have e : g = s.heap.get? := funext h
  rw [e]
  rfl
end PM
end
noncomputable section
namespace LW
open PySem PySem.Spec PyProof.Rows L2 PM
open He (fAd)
structure FT where
  f_Pool_init : MF
  f_Pool_is_full : MF
  f_Pool_draw : MF
  f_Pool_back : MF
  f_Arena_init : MF
  f_Arena_draw_pool : MF
  f_Arena_back_pool : MF
  f_is_number : MF
  f_look_number : MF
  f_is_name : MF
  f_is_pool_size : MF
  f_look_size : MF
  f_kind_in : MF
  f_room_of : MF
  f_blocks_in : MF
  f_Blocks_init : MF
  f_Blocks_new_arena : MF
  f_Blocks_new_pool : MF
  f_Blocks_take : MF
  f_Blocks_give : MF
  f_Blocks_give_small : MF
  f_Blocks_settle : MF
  f_is_place : MF
  f_left_over : MF
  f_sift : MF
  f_Thing_init : MF
  f_Things_init : MF
  f_Things_track : MF
  f_Things_untrack : MF
  f_Things_shift : MF
  f_Things_new_thing : MF
  f_Things_look_bound : MF
  f_Things_targets_of : MF
  f_Things_sifted : MF
  f_Dying_init : MF
  f_Dying_hold : MF
  f_Dying_let_go : MF
  f_Dying_bind : MF
  f_Dying_unbind : MF
  f_Dying_empty_slot : MF
  f_Dying_die : MF
  f_Dying_end_aside : MF
  f_Dying_end : MF
  f_Dying_gone : MF
  f_Dying_ask_last : MF
  f_Dying_do_steps : MF
  f_Dying_do_step : MF
  f_Dying_unwatch : MF
  f_Dying_call : MF
  f_Dying_call_all : MF
  f_Dying_forget_weakly : MF
  f_Collecting_init : MF
  f_Collecting_collect_within : MF
  f_Collecting_collect_at : MF
  f_Collecting_tour : MF
  f_Collecting_may_track : MF
  f_Collecting_keep : MF
  f_Collecting_forget_lost : MF
  f_Collecting_ask_lost : MF
  f_Collecting_break_up : MF
  f_Collecting_may_collect : MF
  f_Collecting_count_new : MF
  f_is_step : MF
  f_are_steps : MF
  f_look_steps : MF
  f_World_init : MF
  f_World_len : MF
  f_World_look_name : MF
  f_World_make : MF
  f_World_forget : MF
  f_World_look_row : MF
  f_World_look_slot : MF
  f_World_put : MF
  f_World_collect : MF
  f_called : MF
  f_past : MF
  f_law_pick : MF
  f_law_fell : MF
  f_law_let : MF
  f_law : MF
def FT.bad : FT := ⟨fun _ _ => .bad, fun _ _ => .bad, fun _ _ => .bad, fun _ _ => .bad, fun _ _ => .bad, fun _ _ => .bad, fun _ _ => .bad, fun _ _ => .bad, fun _ _ => .bad, fun _ _ => .bad, fun _ _ => .bad, fun _ _ => .bad, fun _ _ => .bad, fun _ _ => .bad, fun _ _ => .bad, fun _ _ => .bad, fun _ _ => .bad, fun _ _ => .bad, fun _ _ => .bad, fun _ _ => .bad, fun _ _ => .bad, fun _ _ => .bad, fun _ _ => .bad, fun _ _ => .bad, fun _ _ => .bad, fun _ _ => .bad, fun _ _ => .bad, fun _ _ => .bad, fun _ _ => .bad, fun _ _ => .bad, fun _ _ => .bad, fun _ _ => .bad, fun _ _ => .bad, fun _ _ => .bad, fun _ _ => .bad, fun _ _ => .bad, fun _ _ => .bad, fun _ _ => .bad, fun _ _ => .bad, fun _ _ => .bad, fun _ _ => .bad, fun _ _ => .bad, fun _ _ => .bad, fun _ _ => .bad, fun _ _ => .bad, fun _ _ => .bad, fun _ _ => .bad, fun _ _ => .bad, fun _ _ => .bad, fun _ _ => .bad, fun _ _ => .bad, fun _ _ => .bad, fun _ _ => .bad, fun _ _ => .bad, fun _ _ => .bad, fun _ _ => .bad, fun _ _ => .bad, fun _ _ => .bad, fun _ _ => .bad, fun _ _ => .bad, fun _ _ => .bad, fun _ _ => .bad, fun _ _ => .bad, fun _ _ => .bad, fun _ _ => .bad, fun _ _ => .bad, fun _ _ => .bad, fun _ _ => .bad, fun _ _ => .bad, fun _ _ => .bad, fun _ _ => .bad, fun _ _ => .bad, fun _ _ => .bad, fun _ _ => .bad, fun _ _ => .bad, fun _ _ => .bad, fun _ _ => .bad, fun _ _ => .bad, fun _ _ => .bad, fun _ _ => .bad⟩
def hd_HEADS (s : Str) : Option Int := if s = "leaf" then some 16 else if s = "row" then some 56 else if s = "fixed" then some 40 else if s = "weak" then some 72 else none
def b_Pool_init (φ φm : FT) : MSt := mSeq (mSetA 0 (mVar 0) (mVar 1)) (mSeq (mSetA 1 (mVar 0) (mVar 2)) (mSeq (mSetA 2 (mVar 0) (mC (.int (0)))) (mSeq (mSetA 3 (mVar 0) (mFn oLstN (mNil))) (mSetA 4 (mVar 0) (mC (.int (0)))))))
def b_Pool_is_full (φ φm : FT) : MSt := mRet (mBi (oEq false) (mAttr 4 (mVar 0)) (mAttr 1 (mVar 0)))
def b_Pool_draw (φ φm : FT) : MSt := mSeq (mSetA 4 (mVar 0) (mBi oAdd (mAttr 4 (mVar 0)) (mC (.int (1))))) (mSeq (mIf (toT (mBi (oEq true) (mAttr 3 (mVar 0)) (mFn oLstN (mNil)))) (mRet (mLm0 (fun v M => oPop v [] M) (mAttr 3 (mVar 0)))) (mNx)) (mSeq (mSetA 2 (mVar 0) (mBi oAdd (mAttr 2 (mVar 0)) (mC (.int (1))))) (mRet (mBi (oInt fun i j => i - j) (mAttr 2 (mVar 0)) (mC (.int (1)))))))
def b_Pool_back (φ φm : FT) : MSt := mSeq (mSetA 4 (mVar 0) (mBi (oInt fun i j => i - j) (mAttr 4 (mVar 0)) (mC (.int (1))))) (mExpr (mLm oApp (mAttr 3 (mVar 0)) (mCons (mVar 1) (mNil))))
def b_Arena_init (φ φm : FT) : MSt := mSeq (mSetA 5 (mVar 0) (mDK)) (mSeq (mSetA 2 (mVar 0) (mC (.int (0)))) (mSeq (mSetA 3 (mVar 0) (mFn oLstN (mNil))) (mSetA 6 (mVar 0) (mVar 1))))
def b_Arena_draw_pool (φ φm : FT) : MSt := mSeq (mSetA 6 (mVar 0) (mBi (oInt fun i j => i - j) (mAttr 6 (mVar 0)) (mC (.int (1))))) (mSeq (mIf (toT (mBi (oEq true) (mAttr 3 (mVar 0)) (mFn oLstN (mNil)))) (mAsg (gNm 3) (mLm0 (fun v M => oPop v [] M) (mAttr 3 (mVar 0)))) (mSeq (mAsg (gNm 3) (mAttr 2 (mVar 0))) (mSetA 2 (mVar 0) (mBi oAdd (mAttr 2 (mVar 0)) (mC (.int (1))))))) (mSeq (mIf (mOrT (toT (mBi (oDIn true) (mVar 3) (mAttr 5 (mVar 0)))) (toT (mBi (oEq true) (mAttr 0 (mBi oDGet (mAttr 5 (mVar 0)) (mVar 3))) (mVar 1)))) (mDPut (mAttr 5 (mVar 0)) (mVar 3) (mMakeK 3 0 3 4 (fun a _ => a) φm.f_Pool_init (mCons (mVar 1) (mCons (mVar 2) (mNil))) (mNil))) (mNx)) (mRet (mVar 3))))
def b_Arena_back_pool (φ φm : FT) : MSt := mSeq (mSetA 6 (mVar 0) (mBi oAdd (mAttr 6 (mVar 0)) (mC (.int (1))))) (mSeq (mExpr (mLm oApp (mAttr 3 (mVar 0)) (mCons (mVar 1) (mNil)))) (mRet (mAttr 6 (mVar 0))))
def b_is_number (φ φm : FT) : MSt := mRet (mAndV (mIsi .int (mVar 0)) (mAndV (mNotV (mIsi .bool (mVar 0))) (mChain (oCmp (fun i j => decide (i ≤ j))) (oCmp (fun i j => decide (i ≤ j))) (mVar 1) (mVar 0) (mVar 2))))
def b_look_number (φ φm : FT) : MSt := mIf (mNotT (toT (mCallK 3 0 3 (fun a _ => a) φ.f_is_number (mCons (mVar 0) (mCons (mVar 1) (mCons (mVar 2) (mNil)))) (mNil)))) (mBad) (mNx)
def b_is_name (φ φm : FT) : MSt := mRet (mAndV (mIsi .str (mVar 0)) (mAndV (mUn (oNmLen 0) (mVar 0)) (mNmAll 0 (mVar 0))))
def b_is_pool_size (φ φm : FT) : MSt := mRet (mAndV (mCallK 3 0 3 (fun a _ => a) φ.f_is_number (mCons (mVar 0) (mCons (mC (.int (1072))) (mCons (mC (.int (4096))) (mNil)))) (mNil)) (mBi (oEq false) (mBi (oIntIf cMod fun i j => i % j) (mVar 0) (mC (.int (16)))) (mC (.int (0)))))
def b_look_size (φ φm : FT) : MSt := mIf (mNotT (toT (mCallK 3 0 3 (fun a _ => a) φ.f_is_number (mCons (mVar 0) (mCons (mC (.int (0))) (mCons (mC (.int (9999))) (mNil)))) (mNil)))) (mBad) (mNx)
def b_kind_in (φ φm : FT) : MSt := mSeq (mIf (toT (mBi (oCmp (fun i j => decide (j < i))) (mVar 0) (mC (.int (512))))) (mRet (mC (.non))) (mNx)) (mRet (mBi (oIntIf cDiv fun i j => i / j) (mBi (oInt fun i j => i - j) (mFn oMax (mCons (mVar 0) (mCons (mC (.int (1))) (mNil)))) (mC (.int (1)))) (mC (.int (16)))))
def b_room_of (φ φm : FT) : MSt := mSeq (mExpr (mCallK 3 0 3 (fun a _ => a) φ.f_look_number (mCons (mVar 0) (mCons (mC (.int (0))) (mCons (mBi (oInt fun i j => i - j) (mBi (oIntIf cDiv fun i j => i / j) (mC (.int (512))) (mC (.int (16)))) (mC (.int (1)))) (mNil)))) (mNil))) (mRet (mBi (oIntIf cMul fun i j => i * j) (mBi oAdd (mVar 0) (mC (.int (1)))) (mC (.int (16)))))
def b_blocks_in (φ φm : FT) : MSt := mSeq (mIf (mNotT (toT (mCallK 1 0 1 (fun a _ => a) φ.f_is_pool_size (mCons (mVar 0) (mNil)) (mNil)))) (mBad) (mNx)) (mRet (mBi (oIntIf cDiv fun i j => i / j) (mBi (oInt fun i j => i - j) (mVar 0) (mC (.int (48)))) (mCallK 1 0 1 (fun a _ => a) φ.f_room_of (mCons (mVar 1) (mNil)) (mNil))))
def b_Blocks_init (φ φm : FT) : MSt := mSeq (mIf (mNotT (toT (mCallK 1 0 1 (fun a _ => a) φ.f_is_pool_size (mCons (mVar 1) (mNil)) (mNil)))) (mBad) (mNx)) (mSeq (mExpr (mCallK 3 0 3 (fun a _ => a) φ.f_look_number (mCons (mVar 2) (mCons (mC (.int (1))) (mCons (mC (.int (64))) (mNil)))) (mNil))) (mSeq (mSetA 7 (mVar 0) (mVar 1)) (mSeq (mSetA 8 (mVar 0) (mVar 2)) (mSeq (mSetA 9 (mVar 0) (mDK)) (mSeq (mSetA 10 (mVar 0) (mFn oLstN (mNil))) (mSeq (mSetA 11 (mVar 0) (mFn oLstN (mNil))) (mSeq (mSetA 12 (mVar 0) (mC (.int (0)))) (mSeq (mSetA 13 (mVar 0) (mC (.int (0)))) (mSeq (mSetA 14 (mVar 0) (mDK)) (mSetA 15 (mVar 0) (mDT)))))))))))
def b_Blocks_new_arena (φ φm : FT) : MSt := mSeq (mIf (toT (mBi (oEq true) (mAttr 11 (mVar 0)) (mFn oLstN (mNil)))) (mAsg (gNm 1) (mLm0 (fun v M => oPop v [] M) (mAttr 11 (mVar 0)))) (mSeq (mAsg (gNm 1) (mAttr 12 (mVar 0))) (mSetA 12 (mVar 0) (mBi oAdd (mAttr 12 (mVar 0)) (mC (.int (1))))))) (mSeq (mDPut (mAttr 9 (mVar 0)) (mVar 1) (mMakeK 2 0 2 3 (fun a _ => a) φm.f_Arena_init (mCons (mAttr 8 (mVar 0)) (mNil)) (mNil))) (mSetA 10 (mVar 0) (mFn oLstN (mCons (mVar 1) (mNil)))))
def b_Blocks_new_pool (φ φm : FT) : MSt := mSeq (mIf (toT (mBi (oEq false) (mAttr 10 (mVar 0)) (mFn oLstN (mNil)))) (mExpr (mMethK 1 0 1 2 (fun a _ => a) φ.f_Blocks_new_arena (mVar 0) (mNil) (mNil))) (mNx)) (mSeq (mAsg (gNm 2) (mBi oIx (mAttr 10 (mVar 0)) (mC (.int (0))))) (mSeq (mAsg (gNm 3) (mBi oDGet (mAttr 9 (mVar 0)) (mVar 2))) (mSeq (mAsg (gNm 4) (mMethK 3 0 3 3 (fun a _ => a) φ.f_Arena_draw_pool (mVar 3) (mCons (mVar 1) (mCons (mCallK 2 0 2 (fun a _ => a) φ.f_blocks_in (mCons (mAttr 7 (mVar 0)) (mCons (mVar 1) (mNil))) (mNil)) (mNil))) (mNil))) (mSeq (mIf (toT (mBi (oEq false) (mAttr 6 (mVar 3)) (mC (.int (0))))) (mSetA 10 (mVar 0) (mSlice (mAttr 10 (mVar 0)) (some (mC (.int (1)))) none)) (mNx)) (mDPut (mAttr 14 (mVar 0)) (mVar 1) (mFn oLstN (mCons (mFn oTupN (mCons (mVar 2) (mCons (mVar 4) (mNil)))) (mNil))))))))
def b_Blocks_take (φ φm : FT) : MSt := mSeq (mExpr (mCallK 1 0 1 (fun a _ => a) φ.f_look_size (mCons (mVar 1) (mNil)) (mNil))) (mSeq (mAsg (gNm 2) (mCallK 1 0 1 (fun a _ => a) φ.f_kind_in (mCons (mVar 1) (mNil)) (mNil))) (mSeq (mIf (toT (mBi (oIs false) (mVar 2) (mC (.non)))) (mSeq (mAsg (gNm 3) (mFn oTupN (mCons (mC (.str "great")) (mCons (mAttr 13 (mVar 0)) (mNil))))) (mSetA 13 (mVar 0) (mBi oAdd (mAttr 13 (mVar 0)) (mC (.int (1)))))) (mSeq (mIf (toT (mBi (oEq false) (mGet2 (mAttr 14 (mVar 0)) (mVar 2) (mFn oLstN (mNil))) (mFn oLstN (mNil)))) (mExpr (mMethK 2 0 2 2 (fun a _ => a) φ.f_Blocks_new_pool (mVar 0) (mCons (mVar 2) (mNil)) (mNil))) (mNx)) (mSeq (mAsg (gTupM 2 (gAnd (gNm 5) (gAnd (gNm 6) (gNone)))) (mBi oIx (mBi oDGet (mAttr 14 (mVar 0)) (mVar 2)) (mC (.int (0))))) (mSeq (mAsg (gNm 4) (mBi oDGet (mAttr 5 (mBi oDGet (mAttr 9 (mVar 0)) (mVar 5))) (mVar 6))) (mSeq (mAsg (gNm 3) (mFn oTupN (mCons (mVar 5) (mCons (mVar 6) (mCons (mMethK 1 0 1 4 (fun a _ => a) φ.f_Pool_draw (mVar 4) (mNil) (mNil)) (mNil)))))) (mIf (toT (mMethK 1 0 1 4 (fun a _ => a) φ.f_Pool_is_full (mVar 4) (mNil) (mNil))) (mDPut (mAttr 14 (mVar 0)) (mVar 2) (mSlice (mBi oDGet (mAttr 14 (mVar 0)) (mVar 2)) (some (mC (.int (1)))) none)) (mNx))))))) (mSeq (mDPut (mAttr 15 (mVar 0)) (mVar 3) (mVar 1)) (mRet (mVar 3)))))
def b_Blocks_give (φ φm : FT) : MSt := mSeq (mIf (mOrT (mNotT (toT (mCallK 1 0 1 (fun a _ => a) φ.f_is_place (mCons (mVar 1) (mNil)) (mNil)))) (toT (mBi (oDIn true) (mVar 1) (mAttr 15 (mVar 0))))) (mBad) (mNx)) (mSeq (mAsg (gNm 2) (mDPopT (mAttr 15 (mVar 0)) (mVar 1))) (mSeq (mIf (toT (mBi (oEq true) (mBi oIx (mVar 1) (mC (.int (0)))) (mC (.str "great")))) (mExpr (mMethK 2 0 2 2 (fun a _ => a) φ.f_Blocks_give_small (mVar 0) (mCons (mVar 1) (mNil)) (mNil))) (mNx)) (mRet (mVar 2))))
def b_Blocks_give_small (φ φm : FT) : MSt := mSeq (mAsg (gTupM 3 (gAnd (gNm 2) (gAnd (gNm 3) (gAnd (gNm 4) (gNone))))) (mVar 1)) (mSeq (mAsg (gNm 5) (mBi oDGet (mAttr 5 (mBi oDGet (mAttr 9 (mVar 0)) (mVar 2))) (mVar 3))) (mSeq (mIf (toT (mMethK 1 0 1 4 (fun a _ => a) φ.f_Pool_is_full (mVar 5) (mNil) (mNil))) (mDPut (mAttr 14 (mVar 0)) (mAttr 0 (mVar 5)) (mBi oAdd (mFn oLstN (mCons (mFn oTupN (mCons (mVar 2) (mCons (mVar 3) (mNil)))) (mNil))) (mBi oDGet (mAttr 14 (mVar 0)) (mAttr 0 (mVar 5))))) (mNx)) (mSeq (mExpr (mMethK 2 0 2 4 (fun a _ => a) φ.f_Pool_back (mVar 5) (mCons (mVar 4) (mNil)) (mNil))) (mIf (toT (mBi (oEq false) (mAttr 4 (mVar 5)) (mC (.int (0))))) (mSeq (mDPut (mAttr 14 (mVar 0)) (mAttr 0 (mVar 5)) (mLc (itAny (mBi oDGet (mAttr 14 (mVar 0)) (mAttr 0 (mVar 5)))) (.one 6) [6] (toT (mBi (oEq true) (mVar 6) (mFn oTupN (mCons (mVar 2) (mCons (mVar 3) (mNil)))))) (mVar 6))) (mExpr (mMethK 3 0 3 2 (fun a _ => a) φ.f_Blocks_settle (mVar 0) (mCons (mVar 2) (mCons (mMethK 2 0 2 3 (fun a _ => a) φ.f_Arena_back_pool (mBi oDGet (mAttr 9 (mVar 0)) (mVar 2)) (mCons (mVar 3) (mNil)) (mNil)) (mNil))) (mNil)))) (mNx)))))
def b_Blocks_settle (φ φm : FT) : MSt := mIf (mAndT (toT (mBi (oEq false) (mVar 2) (mAttr 8 (mVar 0)))) (mAndT (toT (mBi (oIn false) (mVar 1) (mAttr 10 (mVar 0)))) (toT (mBi (oEq true) (mBi oIx (mAttr 10 (mVar 0)) (mUn oNeg (mC (.int (1))))) (mVar 1))))) (mSeq (mSetA 10 (mVar 0) (mLc (itAny (mAttr 10 (mVar 0))) (.one 5) [5] (toT (mBi (oEq true) (mVar 5) (mVar 1))) (mVar 5))) (mSeq (mExpr (mDPop (mAttr 9 (mVar 0)) (mVar 1))) (mExpr (mLm oApp (mAttr 11 (mVar 0)) (mCons (mVar 1) (mNil)))))) (mIf (toT (mBi (oEq false) (mVar 2) (mC (.int (1))))) (mSetA 10 (mVar 0) (mBi oAdd (mFn oLstN (mCons (mVar 1) (mNil))) (mAttr 10 (mVar 0)))) (mSeq (mAsg (gNm 3) (mLc (itAny (mAttr 10 (mVar 0))) (.one 5) [5] (toT (mBi (oEq true) (mVar 5) (mVar 1))) (mVar 5))) (mSeq (mAsg (gNm 4) (mLc (itAny (mVar 3)) (.one 5) [5] (toT (mBi (oCmp (fun i j => decide (i < j))) (mAttr 6 (mBi oDGet (mAttr 9 (mVar 0)) (mVar 5))) (mVar 2))) (mVar 5))) (mSetA 10 (mVar 0) (mBi oAdd (mBi oAdd (mVar 4) (mFn oLstN (mCons (mVar 1) (mNil)))) (mLc (itAny (mVar 3)) (.one 5) [5] (toT (mBi (oIn true) (mVar 5) (mVar 4))) (mVar 5)))))))
def b_is_place (φ φm : FT) : MSt := mSeq (mIf (mNotT (toT (mIsi .tup (mVar 0)))) (mRet (mC (.bl false))) (mNx)) (mSeq (mIf (toT (mBi (oEq false) (mFn oLen (mCons (mVar 0) (mNil))) (mC (.int (2))))) (mRet (mAndV (mIsi .str (mBi oIx (mVar 0) (mC (.int (0))))) (mAndV (mBi (oEq false) (mBi oIx (mVar 0) (mC (.int (0)))) (mC (.str "great"))) (mCallK 3 0 3 (fun a _ => a) φ.f_is_number (mCons (mBi oIx (mVar 0) (mC (.int (1)))) (mCons (mC (.int (0))) (mCons (mBi (oIntIf cPow fun i j => i ^ j.toNat) (mC (.int (10))) (mC (.int (9)))) (mNil)))) (mNil))))) (mNx)) (mRet (mAndV (mBi (oEq false) (mFn oLen (mCons (mVar 0) (mNil))) (mC (.int (3)))) (mFn oAll (mCons (mLc (itAny (mVar 0)) (.one 1) [1] (mYes) (mCallK 3 0 3 (fun a _ => a) φ.f_is_number (mCons (mVar 1) (mCons (mC (.int (0))) (mCons (mBi (oIntIf cPow fun i j => i ^ j.toNat) (mC (.int (10))) (mC (.int (9)))) (mNil)))) (mNil))) (mNil))))))
def b_left_over (φ φm : FT) : MSt := mSeq (mAsg (gNm 3) (mFn oDictP (mCons (mLc (itAny (mVar 0)) (.one 4) [4] (mYes) (mFn oTupN (mCons (mVar 4) (mCons (mBi oDGet (mVar 1) (mVar 4)) (mNil))))) (mNil)))) (mSeq (mFor (itAny (mVar 0)) (gNm 4) (mFor (itAny (mBi oDGet (mVar 2) (mVar 4))) (gNm 5) (mIf (toT (mBi (oDIn false) (mVar 5) (mVar 3))) (mDPut (mVar 3) (mVar 5) (mBi (oInt fun i j => i - j) (mBi oDGet (mVar 3) (mVar 5)) (mC (.int (1))))) (mNx)))) (mRet (mVar 3)))
def b_sift (φ φm : FT) : MSt := mSeq (mPar3 3 4 5 (mCons (mCallK 3 0 3 (fun a _ => a) φ.f_left_over (mCons (mVar 0) (mCons (mVar 1) (mCons (mVar 2) (mNil)))) (mNil)) (mCons (mFn oLstN (mNil)) (mCons (mDK) (mNil))))) (mSeq (mAsg (gNm 6) (mFn oList (mCons (mVar 0) (mNil)))) (mSeq (mWhile (toT (mBi (oEq true) (mVar 6) (mFn oLstN (mNil)))) (mSeq (mAsg (gNm 7) (mLm oPopAt (mVar 6) (mCons (mC (.int (0))) (mNil)))) (mIf (toT (mBi (oEq false) (mBi oDGet (mVar 3) (mVar 7)) (mC (.int (0))))) (mDPut (mVar 5) (mVar 7) (mC (.bl true))) (mSeq (mExpr (mLm oApp (mVar 4) (mCons (mVar 7) (mNil)))) (mFor (itAny (mUn oRev (mBi oDGet (mVar 2) (mVar 7)))) (gNm 8) (mIf (mAndT (toT (mBi (oDIn false) (mVar 8) (mVar 3))) (toT (mBi (oEq false) (mBi oDGet (mVar 3) (mVar 8)) (mC (.int (0)))))) (mSeq (mDPut (mVar 3) (mVar 8) (mC (.int (1)))) (mIf (toT (mBi (oDIn false) (mVar 8) (mVar 5))) (mSeq (mExpr (mDPop (mVar 5) (mVar 8))) (mExpr (mLm oApp (mVar 6) (mCons (mVar 8) (mNil))))) (mNx))) (mNx))))))) (mRet (mFn oTupN (mCons (mVar 4) (mCons (mFn oList (mCons (mVar 5) (mNil))) (mNil)))))))
def b_Thing_init (φ φm : FT) : MSt := mSeq (mSetA 16 (mVar 0) (mVar 1)) (mSeq (mSetA 17 (mVar 0) (mFn oList (mCons (mVar 2) (mNil)))) (mSeq (mSetA 18 (mVar 0) (mVar 3)) (mSeq (mSetA 19 (mVar 0) (mVar 4)) (mSeq (mSetA 20 (mVar 0) (mC (.int (0)))) (mSeq (mSetA 21 (mVar 0) (mC (.non))) (mSeq (mSetA 22 (mVar 0) (mFn oLstN (mNil))) (mSeq (mSetA 23 (mVar 0) (mC (.bl false))) (mSetA 24 (mVar 0) (mC (.non))))))))))
def b_Things_init (φ φm : FT) : MSt := mSeq (mSetA 25 (mVar 0) (mMakeK 1 2 3 2 (fun a b => a ++ b ++ []) φm.f_Blocks_init (mNil) (mCons (mVar 1) (mCons (mVar 2) (mNil))))) (mSeq (mSetA 26 (mVar 0) (mDK)) (mSeq (mSetA 27 (mVar 0) (mDK)) (mSeq (mSetA 28 (mVar 0) (mLc (itR1 (mC (.int (5)))) (.one 3) [3] (mYes) (mFn oLstN (mNil)))) (mSeq (mSetA 29 (mVar 0) (mFn oLstN (mNil))) (mSeq (mAsg2 (gAttM 30 (mVar 0)) (gAttM 31 (mVar 0)) (mC (.int (0)))) (mSetA 32 (mVar 0) (mFn oLstN (mCons (mC (.int (0))) (mCons (mC (.int (0))) (mCons (mC (.int (0))) (mNil)))))))))))
def b_Things_track (φ φm : FT) : MSt := mSeq (mSetA 24 (mBi oDGet (mAttr 26 (mVar 0)) (mVar 1)) (mVar 2)) (mExpr (mLm oApp (mBi oIx (mAttr 28 (mVar 0)) (mVar 2)) (mCons (mVar 1) (mNil))))
def b_Things_untrack (φ φm : FT) : MSt := mSeq (mAsg (gNm 2) (mBi oDGet (mAttr 26 (mVar 0)) (mVar 1))) (mIf (toT (mBi (oIs true) (mAttr 24 (mVar 2)) (mC (.non)))) (mSeq (mExpr (mLm oRem (mBi oIx (mAttr 28 (mVar 0)) (mAttr 24 (mVar 2))) (mCons (mVar 1) (mNil)))) (mSetA 24 (mVar 2) (mC (.non)))) (mNx))
def b_Things_shift (φ φm : FT) : MSt := mFor (itAny (mFn oList (mCons (mVar 1) (mNil)))) (gNm 3) (mSeq (mExpr (mMethK 2 0 2 0 (fun a _ => a) φ.f_Things_untrack (mVar 0) (mCons (mVar 3) (mNil)) (mNil))) (mExpr (mMethK 3 0 3 0 (fun a _ => a) φ.f_Things_track (mVar 0) (mCons (mVar 3) (mCons (mVar 2) (mNil))) (mNil))))
def b_Things_new_thing (φ φm : FT) : MSt := mSeq (mAsg (gNm 5) (mAttr 30 (mVar 0))) (mSeq (mAugA 30 (fun i j => i + j) (mVar 0) (mC (.int (1)))) (mSeq (mAsg (gNm 6) (mMethK 2 0 2 2 (fun a _ => a) φ.f_Blocks_take (mAttr 25 (mVar 0)) (mCons (mBi oAdd (mBi oAdd (mUn (oHD hd_HEADS) (mVar 1)) (mBi (oIntIf cMul fun i j => i * j) (mC (.int (8))) (mFn oLen (mCons (mVar 2) (mNil))))) (mVar 4)) (mNil)) (mNil))) (mSeq (mDPut (mAttr 26 (mVar 0)) (mVar 5) (mMakeK 5 0 5 1 (fun a _ => a) φm.f_Thing_init (mCons (mVar 1) (mCons (mVar 2) (mCons (mVar 3) (mCons (mVar 6) (mNil))))) (mNil))) (mSeq (mFor (itAny (mVar 2)) (gNm 7) (mIf (toT (mBi (oIs true) (mVar 7) (mC (.non)))) (mAugA 20 (fun i j => i + j) (mBi oDGet (mAttr 26 (mVar 0)) (mVar 7)) (mC (.int (1)))) (mNx))) (mSeq (mIf (toT (mBi (oEq true) (mVar 1) (mC (.str "leaf")))) (mExpr (mMethK 2 0 3 0 (fun a _ => a ++ [.int (0)]) φ.f_Things_track (mVar 0) (mCons (mVar 5) (mNil)) (mNil))) (mNx)) (mRet (mVar 5)))))))
def b_Things_look_bound (φ φm : FT) : MSt := mSeq (mIf (mOrT (mNotT (toT (mCallK 1 0 1 (fun a _ => a) φ.f_is_name (mCons (mVar 1) (mNil)) (mNil)))) (toT (mBi (oDIn true) (mVar 1) (mAttr 27 (mVar 0))))) (mBad) (mNx)) (mRet (mBi oDGet (mAttr 27 (mVar 0)) (mVar 1)))
def b_Things_targets_of (φ φm : FT) : MSt := mRet (mDc (itAny (mVar 1)) (.one 2) [2] (mYes) (mVar 2) (mLc (itAny (mAttr 17 (mBi oDGet (mAttr 26 (mVar 0)) (mVar 2)))) (.one 3) [3] (toT (mBi (oIs true) (mVar 3) (mC (.non)))) (mVar 3)))
def b_Things_sifted (φ φm : FT) : MSt := mSeq (mAsg (gNm 2) (mDc (itAny (mVar 1)) (.one 3) [3] (mYes) (mVar 3) (mAttr 20 (mBi oDGet (mAttr 26 (mVar 0)) (mVar 3))))) (mRet (mCallK 3 0 3 (fun a _ => a) φ.f_sift (mCons (mVar 1) (mCons (mVar 2) (mCons (mMethK 2 0 2 0 (fun a _ => a) φ.f_Things_targets_of (mVar 0) (mCons (mVar 1) (mNil)) (mNil)) (mNil)))) (mNil)))
def b_Dying_init (φ φm : FT) : MSt := mSeq (mExpr (mCallK 1 2 3 (fun a b => a ++ b) φ.f_Things_init (mCons (mVar 0) (mNil)) (mCons (mVar 1) (mCons (mVar 2) (mNil))))) (mSeq (mSetA 33 (mVar 0) (mVar 3)) (mSeq (mSetA 34 (mVar 0) (mC (.int (0)))) (mSetA 35 (mVar 0) (mFn oLstN (mNil)))))
def b_Dying_hold (φ φm : FT) : MSt := mAugA 20 (fun i j => i + j) (mBi oDGet (mAttr 26 (mVar 0)) (mVar 1)) (mC (.int (1)))
def b_Dying_let_go (φ φm : FT) : MSt := mSeq (mAsg (gNm 2) (mBi oDGet (mAttr 26 (mVar 0)) (mVar 1))) (mSeq (mAugA 20 (fun i j => i - j) (mVar 2) (mC (.int (1)))) (mIf (toT (mBi (oEq false) (mAttr 20 (mVar 2)) (mC (.int (0))))) (mExpr (mMethK 2 0 2 0 (fun a _ => a) φ.f_Dying_die (mVar 0) (mCons (mVar 1) (mNil)) (mNil))) (mNx)))
def b_Dying_bind (φ φm : FT) : MSt := mSeq (mAsg (gNm 3) (mGet2 (mAttr 27 (mVar 0)) (mVar 1) (mC (.non)))) (mSeq (mExpr (mMethK 2 0 2 0 (fun a _ => a) φ.f_Dying_hold (mVar 0) (mCons (mVar 2) (mNil)) (mNil))) (mSeq (mDPut (mAttr 27 (mVar 0)) (mVar 1) (mVar 2)) (mIf (toT (mBi (oIs true) (mVar 3) (mC (.non)))) (mExpr (mMethK 2 0 2 0 (fun a _ => a) φ.f_Dying_let_go (mVar 0) (mCons (mVar 3) (mNil)) (mNil))) (mNx))))
def b_Dying_unbind (φ φm : FT) : MSt := mExpr (mMethK 2 0 2 0 (fun a _ => a) φ.f_Dying_let_go (mVar 0) (mCons (mDPop (mAttr 27 (mVar 0)) (mVar 1)) (mNil)) (mNil))
def b_Dying_empty_slot (φ φm : FT) : MSt := mSeq (mAsg (gNm 3) (mBi oDGet (mAttr 26 (mVar 0)) (mVar 1))) (mSeq (mAsg (gTupM 2 (gAnd (gNm 4) (gAnd (gSubM (mAttr 17 (mVar 3)) (mVar 2)) (gNone)))) (mFn oTupN (mCons (mBi oIx (mAttr 17 (mVar 3)) (mVar 2)) (mCons (mC (.non)) (mNil))))) (mIf (toT (mBi (oIs true) (mVar 4) (mC (.non)))) (mExpr (mMethK 2 0 2 0 (fun a _ => a) φ.f_Dying_let_go (mVar 0) (mCons (mVar 4) (mNil)) (mNil))) (mNx)))
def b_Dying_die (φ φm : FT) : MSt := mSeq (mAsg (gNm 2) (mBi oDGet (mAttr 26 (mVar 0)) (mVar 1))) (mSeq (mExpr (mMethK 2 0 2 0 (fun a _ => a) φ.f_Things_untrack (mVar 0) (mCons (mVar 1) (mNil)) (mNil))) (mIf (toT (mBi (oIn true) (mAttr 16 (mVar 2)) (mFn oTupN (mCons (mC (.str "row")) (mCons (mC (.str "fixed")) (mNil)))))) (mExpr (mMethK 2 0 2 0 (fun a _ => a) φ.f_Dying_end (mVar 0) (mCons (mVar 1) (mNil)) (mNil))) (mIf (toT (mBi (oCmp (fun i j => decide (j ≤ i))) (mAttr 34 (mVar 0)) (mAttr 33 (mVar 0)))) (mExpr (mLm oApp (mAttr 35 (mVar 0)) (mCons (mVar 1) (mNil)))) (mSeq (mAugA 34 (fun i j => i + j) (mVar 0) (mC (.int (1)))) (mSeq (mFin (mExpr (mMethK 2 0 2 0 (fun a _ => a) φ.f_Dying_end (mVar 0) (mCons (mVar 1) (mNil)) (mNil))) (mAugA 34 (fun i j => i - j) (mVar 0) (mC (.int (1))))) (mExpr (mMethK 1 0 1 0 (fun a _ => a) φ.f_Dying_end_aside (mVar 0) (mNil) (mNil))))))))
def b_Dying_end_aside (φ φm : FT) : MSt := mIf (mAndT (toT (mBi (oEq false) (mAttr 34 (mVar 0)) (mC (.int (0))))) (toT (mBi (oEq true) (mAttr 35 (mVar 0)) (mFn oLstN (mNil))))) (mSeq (mAugA 34 (fun i j => i + j) (mVar 0) (mC (.int (1)))) (mFin (mWhile (toT (mBi (oEq true) (mAttr 35 (mVar 0)) (mFn oLstN (mNil)))) (mExpr (mMethK 2 0 2 0 (fun a _ => a) φ.f_Dying_die (mVar 0) (mCons (mLm0 (fun v M => oPop v [] M) (mAttr 35 (mVar 0))) (mNil)) (mNil)))) (mAugA 34 (fun i j => i - j) (mVar 0) (mC (.int (1)))))) (mNx)
def b_Dying_end (φ φm : FT) : MSt := mSeq (mAsg (gNm 2) (mBi oDGet (mAttr 26 (mVar 0)) (mVar 1))) (mSeq (mIf (mAndT (toT (mBi (oEq true) (mAttr 18 (mVar 2)) (mFn oTupN (mNil)))) (mAndT (toT (mBi (oEq true) (mAttr 16 (mVar 2)) (mC (.str "weak")))) (mNotT (toT (mAttr 23 (mVar 2)))))) (mSeq (mExpr (mMethK 2 0 2 0 (fun a _ => a) φ.f_Dying_hold (mVar 0) (mCons (mVar 1) (mNil)) (mNil))) (mSeq (mIf (toT (mBi (oEq true) (mAttr 16 (mVar 2)) (mC (.str "leaf")))) (mExpr (mMethK 2 0 3 0 (fun a _ => a ++ [.int (0)]) φ.f_Things_track (mVar 0) (mCons (mVar 1) (mNil)) (mNil))) (mNx)) (mSeq (mExpr (mMethK 2 0 2 0 (fun a _ => a) φ.f_Dying_ask_last (mVar 0) (mCons (mVar 1) (mNil)) (mNil))) (mSeq (mAugA 20 (fun i j => i - j) (mVar 2) (mC (.int (1)))) (mSeq (mIf (toT (mBi (oCmp (fun i j => decide (j < i))) (mAttr 20 (mVar 2)) (mC (.int (0))))) (mRet (mC (.non))) (mNx)) (mExpr (mMethK 2 0 2 0 (fun a _ => a) φ.f_Things_untrack (mVar 0) (mCons (mVar 1) (mNil)) (mNil)))))))) (mNx)) (mSeq (mExpr (mMethK 2 0 2 0 (fun a _ => a) φ.f_Dying_forget_weakly (mVar 0) (mCons (mVar 1) (mNil)) (mNil))) (mSeq (mFor (itRev1 (mFn oLen (mCons (mAttr 17 (mVar 2)) (mNil)))) (gNm 3) (mExpr (mMethK 3 0 3 0 (fun a _ => a) φ.f_Dying_empty_slot (mVar 0) (mCons (mVar 1) (mCons (mVar 3) (mNil))) (mNil)))) (mSeq (mIf (toT (mBi (oIs true) (mAttr 21 (mVar 2)) (mC (.non)))) (mExpr (mLm oRem (mAttr 22 (mBi oDGet (mAttr 26 (mVar 0)) (mAttr 21 (mVar 2)))) (mCons (mVar 1) (mNil)))) (mNx)) (mSeq (mExpr (mMethK 2 0 2 0 (fun a _ => a) φ.f_Dying_gone (mVar 0) (mCons (mVar 1) (mNil)) (mNil))) (mRet (mC (.non))))))))
def b_Dying_gone (φ φm : FT) : MSt := mSeq (mAsg (gNm 2) (mDPop (mAttr 26 (mVar 0)) (mVar 1))) (mSeq (mExpr (mMethK 2 0 2 2 (fun a _ => a) φ.f_Blocks_give (mAttr 25 (mVar 0)) (mCons (mAttr 19 (mVar 2)) (mNil)) (mNil))) (mSeq (mIf (toT (mBi (oEq true) (mAttr 16 (mVar 2)) (mC (.str "leaf")))) (mAsg (gSubM (mAttr 32 (mVar 0)) (mC (.int (0)))) (mFn oMax (mCons (mBi (oInt fun i j => i - j) (mBi oIx (mAttr 32 (mVar 0)) (mC (.int (0)))) (mC (.int (1)))) (mCons (mC (.int (0))) (mNil))))) (mNx)) (mSeq (mAugA 31 (fun i j => i + j) (mVar 0) (mC (.int (1)))) (mExpr (mLm oApp (mAttr 29 (mVar 0)) (mCons (mFn oTupN (mCons (mC (.str "free")) (mCons (mVar 1) (mNil)))) (mNil)))))))
def b_Dying_ask_last (φ φm : FT) : MSt := mSeq (mSetA 23 (mBi oDGet (mAttr 26 (mVar 0)) (mVar 1)) (mC (.bl true))) (mSeq (mExpr (mLm oApp (mAttr 29 (mVar 0)) (mCons (mFn oTupN (mCons (mC (.str "last")) (mCons (mVar 1) (mNil)))) (mNil)))) (mExpr (mMethK 2 0 2 0 (fun a _ => a) φ.f_Dying_do_steps (mVar 0) (mCons (mVar 1) (mNil)) (mNil))))
def b_Dying_do_steps (φ φm : FT) : MSt := mBad
def b_Dying_do_step (φ φm : FT) : MSt := mSeq (mAsg (gStarM (gAnd (gNm 3) (gAnd (gNm 4) (gNone)))) (mVar 2)) (mSeq (mIf (toT (mBi (oEq false) (mVar 3) (mC (.str "fail")))) (mBad) (mNx)) (mIf (toT (mBi (oEq false) (mVar 3) (mC (.str "collect")))) (mExpr (mMethK 1 0 1 0 (fun a _ => a) φ.f_Collecting_collect_within (mVar 0) (mNil) (mNil))) (mIf (toT (mBi (oEq false) (mVar 3) (mC (.str "save")))) (mExpr (mMethK 3 0 3 0 (fun a _ => a) φ.f_Dying_bind (mVar 0) (mCons (mBi oIx (mVar 4) (mC (.int (0)))) (mCons (mVar 1) (mNil))) (mNil))) (mIf (toT (mBi (oEq false) (mVar 3) (mC (.str "forget")))) (mIf (toT (mBi (oDIn false) (mBi oIx (mVar 4) (mC (.int (0)))) (mAttr 27 (mVar 0)))) (mExpr (mMethK 2 0 2 0 (fun a _ => a) φ.f_Dying_unbind (mVar 0) (mCons (mBi oIx (mVar 4) (mC (.int (0)))) (mNil)) (mNil))) (mNx)) (mIf (mAndT (toT (mBi (oEq false) (mAttr 16 (mBi oDGet (mAttr 26 (mVar 0)) (mVar 1))) (mC (.str "row")))) (toT (mBi (oCmp (fun i j => decide (i < j))) (mBi oIx (mVar 4) (mC (.int (0)))) (mFn oLen (mCons (mAttr 17 (mBi oDGet (mAttr 26 (mVar 0)) (mVar 1))) (mNil)))))) (mExpr (mMethK 3 0 3 0 (fun a _ => a) φ.f_Dying_empty_slot (mVar 0) (mCons (mVar 1) (mCons (mBi oIx (mVar 4) (mC (.int (0)))) (mNil))) (mNil))) (mNx))))))
def b_Dying_unwatch (φ φm : FT) : MSt := mSeq (mAsg (gNm 2) (mBi oDGet (mAttr 26 (mVar 0)) (mVar 1))) (mSeq (mAsg (gTupM 2 (gAnd (gNm 3) (gAnd (gAttM 22 (mVar 2)) (gNone)))) (mFn oTupN (mCons (mAttr 22 (mVar 2)) (mCons (mFn oLstN (mNil)) (mNil))))) (mSeq (mFor (itAny (mVar 3)) (gNm 4) (mSetA 21 (mBi oDGet (mAttr 26 (mVar 0)) (mVar 4)) (mC (.non)))) (mRet (mLc (itAny (mVar 3)) (.one 4) [4] (toT (mBi (oEq true) (mAttr 18 (mBi oDGet (mAttr 26 (mVar 0)) (mVar 4))) (mFn oTupN (mNil)))) (mVar 4)))))
def b_Dying_call (φ φm : FT) : MSt := mSeq (mExpr (mLm oApp (mAttr 29 (mVar 0)) (mCons (mFn oTupN (mCons (mC (.str "call")) (mCons (mVar 1) (mNil)))) (mNil)))) (mExpr (mMethK 2 0 2 0 (fun a _ => a) φ.f_Dying_do_steps (mVar 0) (mCons (mVar 1) (mNil)) (mNil)))
def b_Dying_call_all (φ φm : FT) : MSt := mSeq (mFor (itAny (mVar 1)) (gNm 2) (mExpr (mMethK 2 0 2 0 (fun a _ => a) φ.f_Dying_hold (mVar 0) (mCons (mVar 2) (mNil)) (mNil)))) (mFor (itAny (mVar 1)) (gNm 2) (mSeq (mExpr (mMethK 2 0 2 0 (fun a _ => a) φ.f_Dying_call (mVar 0) (mCons (mVar 2) (mNil)) (mNil))) (mExpr (mMethK 2 0 2 0 (fun a _ => a) φ.f_Dying_let_go (mVar 0) (mCons (mVar 2) (mNil)) (mNil)))))
def b_Dying_forget_weakly (φ φm : FT) : MSt := mExpr (mMethK 2 0 2 0 (fun a _ => a) φ.f_Dying_call_all (mVar 0) (mCons (mLc (itAny (mMethK 2 0 2 0 (fun a _ => a) φ.f_Dying_unwatch (mVar 0) (mCons (mVar 1) (mNil)) (mNil))) (.one 2) [2] (toT (mBi (oCmp (fun i j => decide (j < i))) (mAttr 20 (mBi oDGet (mAttr 26 (mVar 0)) (mVar 2))) (mC (.int (0))))) (mVar 2)) (mNil)) (mNil))
def b_Collecting_init (φ φm : FT) : MSt := mSeq (mExpr (mCallK 1 3 4 (fun a b => a ++ b) φ.f_Dying_init (mCons (mVar 0) (mNil)) (mCons (mVar 1) (mCons (mVar 2) (mCons (mVar 3) (mNil)))))) (mSeq (mSetA 36 (mVar 0) (mFn oList (mCons (mC (.ref 3)) (mNil)))) (mSeq (mSetA 37 (mVar 0) (mC (.bl true))) (mSeq (mSetA 38 (mVar 0) (mC (.bl false))) (mSeq (mAsg2 (gAttM 39 (mVar 0)) (gAttM 40 (mVar 0)) (mC (.int (0)))) (mSeq (mSetA 41 (mVar 0) (mFn oLstN (mCons (mC (.int (0))) (mCons (mC (.int (0))) (mCons (mC (.int (0))) (mNil)))))) (mSetA 42 (mVar 0) (mFn oLstN (mCons (mC (.int (0))) (mCons (mC (.int (0))) (mCons (mC (.int (0))) (mNil)))))))))))
def b_Collecting_collect_within (φ φm : FT) : MSt := mRet (mMethK 2 0 2 0 (fun a _ => a) φ.f_Collecting_collect_at (mVar 0) (mCons (mC (.int (2))) (mNil)) (mNil))
def b_Collecting_collect_at (φ φm : FT) : MSt := mSeq (mIf (toT (mAttr 38 (mVar 0))) (mRet (mC (.int (0)))) (mNx)) (mSeq (mSetA 38 (mVar 0) (mC (.bl true))) (mSeq (mAsg (gNm 2) (mC (.int (0)))) (mSeq (mFin (mAsg (gNm 2) (mMethK 2 0 2 0 (fun a _ => a) φ.f_Collecting_tour (mVar 0) (mCons (mVar 1) (mNil)) (mNil))) (mSetA 38 (mVar 0) (mC (.bl false)))) (mRet (mVar 2)))))
def b_Collecting_tour (φ φm : FT) : MSt := mSeq (mSetA 32 (mVar 0) (mLc (itEnum (mAttr 32 (mVar 0))) (.tup [2, 3]) [2, 3] (mYes) (mIfE (toT (mBi (oCmp (fun i j => decide (i ≤ j))) (mVar 2) (mVar 1))) (mC (.int (0))) (mBi oAdd (mVar 3) (mFn oInt1 (mCons (mBi (oEq false) (mVar 2) (mBi oAdd (mVar 1) (mC (.int (1))))) (mNil))))))) (mSeq (mAsg (gNm 4) (mBi oAdd (mBi oIx (mAttr 28 (mVar 0)) (mVar 1)) (mLc2 (itR1 (mVar 1)) (.one 2) [2, 5] (mYes) (itAny (mBi oIx (mAttr 28 (mVar 0)) (mVar 2))) (.one 5) [5] (mYes) (mVar 5)))) (mSeq (mAsg (gTupM 2 (gAnd (gNm 6) (gAnd (gNm 7) (gNone)))) (mMethK 2 0 2 0 (fun a _ => a) φ.f_Things_sifted (mVar 0) (mCons (mVar 4) (mNil)) (mNil))) (mSeq (mAsg (gNm 8) (mFn oMin (mCons (mBi oAdd (mVar 1) (mC (.int (1)))) (mCons (mC (.int (2))) (mNil))))) (mSeq (mExpr (mMethK 3 0 3 0 (fun a _ => a) φ.f_Things_shift (mVar 0) (mCons (mVar 7) (mCons (mC (.int (4))) (mNil))) (mNil))) (mSeq (mExpr (mMethK 4 0 4 0 (fun a _ => a) φ.f_Collecting_keep (mVar 0) (mCons (mVar 6) (mCons (mVar 1) (mCons (mVar 8) (mNil)))) (mNil))) (mSeq (mExpr (mMethK 2 0 2 0 (fun a _ => a) φ.f_Collecting_forget_lost (mVar 0) (mCons (mVar 7) (mNil)) (mNil))) (mSeq (mExpr (mMethK 1 0 1 0 (fun a _ => a) φ.f_Collecting_ask_lost (mVar 0) (mNil) (mNil))) (mSeq (mAsg (gTupM 2 (gAnd (gNm 9) (gAnd (gNm 10) (gNone)))) (mMethK 2 0 2 0 (fun a _ => a) φ.f_Things_sifted (mVar 0) (mCons (mFn oList (mCons (mBi oIx (mAttr 28 (mVar 0)) (mC (.int (4)))) (mNil))) (mNil)) (mNil))) (mSeq (mExpr (mMethK 3 0 3 0 (fun a _ => a) φ.f_Things_shift (mVar 0) (mCons (mVar 9) (mCons (mVar 8) (mNil))) (mNil))) (mSeq (mExpr (mMethK 2 0 2 0 (fun a _ => a) φ.f_Collecting_break_up (mVar 0) (mCons (mVar 8) (mNil)) (mNil))) (mSeq (mAugL (fun i j => i + j) (mAttr 41 (mVar 0)) (mVar 1) (mC (.int (1)))) (mSeq (mAugL (fun i j => i + j) (mAttr 42 (mVar 0)) (mVar 1) (mFn oLen (mCons (mVar 10) (mNil)))) (mRet (mFn oLen (mCons (mVar 10) (mNil))))))))))))))))
def b_Collecting_may_track (φ φm : FT) : MSt := mSeq (mAsg (gNm 2) (mBi oDGet (mAttr 26 (mVar 0)) (mVar 1))) (mRet (mOrV (mBi (oIn false) (mAttr 16 (mVar 2)) (mFn oTupN (mCons (mC (.str "row")) (mCons (mC (.str "weak")) (mNil))))) (mAndV (mBi (oEq false) (mAttr 16 (mVar 2)) (mC (.str "fixed"))) (mBi (oIs true) (mAttr 24 (mVar 2)) (mC (.non))))))
def b_Collecting_keep (φ φm : FT) : MSt := mSeq (mExpr (mMethK 3 0 3 0 (fun a _ => a) φ.f_Things_shift (mVar 0) (mCons (mVar 1) (mCons (mVar 3) (mNil))) (mNil))) (mSeq (mFor (itAny (mVar 1)) (gNm 4) (mSeq (mAsg (gNm 5) (mBi oDGet (mAttr 26 (mVar 0)) (mVar 4))) (mIf (mAndT (toT (mBi (oEq false) (mAttr 16 (mVar 5)) (mC (.str "fixed")))) (mNotT (toT (mFn oAny (mCons (mLc (itAny (mAttr 17 (mVar 5))) (.one 6) [6] (toT (mBi (oIs true) (mVar 6) (mC (.non)))) (mMethK 2 0 2 0 (fun a _ => a) φ.f_Collecting_may_track (mVar 0) (mCons (mVar 6) (mNil)) (mNil))) (mNil)))))) (mExpr (mMethK 2 0 2 0 (fun a _ => a) φ.f_Things_untrack (mVar 0) (mCons (mVar 4) (mNil)) (mNil))) (mNx)))) (mIf (toT (mBi (oEq false) (mVar 2) (mC (.int (2))))) (mSeq (mSetA 39 (mVar 0) (mC (.int (0)))) (mSetA 40 (mVar 0) (mFn oLen (mCons (mBi oIx (mAttr 28 (mVar 0)) (mC (.int (2)))) (mNil))))) (mIf (toT (mBi (oEq false) (mVar 3) (mC (.int (2))))) (mAugA 39 (fun i j => i + j) (mVar 0) (mFn oLen (mCons (mLc (itAny (mVar 1)) (.one 4) [4] (toT (mBi (oIs true) (mAttr 24 (mBi oDGet (mAttr 26 (mVar 0)) (mVar 4))) (mC (.non)))) (mVar 4)) (mNil)))) (mNx))))
def b_Collecting_forget_lost (φ φm : FT) : MSt := mSeq (mFor (itAny (mVar 1)) (gNm 2) (mSeq (mAsg (gNm 3) (mAttr 21 (mBi oDGet (mAttr 26 (mVar 0)) (mVar 2)))) (mIf (toT (mBi (oIs true) (mVar 3) (mC (.non)))) (mSeq (mExpr (mLm oRem (mAttr 22 (mBi oDGet (mAttr 26 (mVar 0)) (mVar 3))) (mCons (mVar 2) (mNil)))) (mSetA 21 (mBi oDGet (mAttr 26 (mVar 0)) (mVar 2)) (mC (.non)))) (mNx)))) (mExpr (mMethK 2 0 2 0 (fun a _ => a) φ.f_Dying_call_all (mVar 0) (mCons (mLc2 (itAny (mVar 1)) (.one 2) [2, 4] (mYes) (itAny (mMethK 2 0 2 0 (fun a _ => a) φ.f_Dying_unwatch (mVar 0) (mCons (mVar 2) (mNil)) (mNil))) (.one 4) [4] (mYes) (mVar 4)) (mNil)) (mNil)))
def b_Collecting_ask_lost (φ φm : FT) : MSt := mFor (itAny (mFn oList (mCons (mBi oIx (mAttr 28 (mVar 0)) (mC (.int (4)))) (mNil)))) (gNm 1) (mIf (toT (mBi (oIn false) (mVar 1) (mBi oIx (mAttr 28 (mVar 0)) (mC (.int (4)))))) (mSeq (mAsg (gNm 2) (mBi oDGet (mAttr 26 (mVar 0)) (mVar 1))) (mIf (mAndT (toT (mBi (oEq true) (mAttr 18 (mVar 2)) (mFn oTupN (mNil)))) (mAndT (toT (mBi (oEq true) (mAttr 16 (mVar 2)) (mC (.str "weak")))) (mNotT (toT (mAttr 23 (mVar 2)))))) (mSeq (mExpr (mMethK 2 0 2 0 (fun a _ => a) φ.f_Dying_hold (mVar 0) (mCons (mVar 1) (mNil)) (mNil))) (mSeq (mExpr (mMethK 2 0 2 0 (fun a _ => a) φ.f_Dying_ask_last (mVar 0) (mCons (mVar 1) (mNil)) (mNil))) (mExpr (mMethK 2 0 2 0 (fun a _ => a) φ.f_Dying_let_go (mVar 0) (mCons (mVar 1) (mNil)) (mNil))))) (mNx))) (mNx))
def b_Collecting_break_up (φ φm : FT) : MSt := mWhile (toT (mBi (oEq true) (mBi oIx (mAttr 28 (mVar 0)) (mC (.int (4)))) (mFn oLstN (mNil)))) (mSeq (mAsg (gStarM (gAnd (gNm 3) (gAnd (gNm 5) (gNone)))) (mBi oIx (mAttr 28 (mVar 0)) (mC (.int (4))))) (mSeq (mExpr (mMethK 2 0 2 0 (fun a _ => a) φ.f_Dying_hold (mVar 0) (mCons (mVar 3) (mNil)) (mNil))) (mSeq (mAsg (gNm 2) (mBi oDGet (mAttr 26 (mVar 0)) (mVar 3))) (mSeq (mIf (toT (mBi (oEq false) (mAttr 16 (mVar 2)) (mC (.str "row")))) (mFor (itRev1 (mFn oLen (mCons (mAttr 17 (mVar 2)) (mNil)))) (gNm 4) (mExpr (mMethK 3 0 3 0 (fun a _ => a) φ.f_Dying_empty_slot (mVar 0) (mCons (mVar 3) (mCons (mVar 4) (mNil))) (mNil)))) (mNx)) (mSeq (mExpr (mMethK 2 0 2 0 (fun a _ => a) φ.f_Dying_let_go (mVar 0) (mCons (mVar 3) (mNil)) (mNil))) (mIf (toT (mBi (oEq false) (mSlice (mBi oIx (mAttr 28 (mVar 0)) (mC (.int (4)))) none (some (mC (.int (1))))) (mFn oLstN (mCons (mVar 3) (mNil))))) (mExpr (mMethK 3 0 3 0 (fun a _ => a) φ.f_Things_shift (mVar 0) (mCons (mFn oLstN (mCons (mVar 3) (mNil))) (mCons (mVar 1) (mNil))) (mNil))) (mNx)))))))
def b_Collecting_may_collect (φ φm : FT) : MSt := mIf (mAndT (toT (mAttr 37 (mVar 0))) (mAndT (mNotT (toT (mAttr 38 (mVar 0)))) (mAndT (toT (mBi (oCmp (fun i j => decide (j < i))) (mBi oIx (mAttr 36 (mVar 0)) (mC (.int (0)))) (mC (.int (0))))) (toT (mBi (oCmp (fun i j => decide (j < i))) (mBi oIx (mAttr 32 (mVar 0)) (mC (.int (0)))) (mBi oIx (mAttr 36 (mVar 0)) (mC (.int (0))))))))) (mSeq (mAsg (gNm 1) (mLc (itAny (mFn oTupN (mCons (mC (.int (0))) (mCons (mC (.int (1))) (mCons (mC (.int (2))) (mNil)))))) (.one 2) [2] (toT (mBi (oCmp (fun i j => decide (j < i))) (mBi oIx (mAttr 32 (mVar 0)) (mVar 2)) (mBi oIx (mAttr 36 (mVar 0)) (mVar 2)))) (mVar 2))) (mSeq (mIf (mAndT (toT (mBi (oEq false) (mBi oIx (mVar 1) (mUn oNeg (mC (.int (1))))) (mC (.int (2))))) (toT (mBi (oCmp (fun i j => decide (i < j))) (mAttr 39 (mVar 0)) (mBi (oIntIf cDiv fun i j => i / j) (mAttr 40 (mVar 0)) (mC (.int (4))))))) (mAsg (gNm 1) (mSlice (mVar 1) none (some (mUn oNeg (mC (.int (1))))))) (mNx)) (mIf (toT (mBi (oEq true) (mVar 1) (mFn oLstN (mNil)))) (mExpr (mMethK 2 0 2 0 (fun a _ => a) φ.f_Collecting_collect_at (mVar 0) (mCons (mBi oIx (mVar 1) (mUn oNeg (mC (.int (1))))) (mNil)) (mNil))) (mNx)))) (mNx)
def b_Collecting_count_new (φ φm : FT) : MSt := mIf (toT (mBi (oEq true) (mVar 1) (mC (.str "leaf")))) (mSeq (mAugL (fun i j => i + j) (mAttr 32 (mVar 0)) (mC (.int (0))) (mC (.int (1)))) (mExpr (mMethK 1 0 1 0 (fun a _ => a) φ.f_Collecting_may_collect (mVar 0) (mNil) (mNil)))) (mNx)
def b_is_step (φ φm : FT) : MSt := mSeq (mIf (mOrT (mNotT (toT (mIsi .tup (mVar 0)))) (mOrT (toT (mBi (oEq false) (mVar 0) (mFn oTupN (mNil)))) (mNotT (toT (mIsi .str (mBi oIx (mVar 0) (mC (.int (0))))))))) (mRet (mC (.bl false))) (mNx)) (mSeq (mAsg (gStarM (gAnd (gNm 2) (gAnd (gNm 3) (gNone)))) (mVar 0)) (mSeq (mIf (toT (mBi (oIn false) (mVar 2) (mFn oTupN (mCons (mC (.str "fail")) (mCons (mC (.str "collect")) (mNil)))))) (mRet (mBi (oEq false) (mVar 3) (mFn oLstN (mNil)))) (mNx)) (mSeq (mIf (toT (mBi (oIn false) (mVar 2) (mFn oTupN (mCons (mC (.str "save")) (mCons (mC (.str "forget")) (mNil)))))) (mRet (mAndV (mBi (oEq false) (mFn oLen (mCons (mVar 3) (mNil))) (mC (.int (1)))) (mAndV (mCallK 1 0 1 (fun a _ => a) φ.f_is_name (mCons (mBi oIx (mVar 3) (mC (.int (0)))) (mNil)) (mNil)) (mOrV (mBi (oEq false) (mVar 2) (mC (.str "forget"))) (mNotV (mVar 1)))))) (mNx)) (mRet (mAndV (mBi (oEq false) (mVar 2) (mC (.str "clear"))) (mAndV (mNotV (mVar 1)) (mAndV (mBi (oEq false) (mFn oLen (mCons (mVar 3) (mNil))) (mC (.int (1)))) (mCallK 3 0 3 (fun a _ => a) φ.f_is_number (mCons (mBi oIx (mVar 3) (mC (.int (0)))) (mCons (mC (.int (0))) (mCons (mBi (oInt fun i j => i - j) (mC (.int (8))) (mC (.int (1)))) (mNil)))) (mNil)))))))))
def b_are_steps (φ φm : FT) : MSt := mRet (mAndV (mIsi .tup (mVar 0)) (mAndV (mBi (oCmp (fun i j => decide (i ≤ j))) (mFn oLen (mCons (mVar 0) (mNil))) (mC (.int (3)))) (mFn oAll (mCons (mLc (itAny (mVar 0)) (.one 2) [2] (mYes) (mCallK 2 0 2 (fun a _ => a) φ.f_is_step (mCons (mVar 2) (mCons (mVar 1) (mNil))) (mNil))) (mNil)))))
def b_look_steps (φ φm : FT) : MSt := mIf (mNotT (toT (mCallK 2 0 2 (fun a _ => a) φ.f_are_steps (mCons (mVar 0) (mCons (mVar 1) (mNil))) (mNil)))) (mBad) (mNx)
def b_World_init (φ φm : FT) : MSt := mSeq (mIf (mNotT (toT (mCallK 1 0 1 (fun a _ => a) φ.f_is_pool_size (mCons (mVar 1) (mNil)) (mNil)))) (mBad) (mNx)) (mSeq (mExpr (mCallK 3 0 3 (fun a _ => a) φ.f_look_number (mCons (mVar 2) (mCons (mC (.int (1))) (mCons (mC (.int (64))) (mNil)))) (mNil))) (mSeq (mExpr (mCallK 3 0 3 (fun a _ => a) φ.f_look_number (mCons (mVar 3) (mCons (mC (.int (2))) (mCons (mC (.int (50))) (mNil)))) (mNil))) (mSeq (mExpr (mCallK 1 3 4 (fun a b => a ++ b) φ.f_Collecting_init (mCons (mVar 0) (mNil)) (mCons (mVar 1) (mCons (mVar 2) (mCons (mVar 3) (mNil)))))) (mSeq (mSetA 43 (mVar 0) (mFn oTupN (mCons (mVar 1) (mCons (mVar 2) (mCons (mVar 3) (mNil)))))) (mSetA 44 (mVar 0) (mFn oLstN (mNil)))))))
def b_World_len (φ φm : FT) : MSt := mRet (mFn oLenD (mCons (mAttr 26 (mVar 0)) (mNil)))
def b_World_look_name (φ φm : FT) : MSt := mIf (mNotT (toT (mCallK 1 0 1 (fun a _ => a) φ.f_is_name (mCons (mVar 1) (mNil)) (mNil)))) (mBad) (mNx)
def b_World_make (φ φm : FT) : MSt := mSeq (mExpr (mMethK 2 0 2 0 (fun a _ => a) φ.f_World_look_name (mVar 0) (mCons (mVar 1) (mNil)) (mNil))) (mSeq (mIf (mOrT (mNotT (toT (mIsi .str (mVar 2)))) (toT (mBi (oIn true) (mVar 2) (mC (.ref 2))))) (mBad) (mNx)) (mSeq (mIf (mOrT (mNotT (toT (mIsi .tup (mVar 3)))) (mOrT (toT (mBi (oCmp (fun i j => decide (j < i))) (mFn oLen (mCons (mVar 3) (mNil))) (mC (.int (8))))) (mAndT (toT (mBi (oEq false) (mVar 2) (mC (.str "leaf")))) (toT (mBi (oEq true) (mVar 3) (mFn oTupN (mNil))))))) (mBad) (mNx)) (mSeq (mFor (itAny (mVar 3)) (gNm 6) (mIf (toT (mBi (oIs true) (mVar 6) (mC (.non)))) (mExpr (mMethK 2 0 2 0 (fun a _ => a) φ.f_Things_look_bound (mVar 0) (mCons (mVar 6) (mNil)) (mNil))) (mNx))) (mSeq (mExpr (mCallK 2 0 2 (fun a _ => a) φ.f_look_steps (mCons (mVar 4) (mCons (mC (.bl false)) (mNil))) (mNil))) (mSeq (mIf (mOrT (mNotT (toT (mCallK 3 0 3 (fun a _ => a) φ.f_is_number (mCons (mVar 5) (mCons (mC (.int (0))) (mCons (mC (.int (2000))) (mNil)))) (mNil)))) (mAndT (toT (mBi (oEq true) (mVar 2) (mC (.str "leaf")))) (toT (mBi (oCmp (fun i j => decide (j < i))) (mVar 5) (mC (.int (0))))))) (mBad) (mNx)) (mSeq (mAsg (gNm 7) (mUn oTuple (mLc (itAny (mVar 3)) (.one 6) [6] (mYes) (mIfE (toT (mBi (oIs false) (mVar 6) (mC (.non)))) (mC (.non)) (mBi oDGet (mAttr 27 (mVar 0)) (mVar 6)))))) (mSeq (mAsg (gNm 8) (mLc (itAny (mVar 7)) (.one 6) [6] (toT (mBi (oIs true) (mVar 6) (mC (.non)))) (mVar 6))) (mSeq (mFor (itAny (mVar 8)) (gNm 6) (mExpr (mMethK 2 0 2 0 (fun a _ => a) φ.f_Dying_hold (mVar 0) (mCons (mVar 6) (mNil)) (mNil)))) (mSeq (mExpr (mMethK 2 0 2 0 (fun a _ => a) φ.f_Collecting_count_new (mVar 0) (mCons (mVar 2) (mNil)) (mNil))) (mSeq (mAsg (gNm 9) (mMethK 5 0 5 0 (fun a _ => a) φ.f_Things_new_thing (mVar 0) (mCons (mVar 2) (mCons (mVar 7) (mCons (mVar 4) (mCons (mVar 5) (mNil))))) (mNil))) (mSeq (mExpr (mMethK 3 0 3 0 (fun a _ => a) φ.f_Dying_bind (mVar 0) (mCons (mVar 1) (mCons (mVar 9) (mNil))) (mNil))) (mSeq (mFor (itAny (mVar 8)) (gNm 6) (mExpr (mMethK 2 0 2 0 (fun a _ => a) φ.f_Dying_let_go (mVar 0) (mCons (mVar 6) (mNil)) (mNil)))) (mSeq (mExpr (mLm oApp (mAttr 44 (mVar 0)) (mCons (mFn oTupN (mCons (mC (.str "make")) (mCons (mVar 1) (mCons (mVar 2) (mCons (mVar 3) (mCons (mVar 4) (mCons (mVar 5) (mNil)))))))) (mNil)))) (mRet (mVar 9)))))))))))))))
def b_World_forget (φ φm : FT) : MSt := mSeq (mExpr (mMethK 2 0 2 0 (fun a _ => a) φ.f_Things_look_bound (mVar 0) (mCons (mVar 1) (mNil)) (mNil))) (mSeq (mAsg (gNm 2) (mAttr 31 (mVar 0))) (mSeq (mExpr (mMethK 2 0 2 0 (fun a _ => a) φ.f_Dying_unbind (mVar 0) (mCons (mVar 1) (mNil)) (mNil))) (mSeq (mExpr (mLm oApp (mAttr 44 (mVar 0)) (mCons (mFn oTupN (mCons (mC (.str "forget")) (mCons (mVar 1) (mNil)))) (mNil)))) (mRet (mBi (oInt fun i j => i - j) (mAttr 31 (mVar 0)) (mVar 2))))))
def b_World_look_row (φ φm : FT) : MSt := mSeq (mAsg (gNm 2) (mMethK 2 0 2 0 (fun a _ => a) φ.f_Things_look_bound (mVar 0) (mCons (mVar 1) (mNil)) (mNil))) (mSeq (mIf (toT (mBi (oEq true) (mAttr 16 (mBi oDGet (mAttr 26 (mVar 0)) (mVar 2))) (mC (.str "row")))) (mBad) (mNx)) (mRet (mVar 2)))
def b_World_look_slot (φ φm : FT) : MSt := mSeq (mAsg (gNm 3) (mFn oLen (mCons (mAttr 17 (mBi oDGet (mAttr 26 (mVar 0)) (mVar 1))) (mNil)))) (mIf (mNotT (toT (mCallK 3 0 3 (fun a _ => a) φ.f_is_number (mCons (mVar 2) (mCons (mC (.int (0))) (mCons (mBi (oInt fun i j => i - j) (mVar 3) (mC (.int (1)))) (mNil)))) (mNil)))) (mBad) (mNx))
def b_World_put (φ φm : FT) : MSt := mSeq (mAsg (gNm 4) (mMethK 2 0 2 0 (fun a _ => a) φ.f_World_look_row (mVar 0) (mCons (mVar 1) (mNil)) (mNil))) (mSeq (mExpr (mMethK 3 0 3 0 (fun a _ => a) φ.f_World_look_slot (mVar 0) (mCons (mVar 4) (mCons (mVar 2) (mNil))) (mNil))) (mSeq (mAsg (gNm 5) (mIfE (toT (mBi (oIs false) (mVar 3) (mC (.non)))) (mC (.non)) (mMethK 2 0 2 0 (fun a _ => a) φ.f_Things_look_bound (mVar 0) (mCons (mVar 3) (mNil)) (mNil)))) (mSeq (mPar 6 7 (mCons (mBi oIx (mAttr 17 (mBi oDGet (mAttr 26 (mVar 0)) (mVar 4))) (mVar 2)) (mCons (mAttr 31 (mVar 0)) (mNil)))) (mSeq (mIf (toT (mBi (oIs true) (mVar 5) (mC (.non)))) (mExpr (mMethK 2 0 2 0 (fun a _ => a) φ.f_Dying_hold (mVar 0) (mCons (mVar 5) (mNil)) (mNil))) (mNx)) (mSeq (mAsg (gSubM (mAttr 17 (mBi oDGet (mAttr 26 (mVar 0)) (mVar 4))) (mVar 2)) (mVar 5)) (mSeq (mIf (toT (mBi (oIs true) (mVar 6) (mC (.non)))) (mExpr (mMethK 2 0 2 0 (fun a _ => a) φ.f_Dying_let_go (mVar 0) (mCons (mVar 6) (mNil)) (mNil))) (mNx)) (mSeq (mExpr (mLm oApp (mAttr 44 (mVar 0)) (mCons (mFn oTupN (mCons (mC (.str "put")) (mCons (mVar 1) (mCons (mVar 2) (mCons (mVar 3) (mNil)))))) (mNil)))) (mRet (mBi (oInt fun i j => i - j) (mAttr 31 (mVar 0)) (mVar 7))))))))))
def b_World_collect (φ φm : FT) : MSt := mSeq (mExpr (mCallK 3 0 3 (fun a _ => a) φ.f_look_number (mCons (mVar 1) (mCons (mC (.int (0))) (mCons (mC (.int (2))) (mNil)))) (mNil))) (mSeq (mAsg (gNm 2) (mMethK 2 0 2 0 (fun a _ => a) φ.f_Collecting_collect_at (mVar 0) (mCons (mVar 1) (mNil)) (mNil))) (mSeq (mExpr (mLm oApp (mAttr 44 (mVar 0)) (mCons (mFn oTupN (mCons (mC (.str "collect")) (mCons (mVar 1) (mNil)))) (mNil)))) (mRet (mVar 2))))
def b_called (φ φm : FT) : MSt := mRet (mFn oSortS (mCons (mLockE (mAttr 27 (mVar 0)) (mLc (itAny (mAttr 27 (mVar 0))) (.one 1) [1] (mYes) (mFn oTupN (mCons (mVar 1) (mCons (mBi oDGet (mAttr 27 (mVar 0)) (mVar 1)) (mNil)))))) (mNil)))
def b_past (φ φm : FT) : MSt := mRet (mFn oList (mCons (mAttr 29 (mVar 0)) (mNil)))
def b_law_fell (φ φm : FT) : MSt := mSeq (mFor (itAny (mFn oTupN (mCons (mC (.int (1))) (mCons (mC (.int (0))) (mNil))))) (gNm 2) (mSeq (mAsg (gNm 3) (mBi oIx (mBi oDGet (mBi oDGet (mVar 0) (mC (.str "slots"))) (mVar 1)) (mVar 2))) (mSeq (mAsg (gSubM (mBi oDGet (mBi oDGet (mVar 0) (mC (.str "slots"))) (mVar 1)) (mVar 2)) (mC (.non))) (mIf (toT (mBi (oIs true) (mVar 3) (mC (.non)))) (mExpr (mCallK 2 0 2 (fun a _ => a) φ.f_law_let (mCons (mVar 0) (mCons (mVar 3) (mNil))) (mNil))) (mNx))))) (mExpr (mLm oApp (mBi oDGet (mVar 0) (mC (.str "events"))) (mCons (mFn oTupN (mCons (mC (.str "free")) (mCons (mVar 1) (mNil)))) (mNil))))
def b_law_let (φ φm : FT) : MSt := mSeq (mDPut (mBi oDGet (mVar 0) (mC (.str "counts"))) (mVar 1) (mBi (oInt fun i j => i - j) (mBi oDGet (mBi oDGet (mVar 0) (mC (.str "counts"))) (mVar 1)) (mC (.int (1))))) (mIf (toT (mBi (oEq false) (mBi oDGet (mBi oDGet (mVar 0) (mC (.str "counts"))) (mVar 1)) (mC (.int (0))))) (mExpr (mCallK 2 0 2 (fun a _ => a) φ.f_law_fell (mCons (mVar 0) (mCons (mVar 1) (mNil))) (mNil))) (mNx))
def b_law (φ φm : FT) : MSt := mSeq (mPar 1 2 (mCons (mBi oAdd (mC (.int (2))) (mCallK 3 0 3 (fun a _ => a) φ.f_law_pick (mCons (mVar 0) (mCons (mC (.int (0))) (mCons (mC (.int (5))) (mNil)))) (mNil))) (mCons (mMakeK 1 0 4 0 (fun a _ => a ++ [.int (4096), .int (16), .int (50)]) φm.f_World_init (mNil) (mNil)) (mNil)))) (mSeq (mAsg (gNm 3) (mLc (itR1 (mVar 1)) (.one 4) [4] (mYes) (mBi oIx (mFn oLstN (mCons (mC (.str "row")) (mCons (mC (.str "fixed")) (mNil)))) (mCallK 3 0 3 (fun a _ => a) φ.f_law_pick (mCons (mVar 0) (mCons (mBi oAdd (mC (.int (1))) (mVar 4)) (mCons (mC (.int (2))) (mNil)))) (mNil))))) (mSeq (mAsg (gSubM (mVar 3) (mC (.int (0)))) (mC (.str "row"))) (mSeq (mAsg (gNm 5) (mDisp [(mC (.str "slots"), mDK), (mC (.str "counts"), mDK), (mC (.str "events"), mFn oLstN (mNil))])) (mSeq (mFor (itR1 (mVar 1)) (gNm 4) (mSeq (mExpr (mMethK 3 0 6 0 (fun a _ => a ++ [.ref 0, .ref 1, .int (0)]) φ.f_World_make (mVar 2) (mCons (mBi oAdd (mC (.str "l")) (mBi oIx (mC (.str "abcdef")) (mVar 4))) (mCons (mC (.str "leaf")) (mNil))) (mNil))) (mSeq (mAsg (gNm 6) (mIfE (toT (mBi (oCmp (fun i j => decide (j < i))) (mVar 4) (mC (.int (0))))) (mBi oAdd (mC (.str "r")) (mBi oIx (mC (.str "abcdef")) (mBi (oInt fun i j => i - j) (mVar 4) (mC (.int (1)))))) (mC (.non)))) (mSeq (mAsg (gNm 7) (mMethK 3 1 6 0 (fun a b => a ++ b ++ [.ref 1, .int (0)]) φ.f_World_make (mVar 2) (mCons (mBi oAdd (mC (.str "r")) (mBi oIx (mC (.str "abcdef")) (mVar 4))) (mCons (mBi oIx (mVar 3) (mVar 4)) (mNil))) (mCons (mFn oTupN (mCons (mBi oAdd (mC (.str "l")) (mBi oIx (mC (.str "abcdef")) (mVar 4))) (mCons (mVar 6) (mNil)))) (mNil)))) (mSeq (mDPut (mBi oDGet (mVar 5) (mC (.str "slots"))) (mVar 7) (mFn oLstN (mCons (mBi (oInt fun i j => i - j) (mVar 7) (mC (.int (1)))) (mCons (mIfE (toT (mBi (oCmp (fun i j => decide (j < i))) (mVar 4) (mC (.int (0))))) (mBi (oInt fun i j => i - j) (mVar 7) (mC (.int (2)))) (mC (.non))) (mNil))))) (mSeq (mDPut (mBi oDGet (mVar 5) (mC (.str "slots"))) (mBi (oInt fun i j => i - j) (mVar 7) (mC (.int (1)))) (mFn oLstN (mCons (mC (.non)) (mCons (mC (.non)) (mNil))))) (mAsg (gTupM 2 (gAnd (gDPut (mBi oDGet (mVar 5) (mC (.str "counts"))) (mVar 7)) (gAnd (gDPut (mBi oDGet (mVar 5) (mC (.str "counts"))) (mBi (oInt fun i j => i - j) (mVar 7) (mC (.int (1))))) (gNone)))) (mFn oTupN (mCons (mC (.int (1))) (mCons (mC (.int (1))) (mNil))))))))))) (mSeq (mExpr (mMethK 4 0 4 0 (fun a _ => a) φ.f_World_put (mVar 2) (mCons (mC (.str "ra")) (mCons (mC (.int (1))) (mCons (mBi oAdd (mC (.str "r")) (mBi oIx (mC (.str "abcdef")) (mBi (oInt fun i j => i - j) (mVar 1) (mC (.int (1)))))) (mNil)))) (mNil))) (mSeq (mAsg (gSubM (mBi oDGet (mBi oDGet (mVar 5) (mC (.str "slots"))) (mC (.int (1)))) (mC (.int (1)))) (mBi (oInt fun i j => i - j) (mBi (oIntIf cMul fun i j => i * j) (mC (.int (2))) (mVar 1)) (mC (.int (1))))) (mSeq (mFor (itAny (mCallK 1 0 1 (fun a _ => a) φ.f_called (mCons (mVar 2) (mNil)) (mNil))) (gTupM 2 (gAnd (gNm 8) (gAnd (gNm 7) (gNone)))) (mIf (toT (mBi (oEq true) (mMethK 2 0 2 0 (fun a _ => a) φ.f_World_forget (mVar 2) (mCons (mVar 8) (mNil)) (mNil)) (mC (.int (0))))) (mRet (mC (.bl false))) (mNx))) (mSeq (mFor (itR1 (mVar 1)) (gNm 4) (mSeq (mAsg (gNm 7) (mBi oAdd (mBi (oIntIf cMul fun i j => i * j) (mC (.int (2))) (mVar 4)) (mC (.int (1))))) (mIf (mAndT (toT (mBi (oIn true) (mFn oTupN (mCons (mC (.str "free")) (mCons (mVar 7) (mNil)))) (mBi oDGet (mVar 5) (mC (.str "events"))))) (toT (mBi (oEq false) (mBi oIx (mVar 3) (mVar 4)) (mC (.str "row"))))) (mSeq (mDPut (mBi oDGet (mVar 5) (mC (.str "counts"))) (mVar 7) (mBi oAdd (mBi oDGet (mBi oDGet (mVar 5) (mC (.str "counts"))) (mVar 7)) (mC (.int (1))))) (mSeq (mFor (itAny (mFn oTupN (mCons (mC (.int (1))) (mCons (mC (.int (0))) (mNil))))) (gNm 9) (mSeq (mAsg (gNm 10) (mBi oIx (mBi oDGet (mBi oDGet (mVar 5) (mC (.str "slots"))) (mVar 7)) (mVar 9))) (mSeq (mAsg (gSubM (mBi oDGet (mBi oDGet (mVar 5) (mC (.str "slots"))) (mVar 7)) (mVar 9)) (mC (.non))) (mIf (toT (mBi (oIs true) (mVar 10) (mC (.non)))) (mExpr (mCallK 2 0 2 (fun a _ => a) φ.f_law_let (mCons (mVar 5) (mCons (mVar 10) (mNil))) (mNil))) (mNx))))) (mExpr (mCallK 2 0 2 (fun a _ => a) φ.f_law_let (mCons (mVar 5) (mCons (mVar 7) (mNil))) (mNil))))) (mNx)))) (mSeq (mIf (mOrT (toT (mBi (oEq true) (mMethK 1 0 2 0 (fun a _ => a ++ [.int (2)]) φ.f_World_collect (mVar 2) (mNil) (mNil)) (mVar 1))) (toT (mBi (oEq true) (mCallK 1 0 1 (fun a _ => a) φ.f_past (mCons (mVar 2) (mNil)) (mNil)) (mBi oDGet (mVar 5) (mC (.str "events")))))) (mRet (mC (.bl false))) (mNx)) (mRet (mAndV (mBi (oEq false) (mLenW 0 1 φm.f_World_len (mVar 2)) (mC (.int (0)))) (mBi (oEq false) (mFn oLen (mCons (mBi oDGet (mVar 5) (mC (.str "events"))) (mNil))) (mBi (oIntIf cMul fun i j => i * j) (mC (.int (2))) (mVar 1))))))))))))))
def FT.step (pk : Int → Int → Int) (φ φm : FT) : FT where
  f_Pool_init := runB 3 (b_Pool_init φ φm)
  f_Pool_is_full := runB 1 (b_Pool_is_full φ φm)
  f_Pool_draw := runB 1 (b_Pool_draw φ φm)
  f_Pool_back := runB 2 (b_Pool_back φ φm)
  f_Arena_init := runB 2 (b_Arena_init φ φm)
  f_Arena_draw_pool := runB 4 (b_Arena_draw_pool φ φm)
  f_Arena_back_pool := runB 2 (b_Arena_back_pool φ φm)
  f_is_number := runB 3 (b_is_number φ φm)
  f_look_number := runB 3 (b_look_number φ φm)
  f_is_name := runB 2 (b_is_name φ φm)
  f_is_pool_size := runB 1 (b_is_pool_size φ φm)
  f_look_size := runB 1 (b_look_size φ φm)
  f_kind_in := runB 1 (b_kind_in φ φm)
  f_room_of := runB 1 (b_room_of φ φm)
  f_blocks_in := runB 2 (b_blocks_in φ φm)
  f_Blocks_init := runB 3 (b_Blocks_init φ φm)
  f_Blocks_new_arena := runB 2 (b_Blocks_new_arena φ φm)
  f_Blocks_new_pool := runB 5 (b_Blocks_new_pool φ φm)
  f_Blocks_take := runB 7 (b_Blocks_take φ φm)
  f_Blocks_give := runB 3 (b_Blocks_give φ φm)
  f_Blocks_give_small := runB 7 (b_Blocks_give_small φ φm)
  f_Blocks_settle := runB 6 (b_Blocks_settle φ φm)
  f_is_place := runB 2 (b_is_place φ φm)
  f_left_over := runB 6 (b_left_over φ φm)
  f_sift := runB 9 (b_sift φ φm)
  f_Thing_init := runB 5 (b_Thing_init φ φm)
  f_Things_init := runB 4 (b_Things_init φ φm)
  f_Things_track := runB 3 (b_Things_track φ φm)
  f_Things_untrack := runB 3 (b_Things_untrack φ φm)
  f_Things_shift := runB 4 (b_Things_shift φ φm)
  f_Things_new_thing := runB 8 (b_Things_new_thing φ φm)
  f_Things_look_bound := runB 2 (b_Things_look_bound φ φm)
  f_Things_targets_of := runB 4 (b_Things_targets_of φ φm)
  f_Things_sifted := runB 4 (b_Things_sifted φ φm)
  f_Dying_init := runB 4 (b_Dying_init φ φm)
  f_Dying_hold := runB 2 (b_Dying_hold φ φm)
  f_Dying_let_go := runB 3 (b_Dying_let_go φ φm)
  f_Dying_bind := runB 4 (b_Dying_bind φ φm)
  f_Dying_unbind := runB 2 (b_Dying_unbind φ φm)
  f_Dying_empty_slot := runB 5 (b_Dying_empty_slot φ φm)
  f_Dying_die := runB 3 (b_Dying_die φ φm)
  f_Dying_end_aside := runB 1 (b_Dying_end_aside φ φm)
  f_Dying_end := runB 4 (b_Dying_end φ φm)
  f_Dying_gone := runB 3 (b_Dying_gone φ φm)
  f_Dying_ask_last := runB 2 (b_Dying_ask_last φ φm)
  f_Dying_do_steps := runB 4 (b_Dying_do_steps φ φm)
  f_Dying_do_step := runB 5 (b_Dying_do_step φ φm)
  f_Dying_unwatch := runB 5 (b_Dying_unwatch φ φm)
  f_Dying_call := runB 2 (b_Dying_call φ φm)
  f_Dying_call_all := runB 3 (b_Dying_call_all φ φm)
  f_Dying_forget_weakly := runB 3 (b_Dying_forget_weakly φ φm)
  f_Collecting_init := runB 4 (b_Collecting_init φ φm)
  f_Collecting_collect_within := runB 1 (b_Collecting_collect_within φ φm)
  f_Collecting_collect_at := runB 3 (b_Collecting_collect_at φ φm)
  f_Collecting_tour := runB 11 (b_Collecting_tour φ φm)
  f_Collecting_may_track := runB 3 (b_Collecting_may_track φ φm)
  f_Collecting_keep := runB 7 (b_Collecting_keep φ φm)
  f_Collecting_forget_lost := runB 5 (b_Collecting_forget_lost φ φm)
  f_Collecting_ask_lost := runB 3 (b_Collecting_ask_lost φ φm)
  f_Collecting_break_up := runB 6 (b_Collecting_break_up φ φm)
  f_Collecting_may_collect := runB 3 (b_Collecting_may_collect φ φm)
  f_Collecting_count_new := runB 2 (b_Collecting_count_new φ φm)
  f_is_step := runB 4 (b_is_step φ φm)
  f_are_steps := runB 3 (b_are_steps φ φm)
  f_look_steps := runB 2 (b_look_steps φ φm)
  f_World_init := runB 4 (b_World_init φ φm)
  f_World_len := runB 1 (b_World_len φ φm)
  f_World_look_name := runB 2 (b_World_look_name φ φm)
  f_World_make := runB 10 (b_World_make φ φm)
  f_World_forget := runB 3 (b_World_forget φ φm)
  f_World_look_row := runB 3 (b_World_look_row φ φm)
  f_World_look_slot := runB 4 (b_World_look_slot φ φm)
  f_World_put := runB 8 (b_World_put φ φm)
  f_World_collect := runB 3 (b_World_collect φ φm)
  f_called := runB 2 (b_called φ φm)
  f_past := runB 1 (b_past φ φm)
  f_law_pick := pickF pk
  f_law_fell := runB 4 (b_law_fell φ φm)
  f_law_let := runB 2 (b_law_let φ φm)
  f_law := runB 11 (b_law φ φm)
def lev (pk : Int → Int → Int) : Nat → FT × FT
  | 0 => (FT.bad, FT.bad)
  | k + 1 => (FT.step pk (lev pk k).1 (lev pk k).2, (lev pk k).1)
def M0 : MS := ⟨4, T.nil |>.set 0 (.ktup []) |>.set 1 (.ktup []) |>.set 2 (.ktup [.str "leaf", .str "row", .str "fixed"]) |>.set 3 (.ktup [.int (700), .int (10), .int (10)])⟩
/-! ### the text -/
def top (i : Nat) : Stmt := PySem.Challenge.pw_pyheap_k65_whole_broken_up.main.body.getD i (.Pass ⟨0, 0, 0, 0⟩)
abbrev s_Pool_init : Stmt := inClass (top 15) 0
abbrev s_Pool_is_full : Stmt := inClass (top 15) 1
abbrev s_Pool_draw : Stmt := inClass (top 15) 2
abbrev s_Pool_back : Stmt := inClass (top 15) 3
abbrev s_Arena_init : Stmt := inClass (top 16) 0
abbrev s_Arena_draw_pool : Stmt := inClass (top 16) 1
abbrev s_Arena_back_pool : Stmt := inClass (top 16) 2
abbrev s_is_number : Stmt := top 26
abbrev s_look_number : Stmt := top 27
abbrev s_is_name : Stmt := top 28
abbrev s_is_pool_size : Stmt := top 29
abbrev s_look_size : Stmt := top 30
abbrev s_kind_in : Stmt := top 31
abbrev s_room_of : Stmt := top 32
abbrev s_blocks_in : Stmt := top 33
abbrev s_Blocks_init : Stmt := inClass (top 37) 0
abbrev s_Blocks_new_arena : Stmt := inClass (top 37) 2
abbrev s_Blocks_new_pool : Stmt := inClass (top 37) 3
abbrev s_Blocks_take : Stmt := inClass (top 37) 4
abbrev s_Blocks_give : Stmt := inClass (top 37) 5
abbrev s_Blocks_give_small : Stmt := inClass (top 37) 6
abbrev s_Blocks_settle : Stmt := inClass (top 37) 7
abbrev s_is_place : Stmt := top 38
abbrev s_left_over : Stmt := top 40
abbrev s_sift : Stmt := top 41
abbrev s_Thing_init : Stmt := inClass (top 53) 0
abbrev s_Things_init : Stmt := inClass (top 54) 0
abbrev s_Things_track : Stmt := inClass (top 54) 1
abbrev s_Things_untrack : Stmt := inClass (top 54) 2
abbrev s_Things_shift : Stmt := inClass (top 54) 3
abbrev s_Things_new_thing : Stmt := inClass (top 54) 4
abbrev s_Things_look_bound : Stmt := inClass (top 54) 5
abbrev s_Things_targets_of : Stmt := inClass (top 54) 7
abbrev s_Things_sifted : Stmt := inClass (top 54) 8
abbrev s_Dying_init : Stmt := inClass (top 61) 0
abbrev s_Dying_hold : Stmt := inClass (top 61) 2
abbrev s_Dying_let_go : Stmt := inClass (top 61) 3
abbrev s_Dying_bind : Stmt := inClass (top 61) 4
abbrev s_Dying_unbind : Stmt := inClass (top 61) 5
abbrev s_Dying_empty_slot : Stmt := inClass (top 61) 6
abbrev s_Dying_die : Stmt := inClass (top 61) 7
abbrev s_Dying_end_aside : Stmt := inClass (top 61) 8
abbrev s_Dying_end : Stmt := inClass (top 61) 9
abbrev s_Dying_gone : Stmt := inClass (top 61) 10
abbrev s_Dying_ask_last : Stmt := inClass (top 61) 11
abbrev s_Dying_do_steps : Stmt := inClass (top 61) 12
abbrev s_Dying_do_step : Stmt := inClass (top 61) 13
abbrev s_Dying_unwatch : Stmt := inClass (top 61) 14
abbrev s_Dying_call : Stmt := inClass (top 61) 15
abbrev s_Dying_call_all : Stmt := inClass (top 61) 16
abbrev s_Dying_forget_weakly : Stmt := inClass (top 61) 17
abbrev s_Collecting_init : Stmt := inClass (top 65) 0
abbrev s_Collecting_collect_within : Stmt := inClass (top 65) 1
abbrev s_Collecting_collect_at : Stmt := inClass (top 65) 2
abbrev s_Collecting_tour : Stmt := inClass (top 65) 3
abbrev s_Collecting_may_track : Stmt := inClass (top 65) 4
abbrev s_Collecting_keep : Stmt := inClass (top 65) 5
abbrev s_Collecting_forget_lost : Stmt := inClass (top 65) 6
abbrev s_Collecting_ask_lost : Stmt := inClass (top 65) 7
abbrev s_Collecting_break_up : Stmt := inClass (top 65) 8
abbrev s_Collecting_may_collect : Stmt := inClass (top 65) 9
abbrev s_Collecting_count_new : Stmt := inClass (top 65) 10
abbrev s_is_step : Stmt := top 73
abbrev s_are_steps : Stmt := top 74
abbrev s_look_steps : Stmt := top 75
abbrev s_World_init : Stmt := inClass (top 76) 0
abbrev s_World_len : Stmt := inClass (top 76) 2
abbrev s_World_look_name : Stmt := inClass (top 76) 4
abbrev s_World_make : Stmt := inClass (top 76) 5
abbrev s_World_forget : Stmt := inClass (top 76) 7
abbrev s_World_look_row : Stmt := inClass (top 76) 8
abbrev s_World_look_slot : Stmt := inClass (top 76) 9
abbrev s_World_put : Stmt := inClass (top 76) 10
abbrev s_World_collect : Stmt := inClass (top 76) 14
abbrev s_called : Stmt := top 78
abbrev s_past : Stmt := top 79
abbrev s_law_pick : Stmt := top 81
abbrev s_law_fell : Stmt := top 82
abbrev s_law_let : Stmt := top 83
abbrev s_law : Stmt := top 84
abbrev N_Pool_init : List Str := ["self", "kind", "most"]
abbrev P_Pool_init : List Str := ["self", "kind", "most"]
theorem sc_Pool_init : FnScope N_Pool_init P_Pool_init (defScope s_Pool_init) := ⟨rfl, rfl, rfl, by decide +kernel, rfl, by decide +kernel, by decide +kernel⟩
abbrev N_Pool_is_full : List Str := ["self"]
abbrev P_Pool_is_full : List Str := ["self"]
theorem sc_Pool_is_full : FnScope N_Pool_is_full P_Pool_is_full (defScope s_Pool_is_full) := ⟨rfl, rfl, rfl, by decide +kernel, rfl, by decide +kernel, by decide +kernel⟩
abbrev N_Pool_draw : List Str := ["self"]
abbrev P_Pool_draw : List Str := ["self"]
theorem sc_Pool_draw : FnScope N_Pool_draw P_Pool_draw (defScope s_Pool_draw) := ⟨rfl, rfl, rfl, by decide +kernel, rfl, by decide +kernel, by decide +kernel⟩
abbrev N_Pool_back : List Str := ["self", "block"]
abbrev P_Pool_back : List Str := ["self", "block"]
theorem sc_Pool_back : FnScope N_Pool_back P_Pool_back (defScope s_Pool_back) := ⟨rfl, rfl, rfl, by decide +kernel, rfl, by decide +kernel, by decide +kernel⟩
abbrev N_Arena_init : List Str := ["self", "pools"]
abbrev P_Arena_init : List Str := ["self", "pools"]
theorem sc_Arena_init : FnScope N_Arena_init P_Arena_init (defScope s_Arena_init) := ⟨rfl, rfl, rfl, by decide +kernel, rfl, by decide +kernel, by decide +kernel⟩
abbrev N_Arena_draw_pool : List Str := ["self", "kind", "most", "at"]
abbrev P_Arena_draw_pool : List Str := ["self", "kind", "most"]
theorem sc_Arena_draw_pool : FnScope N_Arena_draw_pool P_Arena_draw_pool (defScope s_Arena_draw_pool) := ⟨rfl, rfl, rfl, by decide +kernel, rfl, by decide +kernel, by decide +kernel⟩
abbrev N_Arena_back_pool : List Str := ["self", "at"]
abbrev P_Arena_back_pool : List Str := ["self", "at"]
theorem sc_Arena_back_pool : FnScope N_Arena_back_pool P_Arena_back_pool (defScope s_Arena_back_pool) := ⟨rfl, rfl, rfl, by decide +kernel, rfl, by decide +kernel, by decide +kernel⟩
abbrev N_is_number : List Str := ["thing", "least", "most"]
abbrev P_is_number : List Str := ["thing", "least", "most"]
theorem sc_is_number : FnScope N_is_number P_is_number (defScope s_is_number) := ⟨rfl, rfl, rfl, by decide +kernel, rfl, by decide +kernel, by decide +kernel⟩
abbrev N_look_number : List Str := ["thing", "least", "most"]
abbrev P_look_number : List Str := ["thing", "least", "most"]
theorem sc_look_number : FnScope N_look_number P_look_number (defScope s_look_number) := ⟨rfl, rfl, rfl, by decide +kernel, rfl, by decide +kernel, by decide +kernel⟩
abbrev N_is_name : List Str := ["thing", "sign"]
abbrev P_is_name : List Str := ["thing"]
theorem sc_is_name : FnScope N_is_name P_is_name (defScope s_is_name) := ⟨rfl, rfl, rfl, by decide +kernel, rfl, by decide +kernel, by decide +kernel⟩
abbrev N_is_pool_size : List Str := ["thing"]
abbrev P_is_pool_size : List Str := ["thing"]
theorem sc_is_pool_size : FnScope N_is_pool_size P_is_pool_size (defScope s_is_pool_size) := ⟨rfl, rfl, rfl, by decide +kernel, rfl, by decide +kernel, by decide +kernel⟩
abbrev N_look_size : List Str := ["size"]
abbrev P_look_size : List Str := ["size"]
theorem sc_look_size : FnScope N_look_size P_look_size (defScope s_look_size) := ⟨rfl, rfl, rfl, by decide +kernel, rfl, by decide +kernel, by decide +kernel⟩
abbrev N_kind_in : List Str := ["size"]
abbrev P_kind_in : List Str := ["size"]
theorem sc_kind_in : FnScope N_kind_in P_kind_in (defScope s_kind_in) := ⟨rfl, rfl, rfl, by decide +kernel, rfl, by decide +kernel, by decide +kernel⟩
abbrev N_room_of : List Str := ["kind"]
abbrev P_room_of : List Str := ["kind"]
theorem sc_room_of : FnScope N_room_of P_room_of (defScope s_room_of) := ⟨rfl, rfl, rfl, by decide +kernel, rfl, by decide +kernel, by decide +kernel⟩
abbrev N_blocks_in : List Str := ["pool_size", "kind"]
abbrev P_blocks_in : List Str := ["pool_size", "kind"]
theorem sc_blocks_in : FnScope N_blocks_in P_blocks_in (defScope s_blocks_in) := ⟨rfl, rfl, rfl, by decide +kernel, rfl, by decide +kernel, by decide +kernel⟩
abbrev N_Blocks_init : List Str := ["self", "pool_bytes", "pool_count"]
abbrev P_Blocks_init : List Str := ["self", "pool_bytes", "pool_count"]
theorem sc_Blocks_init : FnScope N_Blocks_init P_Blocks_init (defScope s_Blocks_init) := ⟨rfl, rfl, rfl, by decide +kernel, rfl, by decide +kernel, by decide +kernel⟩
abbrev N_Blocks_new_arena : List Str := ["self", "at"]
abbrev P_Blocks_new_arena : List Str := ["self"]
theorem sc_Blocks_new_arena : FnScope N_Blocks_new_arena P_Blocks_new_arena (defScope s_Blocks_new_arena) := ⟨rfl, rfl, rfl, by decide +kernel, rfl, by decide +kernel, by decide +kernel⟩
abbrev N_Blocks_new_pool : List Str := ["self", "kind", "at", "arena", "pool"]
abbrev P_Blocks_new_pool : List Str := ["self", "kind"]
theorem sc_Blocks_new_pool : FnScope N_Blocks_new_pool P_Blocks_new_pool (defScope s_Blocks_new_pool) := ⟨rfl, rfl, rfl, by decide +kernel, rfl, by decide +kernel, by decide +kernel⟩
abbrev N_Blocks_take : List Str := ["self", "size", "kind", "place", "pool", "at", "number"]
abbrev P_Blocks_take : List Str := ["self", "size"]
theorem sc_Blocks_take : FnScope N_Blocks_take P_Blocks_take (defScope s_Blocks_take) := ⟨rfl, rfl, rfl, by decide +kernel, rfl, by decide +kernel, by decide +kernel⟩
abbrev N_Blocks_give : List Str := ["self", "place", "size"]
abbrev P_Blocks_give : List Str := ["self", "place"]
theorem sc_Blocks_give : FnScope N_Blocks_give P_Blocks_give (defScope s_Blocks_give) := ⟨rfl, rfl, rfl, by decide +kernel, rfl, by decide +kernel, by decide +kernel⟩
abbrev N_Blocks_give_small : List Str := ["self", "place", "at", "number", "block", "pool", "one"]
abbrev P_Blocks_give_small : List Str := ["self", "place"]
theorem sc_Blocks_give_small : FnScope N_Blocks_give_small P_Blocks_give_small (defScope s_Blocks_give_small) := ⟨rfl, rfl, rfl, by decide +kernel, rfl, by decide +kernel, by decide +kernel⟩
abbrev N_Blocks_settle : List Str := ["self", "at", "left", "rest", "ahead", "one"]
abbrev P_Blocks_settle : List Str := ["self", "at", "left"]
theorem sc_Blocks_settle : FnScope N_Blocks_settle P_Blocks_settle (defScope s_Blocks_settle) := ⟨rfl, rfl, rfl, by decide +kernel, rfl, by decide +kernel, by decide +kernel⟩
abbrev N_is_place : List Str := ["thing", "part"]
abbrev P_is_place : List Str := ["thing"]
theorem sc_is_place : FnScope N_is_place P_is_place (defScope s_is_place) := ⟨rfl, rfl, rfl, by decide +kernel, rfl, by decide +kernel, by decide +kernel⟩
abbrev N_left_over : List Str := ["order", "counts", "targets", "left", "node", "other"]
abbrev P_left_over : List Str := ["order", "counts", "targets"]
theorem sc_left_over : FnScope N_left_over P_left_over (defScope s_left_over) := ⟨rfl, rfl, rfl, by decide +kernel, rfl, by decide +kernel, by decide +kernel⟩
abbrev N_sift : List Str := ["order", "counts", "targets", "left", "kept", "aside", "line", "node", "other"]
abbrev P_sift : List Str := ["order", "counts", "targets"]
theorem sc_sift : FnScope N_sift P_sift (defScope s_sift) := ⟨rfl, rfl, rfl, by decide +kernel, rfl, by decide +kernel, by decide +kernel⟩
abbrev N_Thing_init : List Str := ["self", "form", "slots", "steps", "lies"]
abbrev P_Thing_init : List Str := ["self", "form", "slots", "steps", "lies"]
theorem sc_Thing_init : FnScope N_Thing_init P_Thing_init (defScope s_Thing_init) := ⟨rfl, rfl, rfl, by decide +kernel, rfl, by decide +kernel, by decide +kernel⟩
abbrev N_Things_init : List Str := ["self", "pool_bytes", "pool_count", "place"]
abbrev P_Things_init : List Str := ["self", "pool_bytes", "pool_count"]
theorem sc_Things_init : FnScope N_Things_init P_Things_init (defScope s_Things_init) := ⟨rfl, rfl, rfl, by decide +kernel, rfl, by decide +kernel, by decide +kernel⟩
abbrev N_Things_track : List Str := ["self", "number", "place"]
abbrev P_Things_track : List Str := ["self", "number", "place"]
theorem sc_Things_track : FnScope N_Things_track P_Things_track (defScope s_Things_track) := ⟨rfl, rfl, rfl, by decide +kernel, rfl, by decide +kernel, by decide +kernel⟩
abbrev N_Things_untrack : List Str := ["self", "number", "thing"]
abbrev P_Things_untrack : List Str := ["self", "number"]
theorem sc_Things_untrack : FnScope N_Things_untrack P_Things_untrack (defScope s_Things_untrack) := ⟨rfl, rfl, rfl, by decide +kernel, rfl, by decide +kernel, by decide +kernel⟩
abbrev N_Things_shift : List Str := ["self", "numbers", "place", "number"]
abbrev P_Things_shift : List Str := ["self", "numbers", "place"]
theorem sc_Things_shift : FnScope N_Things_shift P_Things_shift (defScope s_Things_shift) := ⟨rfl, rfl, rfl, by decide +kernel, rfl, by decide +kernel, by decide +kernel⟩
abbrev N_Things_new_thing : List Str := ["self", "form", "slots", "steps", "size", "number", "lies", "other"]
abbrev P_Things_new_thing : List Str := ["self", "form", "slots", "steps", "size"]
theorem sc_Things_new_thing : FnScope N_Things_new_thing P_Things_new_thing (defScope s_Things_new_thing) := ⟨rfl, rfl, rfl, by decide +kernel, rfl, by decide +kernel, by decide +kernel⟩
abbrev N_Things_look_bound : List Str := ["self", "name"]
abbrev P_Things_look_bound : List Str := ["self", "name"]
theorem sc_Things_look_bound : FnScope N_Things_look_bound P_Things_look_bound (defScope s_Things_look_bound) := ⟨rfl, rfl, rfl, by decide +kernel, rfl, by decide +kernel, by decide +kernel⟩
abbrev N_Things_targets_of : List Str := ["self", "numbers", "number", "other"]
abbrev P_Things_targets_of : List Str := ["self", "numbers"]
theorem sc_Things_targets_of : FnScope N_Things_targets_of P_Things_targets_of (defScope s_Things_targets_of) := ⟨rfl, rfl, rfl, by decide +kernel, rfl, by decide +kernel, by decide +kernel⟩
abbrev N_Things_sifted : List Str := ["self", "numbers", "counts", "number"]
abbrev P_Things_sifted : List Str := ["self", "numbers"]
theorem sc_Things_sifted : FnScope N_Things_sifted P_Things_sifted (defScope s_Things_sifted) := ⟨rfl, rfl, rfl, by decide +kernel, rfl, by decide +kernel, by decide +kernel⟩
abbrev N_Dying_init : List Str := ["self", "pool_bytes", "pool_count", "nesting"]
abbrev P_Dying_init : List Str := ["self", "pool_bytes", "pool_count", "nesting"]
theorem sc_Dying_init : FnScope N_Dying_init P_Dying_init (defScope s_Dying_init) := ⟨rfl, rfl, rfl, by decide +kernel, rfl, by decide +kernel, by decide +kernel⟩
abbrev N_Dying_hold : List Str := ["self", "number"]
abbrev P_Dying_hold : List Str := ["self", "number"]
theorem sc_Dying_hold : FnScope N_Dying_hold P_Dying_hold (defScope s_Dying_hold) := ⟨rfl, rfl, rfl, by decide +kernel, rfl, by decide +kernel, by decide +kernel⟩
abbrev N_Dying_let_go : List Str := ["self", "number", "thing"]
abbrev P_Dying_let_go : List Str := ["self", "number"]
theorem sc_Dying_let_go : FnScope N_Dying_let_go P_Dying_let_go (defScope s_Dying_let_go) := ⟨rfl, rfl, rfl, by decide +kernel, rfl, by decide +kernel, by decide +kernel⟩
abbrev N_Dying_bind : List Str := ["self", "name", "number", "old"]
abbrev P_Dying_bind : List Str := ["self", "name", "number"]
theorem sc_Dying_bind : FnScope N_Dying_bind P_Dying_bind (defScope s_Dying_bind) := ⟨rfl, rfl, rfl, by decide +kernel, rfl, by decide +kernel, by decide +kernel⟩
abbrev N_Dying_unbind : List Str := ["self", "name"]
abbrev P_Dying_unbind : List Str := ["self", "name"]
theorem sc_Dying_unbind : FnScope N_Dying_unbind P_Dying_unbind (defScope s_Dying_unbind) := ⟨rfl, rfl, rfl, by decide +kernel, rfl, by decide +kernel, by decide +kernel⟩
abbrev N_Dying_empty_slot : List Str := ["self", "number", "at", "thing", "old"]
abbrev P_Dying_empty_slot : List Str := ["self", "number", "at"]
theorem sc_Dying_empty_slot : FnScope N_Dying_empty_slot P_Dying_empty_slot (defScope s_Dying_empty_slot) := ⟨rfl, rfl, rfl, by decide +kernel, rfl, by decide +kernel, by decide +kernel⟩
abbrev N_Dying_die : List Str := ["self", "number", "thing"]
abbrev P_Dying_die : List Str := ["self", "number"]
theorem sc_Dying_die : FnScope N_Dying_die P_Dying_die (defScope s_Dying_die) := ⟨rfl, rfl, rfl, by decide +kernel, rfl, by decide +kernel, by decide +kernel⟩
abbrev N_Dying_end_aside : List Str := ["self"]
abbrev P_Dying_end_aside : List Str := ["self"]
theorem sc_Dying_end_aside : FnScope N_Dying_end_aside P_Dying_end_aside (defScope s_Dying_end_aside) := ⟨rfl, rfl, rfl, by decide +kernel, rfl, by decide +kernel, by decide +kernel⟩
abbrev N_Dying_end : List Str := ["self", "number", "thing", "at"]
abbrev P_Dying_end : List Str := ["self", "number"]
theorem sc_Dying_end : FnScope N_Dying_end P_Dying_end (defScope s_Dying_end) := ⟨rfl, rfl, rfl, by decide +kernel, rfl, by decide +kernel, by decide +kernel⟩
abbrev N_Dying_gone : List Str := ["self", "number", "thing"]
abbrev P_Dying_gone : List Str := ["self", "number"]
theorem sc_Dying_gone : FnScope N_Dying_gone P_Dying_gone (defScope s_Dying_gone) := ⟨rfl, rfl, rfl, by decide +kernel, rfl, by decide +kernel, by decide +kernel⟩
abbrev N_Dying_ask_last : List Str := ["self", "number"]
abbrev P_Dying_ask_last : List Str := ["self", "number"]
theorem sc_Dying_ask_last : FnScope N_Dying_ask_last P_Dying_ask_last (defScope s_Dying_ask_last) := ⟨rfl, rfl, rfl, by decide +kernel, rfl, by decide +kernel, by decide +kernel⟩
abbrev N_Dying_do_steps : List Str := ["self", "number", "e", "step"]
abbrev P_Dying_do_steps : List Str := ["self", "number"]
theorem sc_Dying_do_steps : FnScope N_Dying_do_steps P_Dying_do_steps (defScope s_Dying_do_steps) := ⟨rfl, rfl, rfl, by decide +kernel, rfl, by decide +kernel, by decide +kernel⟩
abbrev N_Dying_do_step : List Str := ["self", "number", "step", "word", "rest"]
abbrev P_Dying_do_step : List Str := ["self", "number", "step"]
theorem sc_Dying_do_step : FnScope N_Dying_do_step P_Dying_do_step (defScope s_Dying_do_step) := ⟨rfl, rfl, rfl, by decide +kernel, rfl, by decide +kernel, by decide +kernel⟩
abbrev N_Dying_unwatch : List Str := ["self", "number", "thing", "old", "weak"]
abbrev P_Dying_unwatch : List Str := ["self", "number"]
theorem sc_Dying_unwatch : FnScope N_Dying_unwatch P_Dying_unwatch (defScope s_Dying_unwatch) := ⟨rfl, rfl, rfl, by decide +kernel, rfl, by decide +kernel, by decide +kernel⟩
abbrev N_Dying_call : List Str := ["self", "weak"]
abbrev P_Dying_call : List Str := ["self", "weak"]
theorem sc_Dying_call : FnScope N_Dying_call P_Dying_call (defScope s_Dying_call) := ⟨rfl, rfl, rfl, by decide +kernel, rfl, by decide +kernel, by decide +kernel⟩
abbrev N_Dying_call_all : List Str := ["self", "weaks", "weak"]
abbrev P_Dying_call_all : List Str := ["self", "weaks"]
theorem sc_Dying_call_all : FnScope N_Dying_call_all P_Dying_call_all (defScope s_Dying_call_all) := ⟨rfl, rfl, rfl, by decide +kernel, rfl, by decide +kernel, by decide +kernel⟩
abbrev N_Dying_forget_weakly : List Str := ["self", "number", "weak"]
abbrev P_Dying_forget_weakly : List Str := ["self", "number"]
theorem sc_Dying_forget_weakly : FnScope N_Dying_forget_weakly P_Dying_forget_weakly (defScope s_Dying_forget_weakly) := ⟨rfl, rfl, rfl, by decide +kernel, rfl, by decide +kernel, by decide +kernel⟩
abbrev N_Collecting_init : List Str := ["self", "pool_bytes", "pool_count", "nesting"]
abbrev P_Collecting_init : List Str := ["self", "pool_bytes", "pool_count", "nesting"]
theorem sc_Collecting_init : FnScope N_Collecting_init P_Collecting_init (defScope s_Collecting_init) := ⟨rfl, rfl, rfl, by decide +kernel, rfl, by decide +kernel, by decide +kernel⟩
abbrev N_Collecting_collect_within : List Str := ["self"]
abbrev P_Collecting_collect_within : List Str := ["self"]
theorem sc_Collecting_collect_within : FnScope N_Collecting_collect_within P_Collecting_collect_within (defScope s_Collecting_collect_within) := ⟨rfl, rfl, rfl, by decide +kernel, rfl, by decide +kernel, by decide +kernel⟩
abbrev N_Collecting_collect_at : List Str := ["self", "place", "many"]
abbrev P_Collecting_collect_at : List Str := ["self", "place"]
theorem sc_Collecting_collect_at : FnScope N_Collecting_collect_at P_Collecting_collect_at (defScope s_Collecting_collect_at) := ⟨rfl, rfl, rfl, by decide +kernel, rfl, by decide +kernel, by decide +kernel⟩
abbrev N_Collecting_tour : List Str := ["self", "place", "at", "many", "young", "number", "kept", "lost", "older", "risen", "still"]
abbrev P_Collecting_tour : List Str := ["self", "place"]
theorem sc_Collecting_tour : FnScope N_Collecting_tour P_Collecting_tour (defScope s_Collecting_tour) := ⟨rfl, rfl, rfl, by decide +kernel, rfl, by decide +kernel, by decide +kernel⟩
abbrev N_Collecting_may_track : List Str := ["self", "number", "thing"]
abbrev P_Collecting_may_track : List Str := ["self", "number"]
theorem sc_Collecting_may_track : FnScope N_Collecting_may_track P_Collecting_may_track (defScope s_Collecting_may_track) := ⟨rfl, rfl, rfl, by decide +kernel, rfl, by decide +kernel, by decide +kernel⟩
abbrev N_Collecting_keep : List Str := ["self", "kept", "place", "older", "number", "thing", "one"]
abbrev P_Collecting_keep : List Str := ["self", "kept", "place", "older"]
theorem sc_Collecting_keep : FnScope N_Collecting_keep P_Collecting_keep (defScope s_Collecting_keep) := ⟨rfl, rfl, rfl, by decide +kernel, rfl, by decide +kernel, by decide +kernel⟩
abbrev N_Collecting_forget_lost : List Str := ["self", "lost", "number", "target", "weak"]
abbrev P_Collecting_forget_lost : List Str := ["self", "lost"]
theorem sc_Collecting_forget_lost : FnScope N_Collecting_forget_lost P_Collecting_forget_lost (defScope s_Collecting_forget_lost) := ⟨rfl, rfl, rfl, by decide +kernel, rfl, by decide +kernel, by decide +kernel⟩
abbrev N_Collecting_ask_lost : List Str := ["self", "number", "thing"]
abbrev P_Collecting_ask_lost : List Str := ["self"]
theorem sc_Collecting_ask_lost : FnScope N_Collecting_ask_lost P_Collecting_ask_lost (defScope s_Collecting_ask_lost) := ⟨rfl, rfl, rfl, by decide +kernel, rfl, by decide +kernel, by decide +kernel⟩
abbrev N_Collecting_break_up : List Str := ["self", "older", "thing", "number", "at", "rest"]
abbrev P_Collecting_break_up : List Str := ["self", "older"]
theorem sc_Collecting_break_up : FnScope N_Collecting_break_up P_Collecting_break_up (defScope s_Collecting_break_up) := ⟨rfl, rfl, rfl, by decide +kernel, rfl, by decide +kernel, by decide +kernel⟩
abbrev N_Collecting_may_collect : List Str := ["self", "due", "at"]
abbrev P_Collecting_may_collect : List Str := ["self"]
theorem sc_Collecting_may_collect : FnScope N_Collecting_may_collect P_Collecting_may_collect (defScope s_Collecting_may_collect) := ⟨rfl, rfl, rfl, by decide +kernel, rfl, by decide +kernel, by decide +kernel⟩
abbrev N_Collecting_count_new : List Str := ["self", "form"]
abbrev P_Collecting_count_new : List Str := ["self", "form"]
theorem sc_Collecting_count_new : FnScope N_Collecting_count_new P_Collecting_count_new (defScope s_Collecting_count_new) := ⟨rfl, rfl, rfl, by decide +kernel, rfl, by decide +kernel, by decide +kernel⟩
abbrev N_is_step : List Str := ["thing", "is_weak", "word", "rest"]
abbrev P_is_step : List Str := ["thing", "is_weak"]
theorem sc_is_step : FnScope N_is_step P_is_step (defScope s_is_step) := ⟨rfl, rfl, rfl, by decide +kernel, rfl, by decide +kernel, by decide +kernel⟩
abbrev N_are_steps : List Str := ["thing", "is_weak", "one"]
abbrev P_are_steps : List Str := ["thing", "is_weak"]
theorem sc_are_steps : FnScope N_are_steps P_are_steps (defScope s_are_steps) := ⟨rfl, rfl, rfl, by decide +kernel, rfl, by decide +kernel, by decide +kernel⟩
abbrev N_look_steps : List Str := ["steps", "is_weak"]
abbrev P_look_steps : List Str := ["steps", "is_weak"]
theorem sc_look_steps : FnScope N_look_steps P_look_steps (defScope s_look_steps) := ⟨rfl, rfl, rfl, by decide +kernel, rfl, by decide +kernel, by decide +kernel⟩
abbrev N_World_init : List Str := ["self", "pool_bytes", "pool_count", "nesting"]
abbrev P_World_init : List Str := ["self", "pool_bytes", "pool_count", "nesting"]
theorem sc_World_init : FnScope N_World_init P_World_init (defScope s_World_init) := ⟨rfl, rfl, rfl, by decide +kernel, rfl, by decide +kernel, by decide +kernel⟩
abbrev N_World_len : List Str := ["self"]
abbrev P_World_len : List Str := ["self"]
theorem sc_World_len : FnScope N_World_len P_World_len (defScope s_World_len) := ⟨rfl, rfl, rfl, by decide +kernel, rfl, by decide +kernel, by decide +kernel⟩
abbrev N_World_look_name : List Str := ["self", "name"]
abbrev P_World_look_name : List Str := ["self", "name"]
theorem sc_World_look_name : FnScope N_World_look_name P_World_look_name (defScope s_World_look_name) := ⟨rfl, rfl, rfl, by decide +kernel, rfl, by decide +kernel, by decide +kernel⟩
abbrev N_World_make : List Str := ["self", "name", "form", "holding", "stepping", "extra", "other", "held", "some", "number"]
abbrev P_World_make : List Str := ["self", "name", "form", "holding", "stepping", "extra"]
theorem sc_World_make : FnScope N_World_make P_World_make (defScope s_World_make) := ⟨rfl, rfl, rfl, by decide +kernel, rfl, by decide +kernel, by decide +kernel⟩
abbrev N_World_forget : List Str := ["self", "name", "old"]
abbrev P_World_forget : List Str := ["self", "name"]
theorem sc_World_forget : FnScope N_World_forget P_World_forget (defScope s_World_forget) := ⟨rfl, rfl, rfl, by decide +kernel, rfl, by decide +kernel, by decide +kernel⟩
abbrev N_World_look_row : List Str := ["self", "name", "number"]
abbrev P_World_look_row : List Str := ["self", "name"]
theorem sc_World_look_row : FnScope N_World_look_row P_World_look_row (defScope s_World_look_row) := ⟨rfl, rfl, rfl, by decide +kernel, rfl, by decide +kernel, by decide +kernel⟩
abbrev N_World_look_slot : List Str := ["self", "number", "at", "many"]
abbrev P_World_look_slot : List Str := ["self", "number", "at"]
theorem sc_World_look_slot : FnScope N_World_look_slot P_World_look_slot (defScope s_World_look_slot) := ⟨rfl, rfl, rfl, by decide +kernel, rfl, by decide +kernel, by decide +kernel⟩
abbrev N_World_put : List Str := ["self", "name", "at", "other", "number", "new", "old", "freed"]
abbrev P_World_put : List Str := ["self", "name", "at", "other"]
theorem sc_World_put : FnScope N_World_put P_World_put (defScope s_World_put) := ⟨rfl, rfl, rfl, by decide +kernel, rfl, by decide +kernel, by decide +kernel⟩
abbrev N_World_collect : List Str := ["self", "upto", "many"]
abbrev P_World_collect : List Str := ["self", "upto"]
theorem sc_World_collect : FnScope N_World_collect P_World_collect (defScope s_World_collect) := ⟨rfl, rfl, rfl, by decide +kernel, rfl, by decide +kernel, by decide +kernel⟩
abbrev N_called : List Str := ["world", "name"]
abbrev P_called : List Str := ["world"]
theorem sc_called : FnScope N_called P_called (defScope s_called) := ⟨rfl, rfl, rfl, by decide +kernel, rfl, by decide +kernel, by decide +kernel⟩
abbrev N_past : List Str := ["world"]
abbrev P_past : List Str := ["world"]
theorem sc_past : FnScope N_past P_past (defScope s_past) := ⟨rfl, rfl, rfl, by decide +kernel, rfl, by decide +kernel, by decide +kernel⟩
abbrev N_law_fell : List Str := ["_law_book", "_law_number", "_law_at", "_law_other"]
abbrev P_law_fell : List Str := ["_law_book", "_law_number"]
theorem sc_law_fell : FnScope N_law_fell P_law_fell (defScope s_law_fell) := ⟨rfl, rfl, rfl, by decide +kernel, rfl, by decide +kernel, by decide +kernel⟩
abbrev N_law_let : List Str := ["_law_book", "_law_number"]
abbrev P_law_let : List Str := ["_law_book", "_law_number"]
theorem sc_law_let : FnScope N_law_let P_law_let (defScope s_law_let) := ⟨rfl, rfl, rfl, by decide +kernel, rfl, by decide +kernel, by decide +kernel⟩
abbrev N_law : List Str := ["_law_script", "_law_many", "_law_world", "_law_forms", "_law_k", "_law_book", "_law_held", "_law_number", "_law_name", "_law_at", "_law_other"]
abbrev P_law : List Str := ["_law_script"]
theorem sc_law : FnScope N_law P_law (defScope s_law) := ⟨rfl, rfl, rfl, by decide +kernel, rfl, by decide +kernel, by decide +kernel⟩
/-! ### what the written part must say -/
def kwAt (K : PySem.W.Frag) (f : Addr) (x : Str) : Addr := match (fdAt K f).kwdefaults with
  | .ref D => (match PySem.W.nsIn K D x with
    | some (some (.ref a)) => a
    | _ => 0)
  | _ => 0
abbrev fl : List Str := (["kind", "most", "fresh", "idle", "taken", "made", "left", "page", "pools", "arenas"] : List Str) ++ (["useful", "spare", "born", "greats", "used", "sizes", "form", "slots", "steps", "lies"] : List Str) ++ (["count", "target", "watchers", "was_asked", "place", "blocks", "things", "roots", "lists", "events"] : List Str) ++ (["next_one", "freed", "counts", "nest", "deep", "aside", "bounds", "is_on", "is_busy", "pending"] : List Str) ++ (["lasting", "tours", "found", "made_with", "done"] : List Str)
abbrev NF : Nat := 45
def clsA (K : PySem.W.Frag) (c : Nat) : Addr := match c with
  | 0 => He.ga K "World"
  | 1 => He.ga K "Thing"
  | 2 => He.ga K "Blocks"
  | 3 => He.ga K "Arena"
  | 4 => He.ga K "Pool"
  | 10 => He.ga K "Bare"
  | 11 => He.ga K "HeapError"
  | 12 => He.ga K "NoBlock"
  | 13 => He.ga K "NoForm"
  | 14 => He.ga K "NoName"
  | 15 => He.ga K "NoNumber"
  | 16 => He.ga K "NoRow"
  | 17 => He.ga K "NoSize"
  | 18 => He.ga K "NoSlot"
  | 19 => He.ga K "NoSteps"
  | 20 => He.ga K "NoThing"
  | 21 => He.ga K "StepFailed"
  | _ => 0
def raA (K : PySem.W.Frag) (n : Nat) : Addr := match n with
  | 0 => (kwAt K (fAd K ("World", some "make")) "holding")
  | 1 => (kwAt K (fAd K ("World", some "make")) "stepping")
  | 2 => He.ga K "FORMS"
  | 3 => He.ga K "BOUNDS"
  | _ => 0
theorem fl_nd : fl.Nodup := by decide +kernel
theorem fl_sz : ∀ s ∈ fl, s.cps.size < 1000 := by decide +kernel
@[reducible] def Gv (K : PySem.W.Frag) (scr : Addr) (ns : List Int) : Cfg := { K := K, cls := clsA K, fname := fnm fl, finj := fnm_inj fl_nd fl_sz, tau := zname, tinj := zname_inj, tok := zname_ok, scr := scr, ns := ns, od := fun _ => default, n0 := 4, ra := raA K }
structure TX (K : PySem.W.Frag) (mg : Str → Option Value) (w : World) (scr : Addr) (ns : List Int) : Prop where
  fx : Fx K (Gv K scr ns) NF
  tau : TauOk (Gv K scr ns) 0
  c_World : Cls K (He.ga K "World")
  c_Thing : Cls K (He.ga K "Thing")
  c_Blocks : Cls K (He.ga K "Blocks")
  c_Arena : Cls K (He.ga K "Arena")
  c_Pool : Cls K (He.ga K "Pool")
  g_Arena : mg "Arena" = some (.ref (He.ga K "Arena"))
  g_BOUNDS : mg "BOUNDS" = some (.ref (He.ga K "BOUNDS"))
  g_Blocks : mg "Blocks" = some (.ref (He.ga K "Blocks"))
  g_Collecting : mg "Collecting" = some (.ref (He.ga K "Collecting"))
  g_Dying : mg "Dying" = some (.ref (He.ga K "Dying"))
  g_FORMS : mg "FORMS" = some (.ref (He.ga K "FORMS"))
  g_HEADS : mg "HEADS" = some (.ref (He.ga K "HEADS"))
  g_Pool : mg "Pool" = some (.ref (He.ga K "Pool"))
  g_Thing : mg "Thing" = some (.ref (He.ga K "Thing"))
  g_Things : mg "Things" = some (.ref (He.ga K "Things"))
  g_World : mg "World" = some (.ref (He.ga K "World"))
  g__law_fell : mg "_law_fell" = some (.ref (He.ga K "_law_fell"))
  g__law_let : mg "_law_let" = some (.ref (He.ga K "_law_let"))
  g__law_pick : mg "_law_pick" = some (.ref (He.ga K "_law_pick"))
  g_are_steps : mg "are_steps" = some (.ref (He.ga K "are_steps"))
  g_blocks_in : mg "blocks_in" = some (.ref (He.ga K "blocks_in"))
  g_called : mg "called" = some (.ref (He.ga K "called"))
  g_is_name : mg "is_name" = some (.ref (He.ga K "is_name"))
  g_is_number : mg "is_number" = some (.ref (He.ga K "is_number"))
  g_is_place : mg "is_place" = some (.ref (He.ga K "is_place"))
  g_is_pool_size : mg "is_pool_size" = some (.ref (He.ga K "is_pool_size"))
  g_is_step : mg "is_step" = some (.ref (He.ga K "is_step"))
  g_kind_in : mg "kind_in" = some (.ref (He.ga K "kind_in"))
  g_left_over : mg "left_over" = some (.ref (He.ga K "left_over"))
  g_look_number : mg "look_number" = some (.ref (He.ga K "look_number"))
  g_look_size : mg "look_size" = some (.ref (He.ga K "look_size"))
  g_look_steps : mg "look_steps" = some (.ref (He.ga K "look_steps"))
  g_past : mg "past" = some (.ref (He.ga K "past"))
  g_room_of : mg "room_of" = some (.ref (He.ga K "room_of"))
  g_sift : mg "sift" = some (.ref (He.ga K "sift"))
  n_all : mg "all" = none
  n_any : mg "any" = none
  n_bool : mg "bool" = none
  n_dict : mg "dict" = none
  n_enumerate : mg "enumerate" = none
  n_int : mg "int" = none
  n_isinstance : mg "isinstance" = none
  n_len : mg "len" = none
  n_list : mg "list" = none
  n_max : mg "max" = none
  n_min : mg "min" = none
  n_range : mg "range" = none
  n_reversed : mg "reversed" = none
  n_sorted : mg "sorted" = none
  n_str : mg "str" = none
  n_tuple : mg "tuple" = none
  i_CLEAR : ∃ t, mg "CLEAR" = some (.str "clear" t)
  i_COLLECT : ∃ t, mg "COLLECT" = some (.str "collect" t)
  i_FAIL : ∃ t, mg "FAIL" = some (.str "fail" t)
  i_FIXED : ∃ t, mg "FIXED" = some (.str "fixed" t)
  i_FORGET : ∃ t, mg "FORGET" = some (.str "forget" t)
  i_GREAT : ∃ t, mg "GREAT" = some (.str "great" t)
  i_HEAD : ∃ t, mg "HEAD" = some (.int 48 t)
  i_LEAF : ∃ t, mg "LEAF" = some (.str "leaf" t)
  i_LEAST_POOL : ∃ t, mg "LEAST_POOL" = some (.int 1072 t)
  i_LONGEST_NAME : ∃ t, mg "LONGEST_NAME" = some (.int 6 t)
  i_MOST_EXTRA : ∃ t, mg "MOST_EXTRA" = some (.int 2000 t)
  i_MOST_POOL : ∃ t, mg "MOST_POOL" = some (.int 4096 t)
  i_MOST_POOLS : ∃ t, mg "MOST_POOLS" = some (.int 64 t)
  i_MOST_SIZE : ∃ t, mg "MOST_SIZE" = some (.int 9999 t)
  i_MOST_SLOTS : ∃ t, mg "MOST_SLOTS" = some (.int 8 t)
  i_MOST_SMALL : ∃ t, mg "MOST_SMALL" = some (.int 512 t)
  i_MOST_STEPS : ∃ t, mg "MOST_STEPS" = some (.int 3 t)
  i_NEST : ∃ t, mg "NEST" = some (.int 50 t)
  i_OLDEST : ∃ t, mg "OLDEST" = some (.int 2 t)
  i_PLACES : ∃ t, mg "PLACES" = some (.int 5 t)
  i_ROW : ∃ t, mg "ROW" = some (.str "row" t)
  i_SAVE : ∃ t, mg "SAVE" = some (.str "save" t)
  i_SHARE : ∃ t, mg "SHARE" = some (.int 4 t)
  i_SMALL : ∃ t, mg "SMALL" = some (.str "abcdefghijklmnopqrstuvwxyz" t)
  i_STEP : ∃ t, mg "STEP" = some (.int 16 t)
  i_WAITING : ∃ t, mg "WAITING" = some (.int 4 t)
  i_WEAK : ∃ t, mg "WEAK" = some (.str "weak" t)
  m_Arena_back_pool : Meth K (He.ga K "Arena") "back_pool" (He.fAd K ("Arena", some "back_pool"))
  m_Arena_draw_pool : Meth K (He.ga K "Arena") "draw_pool" (He.fAd K ("Arena", some "draw_pool"))
  m_Blocks_give : Meth K (He.ga K "Blocks") "give" (He.fAd K ("Blocks", some "give"))
  m_Blocks_give_small : Meth K (He.ga K "Blocks") "give_small" (He.fAd K ("Blocks", some "give_small"))
  m_Blocks_new_arena : Meth K (He.ga K "Blocks") "new_arena" (He.fAd K ("Blocks", some "new_arena"))
  m_Blocks_new_pool : Meth K (He.ga K "Blocks") "new_pool" (He.fAd K ("Blocks", some "new_pool"))
  m_Blocks_settle : Meth K (He.ga K "Blocks") "settle" (He.fAd K ("Blocks", some "settle"))
  m_Blocks_take : Meth K (He.ga K "Blocks") "take" (He.fAd K ("Blocks", some "take"))
  m_Pool_back : Meth K (He.ga K "Pool") "back" (He.fAd K ("Pool", some "back"))
  m_Pool_draw : Meth K (He.ga K "Pool") "draw" (He.fAd K ("Pool", some "draw"))
  m_Pool_is_full : Meth K (He.ga K "Pool") "is_full" (He.fAd K ("Pool", some "is_full"))
  m_World_ask_last : Meth K (He.ga K "World") "ask_last" (He.fAd K ("World", some "ask_last"))
  m_World_ask_lost : Meth K (He.ga K "World") "ask_lost" (He.fAd K ("World", some "ask_lost"))
  m_World_bind : Meth K (He.ga K "World") "bind" (He.fAd K ("World", some "bind"))
  m_World_break_up : Meth K (He.ga K "World") "break_up" (He.fAd K ("World", some "break_up"))
  m_World_call : Meth K (He.ga K "World") "call" (He.fAd K ("World", some "call"))
  m_World_call_all : Meth K (He.ga K "World") "call_all" (He.fAd K ("World", some "call_all"))
  m_World_collect : Meth K (He.ga K "World") "collect" (He.fAd K ("World", some "collect"))
  m_World_collect_at : Meth K (He.ga K "World") "collect_at" (He.fAd K ("World", some "collect_at"))
  m_World_collect_within : Meth K (He.ga K "World") "collect_within" (He.fAd K ("World", some "collect_within"))
  m_World_count_new : Meth K (He.ga K "World") "count_new" (He.fAd K ("World", some "count_new"))
  m_World_die : Meth K (He.ga K "World") "die" (He.fAd K ("World", some "die"))
  m_World_do_steps : Meth K (He.ga K "World") "do_steps" (He.fAd K ("World", some "do_steps"))
  m_World_empty_slot : Meth K (He.ga K "World") "empty_slot" (He.fAd K ("World", some "empty_slot"))
  m_World_end : Meth K (He.ga K "World") "end" (He.fAd K ("World", some "end"))
  m_World_end_aside : Meth K (He.ga K "World") "end_aside" (He.fAd K ("World", some "end_aside"))
  m_World_forget : Meth K (He.ga K "World") "forget" (He.fAd K ("World", some "forget"))
  m_World_forget_lost : Meth K (He.ga K "World") "forget_lost" (He.fAd K ("World", some "forget_lost"))
  m_World_forget_weakly : Meth K (He.ga K "World") "forget_weakly" (He.fAd K ("World", some "forget_weakly"))
  m_World_gone : Meth K (He.ga K "World") "gone" (He.fAd K ("World", some "gone"))
  m_World_hold : Meth K (He.ga K "World") "hold" (He.fAd K ("World", some "hold"))
  m_World_keep : Meth K (He.ga K "World") "keep" (He.fAd K ("World", some "keep"))
  m_World_let_go : Meth K (He.ga K "World") "let_go" (He.fAd K ("World", some "let_go"))
  m_World_look_bound : Meth K (He.ga K "World") "look_bound" (He.fAd K ("World", some "look_bound"))
  m_World_look_name : Meth K (He.ga K "World") "look_name" (He.fAd K ("World", some "look_name"))
  m_World_look_row : Meth K (He.ga K "World") "look_row" (He.fAd K ("World", some "look_row"))
  m_World_look_slot : Meth K (He.ga K "World") "look_slot" (He.fAd K ("World", some "look_slot"))
  m_World_make : Meth K (He.ga K "World") "make" (He.fAd K ("World", some "make"))
  m_World_may_collect : Meth K (He.ga K "World") "may_collect" (He.fAd K ("World", some "may_collect"))
  m_World_may_track : Meth K (He.ga K "World") "may_track" (He.fAd K ("World", some "may_track"))
  m_World_new_thing : Meth K (He.ga K "World") "new_thing" (He.fAd K ("World", some "new_thing"))
  m_World_put : Meth K (He.ga K "World") "put" (He.fAd K ("World", some "put"))
  m_World_shift : Meth K (He.ga K "World") "shift" (He.fAd K ("World", some "shift"))
  m_World_sifted : Meth K (He.ga K "World") "sifted" (He.fAd K ("World", some "sifted"))
  m_World_targets_of : Meth K (He.ga K "World") "targets_of" (He.fAd K ("World", some "targets_of"))
  m_World_tour : Meth K (He.ga K "World") "tour" (He.fAd K ("World", some "tour"))
  m_World_track : Meth K (He.ga K "World") "track" (He.fAd K ("World", some "track"))
  m_World_unbind : Meth K (He.ga K "World") "unbind" (He.fAd K ("World", some "unbind"))
  m_World_untrack : Meth K (He.ga K "World") "untrack" (He.fAd K ("World", some "untrack"))
  m_World_unwatch : Meth K (He.ga K "World") "unwatch" (He.fAd K ("World", some "unwatch"))
  k_Arena : Mk K (He.ga K "Arena") (He.fAd K ("Arena", some "__init__"))
  k_Blocks : Mk K (He.ga K "Blocks") (He.fAd K ("Blocks", some "__init__"))
  k_Pool : Mk K (He.ga K "Pool") (He.fAd K ("Pool", some "__init__"))
  k_Thing : Mk K (He.ga K "Thing") (He.fAd K ("Thing", some "__init__"))
  k_World : Mk K (He.ga K "World") (He.fAd K ("World", some "__init__"))
  cf_Collecting : CFn K (He.ga K "Collecting") "__init__" (He.fAd K ("Collecting", some "__init__"))
  cf_Dying : CFn K (He.ga K "Dying") "__init__" (He.fAd K ("Dying", some "__init__"))
  cf_Things : CFn K (He.ga K "Things") "__init__" (He.fAd K ("Things", some "__init__"))
  hd_HEADS : HD K w (He.ga K "HEADS") hd_HEADS
  len_World : LenC K (He.ga K "World") (He.fAd K ("World", some "__len__"))
  d_Pool_init : FunD K "__init__" "Pool.__init__" (defArgs s_Pool_init) (defBody s_Pool_init) (defScope s_Pool_init) [] [] (He.fAd K ("Pool", some "__init__")) (fdAt K (He.fAd K ("Pool", some "__init__")))
  d_Pool_is_full : FunD K "is_full" "Pool.is_full" (defArgs s_Pool_is_full) (defBody s_Pool_is_full) (defScope s_Pool_is_full) [] [] (He.fAd K ("Pool", some "is_full")) (fdAt K (He.fAd K ("Pool", some "is_full")))
  d_Pool_draw : FunD K "draw" "Pool.draw" (defArgs s_Pool_draw) (defBody s_Pool_draw) (defScope s_Pool_draw) [] [] (He.fAd K ("Pool", some "draw")) (fdAt K (He.fAd K ("Pool", some "draw")))
  d_Pool_back : FunD K "back" "Pool.back" (defArgs s_Pool_back) (defBody s_Pool_back) (defScope s_Pool_back) [] [] (He.fAd K ("Pool", some "back")) (fdAt K (He.fAd K ("Pool", some "back")))
  d_Arena_init : FunD K "__init__" "Arena.__init__" (defArgs s_Arena_init) (defBody s_Arena_init) (defScope s_Arena_init) [] [] (He.fAd K ("Arena", some "__init__")) (fdAt K (He.fAd K ("Arena", some "__init__")))
  d_Arena_draw_pool : FunD K "draw_pool" "Arena.draw_pool" (defArgs s_Arena_draw_pool) (defBody s_Arena_draw_pool) (defScope s_Arena_draw_pool) [] [] (He.fAd K ("Arena", some "draw_pool")) (fdAt K (He.fAd K ("Arena", some "draw_pool")))
  d_Arena_back_pool : FunD K "back_pool" "Arena.back_pool" (defArgs s_Arena_back_pool) (defBody s_Arena_back_pool) (defScope s_Arena_back_pool) [] [] (He.fAd K ("Arena", some "back_pool")) (fdAt K (He.fAd K ("Arena", some "back_pool")))
  d_is_number : FunD K "is_number" "is_number" (defArgs s_is_number) (defBody s_is_number) (defScope s_is_number) [] [] (He.fAd K ("is_number", none)) (fdAt K (He.fAd K ("is_number", none)))
  d_look_number : FunD K "look_number" "look_number" (defArgs s_look_number) (defBody s_look_number) (defScope s_look_number) [] [] (He.fAd K ("look_number", none)) (fdAt K (He.fAd K ("look_number", none)))
  d_is_name : FunD K "is_name" "is_name" (defArgs s_is_name) (defBody s_is_name) (defScope s_is_name) [] [] (He.fAd K ("is_name", none)) (fdAt K (He.fAd K ("is_name", none)))
  d_is_pool_size : FunD K "is_pool_size" "is_pool_size" (defArgs s_is_pool_size) (defBody s_is_pool_size) (defScope s_is_pool_size) [] [] (He.fAd K ("is_pool_size", none)) (fdAt K (He.fAd K ("is_pool_size", none)))
  d_look_size : FunD K "look_size" "look_size" (defArgs s_look_size) (defBody s_look_size) (defScope s_look_size) [] [] (He.fAd K ("look_size", none)) (fdAt K (He.fAd K ("look_size", none)))
  d_kind_in : FunD K "kind_in" "kind_in" (defArgs s_kind_in) (defBody s_kind_in) (defScope s_kind_in) [] [] (He.fAd K ("kind_in", none)) (fdAt K (He.fAd K ("kind_in", none)))
  d_room_of : FunD K "room_of" "room_of" (defArgs s_room_of) (defBody s_room_of) (defScope s_room_of) [] [] (He.fAd K ("room_of", none)) (fdAt K (He.fAd K ("room_of", none)))
  d_blocks_in : FunD K "blocks_in" "blocks_in" (defArgs s_blocks_in) (defBody s_blocks_in) (defScope s_blocks_in) [] [] (He.fAd K ("blocks_in", none)) (fdAt K (He.fAd K ("blocks_in", none)))
  d_Blocks_init : FunD K "__init__" "Blocks.__init__" (defArgs s_Blocks_init) (defBody s_Blocks_init) (defScope s_Blocks_init) [] [("pool_bytes", .int (4096)), ("pool_count", .int (16))] (He.fAd K ("Blocks", some "__init__")) (fdAt K (He.fAd K ("Blocks", some "__init__")))
  d_Blocks_new_arena : FunD K "new_arena" "Blocks.new_arena" (defArgs s_Blocks_new_arena) (defBody s_Blocks_new_arena) (defScope s_Blocks_new_arena) [] [] (He.fAd K ("Blocks", some "new_arena")) (fdAt K (He.fAd K ("Blocks", some "new_arena")))
  d_Blocks_new_pool : FunD K "new_pool" "Blocks.new_pool" (defArgs s_Blocks_new_pool) (defBody s_Blocks_new_pool) (defScope s_Blocks_new_pool) [] [] (He.fAd K ("Blocks", some "new_pool")) (fdAt K (He.fAd K ("Blocks", some "new_pool")))
  d_Blocks_take : FunD K "take" "Blocks.take" (defArgs s_Blocks_take) (defBody s_Blocks_take) (defScope s_Blocks_take) [] [] (He.fAd K ("Blocks", some "take")) (fdAt K (He.fAd K ("Blocks", some "take")))
  d_Blocks_give : FunD K "give" "Blocks.give" (defArgs s_Blocks_give) (defBody s_Blocks_give) (defScope s_Blocks_give) [] [] (He.fAd K ("Blocks", some "give")) (fdAt K (He.fAd K ("Blocks", some "give")))
  d_Blocks_give_small : FunD K "give_small" "Blocks.give_small" (defArgs s_Blocks_give_small) (defBody s_Blocks_give_small) (defScope s_Blocks_give_small) [] [] (He.fAd K ("Blocks", some "give_small")) (fdAt K (He.fAd K ("Blocks", some "give_small")))
  d_Blocks_settle : FunD K "settle" "Blocks.settle" (defArgs s_Blocks_settle) (defBody s_Blocks_settle) (defScope s_Blocks_settle) [] [] (He.fAd K ("Blocks", some "settle")) (fdAt K (He.fAd K ("Blocks", some "settle")))
  d_is_place : FunD K "is_place" "is_place" (defArgs s_is_place) (defBody s_is_place) (defScope s_is_place) [] [] (He.fAd K ("is_place", none)) (fdAt K (He.fAd K ("is_place", none)))
  d_left_over : FunD K "left_over" "left_over" (defArgs s_left_over) (defBody s_left_over) (defScope s_left_over) [] [] (He.fAd K ("left_over", none)) (fdAt K (He.fAd K ("left_over", none)))
  d_sift : FunD K "sift" "sift" (defArgs s_sift) (defBody s_sift) (defScope s_sift) [] [] (He.fAd K ("sift", none)) (fdAt K (He.fAd K ("sift", none)))
  d_Thing_init : FunD K "__init__" "Thing.__init__" (defArgs s_Thing_init) (defBody s_Thing_init) (defScope s_Thing_init) [] [] (He.fAd K ("Thing", some "__init__")) (fdAt K (He.fAd K ("Thing", some "__init__")))
  d_Things_init : FunD K "__init__" "Things.__init__" (defArgs s_Things_init) (defBody s_Things_init) (defScope s_Things_init) [] [] (He.fAd K ("Things", some "__init__")) (fdAt K (He.fAd K ("Things", some "__init__")))
  d_Things_track : FunD K "track" "Things.track" (defArgs s_Things_track) (defBody s_Things_track) (defScope s_Things_track) [.int (0)] [] (He.fAd K ("World", some "track")) (fdAt K (He.fAd K ("World", some "track")))
  d_Things_untrack : FunD K "untrack" "Things.untrack" (defArgs s_Things_untrack) (defBody s_Things_untrack) (defScope s_Things_untrack) [] [] (He.fAd K ("World", some "untrack")) (fdAt K (He.fAd K ("World", some "untrack")))
  d_Things_shift : FunD K "shift" "Things.shift" (defArgs s_Things_shift) (defBody s_Things_shift) (defScope s_Things_shift) [] [] (He.fAd K ("World", some "shift")) (fdAt K (He.fAd K ("World", some "shift")))
  d_Things_new_thing : FunD K "new_thing" "Things.new_thing" (defArgs s_Things_new_thing) (defBody s_Things_new_thing) (defScope s_Things_new_thing) [] [] (He.fAd K ("World", some "new_thing")) (fdAt K (He.fAd K ("World", some "new_thing")))
  d_Things_look_bound : FunD K "look_bound" "Things.look_bound" (defArgs s_Things_look_bound) (defBody s_Things_look_bound) (defScope s_Things_look_bound) [] [] (He.fAd K ("World", some "look_bound")) (fdAt K (He.fAd K ("World", some "look_bound")))
  d_Things_targets_of : FunD K "targets_of" "Things.targets_of" (defArgs s_Things_targets_of) (defBody s_Things_targets_of) (defScope s_Things_targets_of) [] [] (He.fAd K ("World", some "targets_of")) (fdAt K (He.fAd K ("World", some "targets_of")))
  d_Things_sifted : FunD K "sifted" "Things.sifted" (defArgs s_Things_sifted) (defBody s_Things_sifted) (defScope s_Things_sifted) [] [] (He.fAd K ("World", some "sifted")) (fdAt K (He.fAd K ("World", some "sifted")))
  d_Dying_init : FunD K "__init__" "Dying.__init__" (defArgs s_Dying_init) (defBody s_Dying_init) (defScope s_Dying_init) [] [] (He.fAd K ("Dying", some "__init__")) (fdAt K (He.fAd K ("Dying", some "__init__")))
  d_Dying_hold : FunD K "hold" "Dying.hold" (defArgs s_Dying_hold) (defBody s_Dying_hold) (defScope s_Dying_hold) [] [] (He.fAd K ("World", some "hold")) (fdAt K (He.fAd K ("World", some "hold")))
  d_Dying_let_go : FunD K "let_go" "Dying.let_go" (defArgs s_Dying_let_go) (defBody s_Dying_let_go) (defScope s_Dying_let_go) [] [] (He.fAd K ("World", some "let_go")) (fdAt K (He.fAd K ("World", some "let_go")))
  d_Dying_bind : FunD K "bind" "Dying.bind" (defArgs s_Dying_bind) (defBody s_Dying_bind) (defScope s_Dying_bind) [] [] (He.fAd K ("World", some "bind")) (fdAt K (He.fAd K ("World", some "bind")))
  d_Dying_unbind : FunD K "unbind" "Dying.unbind" (defArgs s_Dying_unbind) (defBody s_Dying_unbind) (defScope s_Dying_unbind) [] [] (He.fAd K ("World", some "unbind")) (fdAt K (He.fAd K ("World", some "unbind")))
  d_Dying_empty_slot : FunD K "empty_slot" "Dying.empty_slot" (defArgs s_Dying_empty_slot) (defBody s_Dying_empty_slot) (defScope s_Dying_empty_slot) [] [] (He.fAd K ("World", some "empty_slot")) (fdAt K (He.fAd K ("World", some "empty_slot")))
  d_Dying_die : FunD K "die" "Dying.die" (defArgs s_Dying_die) (defBody s_Dying_die) (defScope s_Dying_die) [] [] (He.fAd K ("World", some "die")) (fdAt K (He.fAd K ("World", some "die")))
  d_Dying_end_aside : FunD K "end_aside" "Dying.end_aside" (defArgs s_Dying_end_aside) (defBody s_Dying_end_aside) (defScope s_Dying_end_aside) [] [] (He.fAd K ("World", some "end_aside")) (fdAt K (He.fAd K ("World", some "end_aside")))
  d_Dying_end : FunD K "end" "Dying.end" (defArgs s_Dying_end) (defBody s_Dying_end) (defScope s_Dying_end) [] [] (He.fAd K ("World", some "end")) (fdAt K (He.fAd K ("World", some "end")))
  d_Dying_gone : FunD K "gone" "Dying.gone" (defArgs s_Dying_gone) (defBody s_Dying_gone) (defScope s_Dying_gone) [] [] (He.fAd K ("World", some "gone")) (fdAt K (He.fAd K ("World", some "gone")))
  d_Dying_ask_last : FunD K "ask_last" "Dying.ask_last" (defArgs s_Dying_ask_last) (defBody s_Dying_ask_last) (defScope s_Dying_ask_last) [] [] (He.fAd K ("World", some "ask_last")) (fdAt K (He.fAd K ("World", some "ask_last")))
  d_Dying_do_steps : FunD K "do_steps" "Dying.do_steps" (defArgs s_Dying_do_steps) (defBody s_Dying_do_steps) (defScope s_Dying_do_steps) [] [] (He.fAd K ("World", some "do_steps")) (fdAt K (He.fAd K ("World", some "do_steps")))
  d_Dying_do_step : FunD K "do_step" "Dying.do_step" (defArgs s_Dying_do_step) (defBody s_Dying_do_step) (defScope s_Dying_do_step) [] [] (He.fAd K ("World", some "do_step")) (fdAt K (He.fAd K ("World", some "do_step")))
  d_Dying_unwatch : FunD K "unwatch" "Dying.unwatch" (defArgs s_Dying_unwatch) (defBody s_Dying_unwatch) (defScope s_Dying_unwatch) [] [] (He.fAd K ("World", some "unwatch")) (fdAt K (He.fAd K ("World", some "unwatch")))
  d_Dying_call : FunD K "call" "Dying.call" (defArgs s_Dying_call) (defBody s_Dying_call) (defScope s_Dying_call) [] [] (He.fAd K ("World", some "call")) (fdAt K (He.fAd K ("World", some "call")))
  d_Dying_call_all : FunD K "call_all" "Dying.call_all" (defArgs s_Dying_call_all) (defBody s_Dying_call_all) (defScope s_Dying_call_all) [] [] (He.fAd K ("World", some "call_all")) (fdAt K (He.fAd K ("World", some "call_all")))
  d_Dying_forget_weakly : FunD K "forget_weakly" "Dying.forget_weakly" (defArgs s_Dying_forget_weakly) (defBody s_Dying_forget_weakly) (defScope s_Dying_forget_weakly) [] [] (He.fAd K ("World", some "forget_weakly")) (fdAt K (He.fAd K ("World", some "forget_weakly")))
  d_Collecting_init : FunD K "__init__" "Collecting.__init__" (defArgs s_Collecting_init) (defBody s_Collecting_init) (defScope s_Collecting_init) [] [] (He.fAd K ("Collecting", some "__init__")) (fdAt K (He.fAd K ("Collecting", some "__init__")))
  d_Collecting_collect_within : FunD K "collect_within" "Collecting.collect_within" (defArgs s_Collecting_collect_within) (defBody s_Collecting_collect_within) (defScope s_Collecting_collect_within) [] [] (He.fAd K ("World", some "collect_within")) (fdAt K (He.fAd K ("World", some "collect_within")))
  d_Collecting_collect_at : FunD K "collect_at" "Collecting.collect_at" (defArgs s_Collecting_collect_at) (defBody s_Collecting_collect_at) (defScope s_Collecting_collect_at) [] [] (He.fAd K ("World", some "collect_at")) (fdAt K (He.fAd K ("World", some "collect_at")))
  d_Collecting_tour : FunD K "tour" "Collecting.tour" (defArgs s_Collecting_tour) (defBody s_Collecting_tour) (defScope s_Collecting_tour) [] [] (He.fAd K ("World", some "tour")) (fdAt K (He.fAd K ("World", some "tour")))
  d_Collecting_may_track : FunD K "may_track" "Collecting.may_track" (defArgs s_Collecting_may_track) (defBody s_Collecting_may_track) (defScope s_Collecting_may_track) [] [] (He.fAd K ("World", some "may_track")) (fdAt K (He.fAd K ("World", some "may_track")))
  d_Collecting_keep : FunD K "keep" "Collecting.keep" (defArgs s_Collecting_keep) (defBody s_Collecting_keep) (defScope s_Collecting_keep) [] [] (He.fAd K ("World", some "keep")) (fdAt K (He.fAd K ("World", some "keep")))
  d_Collecting_forget_lost : FunD K "forget_lost" "Collecting.forget_lost" (defArgs s_Collecting_forget_lost) (defBody s_Collecting_forget_lost) (defScope s_Collecting_forget_lost) [] [] (He.fAd K ("World", some "forget_lost")) (fdAt K (He.fAd K ("World", some "forget_lost")))
  d_Collecting_ask_lost : FunD K "ask_lost" "Collecting.ask_lost" (defArgs s_Collecting_ask_lost) (defBody s_Collecting_ask_lost) (defScope s_Collecting_ask_lost) [] [] (He.fAd K ("World", some "ask_lost")) (fdAt K (He.fAd K ("World", some "ask_lost")))
  d_Collecting_break_up : FunD K "break_up" "Collecting.break_up" (defArgs s_Collecting_break_up) (defBody s_Collecting_break_up) (defScope s_Collecting_break_up) [] [] (He.fAd K ("World", some "break_up")) (fdAt K (He.fAd K ("World", some "break_up")))
  d_Collecting_may_collect : FunD K "may_collect" "Collecting.may_collect" (defArgs s_Collecting_may_collect) (defBody s_Collecting_may_collect) (defScope s_Collecting_may_collect) [] [] (He.fAd K ("World", some "may_collect")) (fdAt K (He.fAd K ("World", some "may_collect")))
  d_Collecting_count_new : FunD K "count_new" "Collecting.count_new" (defArgs s_Collecting_count_new) (defBody s_Collecting_count_new) (defScope s_Collecting_count_new) [] [] (He.fAd K ("World", some "count_new")) (fdAt K (He.fAd K ("World", some "count_new")))
  d_is_step : FunD K "is_step" "is_step" (defArgs s_is_step) (defBody s_is_step) (defScope s_is_step) [] [] (He.fAd K ("is_step", none)) (fdAt K (He.fAd K ("is_step", none)))
  d_are_steps : FunD K "are_steps" "are_steps" (defArgs s_are_steps) (defBody s_are_steps) (defScope s_are_steps) [] [] (He.fAd K ("are_steps", none)) (fdAt K (He.fAd K ("are_steps", none)))
  d_look_steps : FunD K "look_steps" "look_steps" (defArgs s_look_steps) (defBody s_look_steps) (defScope s_look_steps) [] [] (He.fAd K ("look_steps", none)) (fdAt K (He.fAd K ("look_steps", none)))
  d_World_init : FunD K "__init__" "World.__init__" (defArgs s_World_init) (defBody s_World_init) (defScope s_World_init) [] [("pool_bytes", .int (4096)), ("pool_count", .int (16)), ("nesting", .int (50))] (He.fAd K ("World", some "__init__")) (fdAt K (He.fAd K ("World", some "__init__")))
  d_World_len : FunD K "__len__" "World.__len__" (defArgs s_World_len) (defBody s_World_len) (defScope s_World_len) [] [] (He.fAd K ("World", some "__len__")) (fdAt K (He.fAd K ("World", some "__len__")))
  d_World_look_name : FunD K "look_name" "World.look_name" (defArgs s_World_look_name) (defBody s_World_look_name) (defScope s_World_look_name) [] [] (He.fAd K ("World", some "look_name")) (fdAt K (He.fAd K ("World", some "look_name")))
  d_World_make : FunD K "make" "World.make" (defArgs s_World_make) (defBody s_World_make) (defScope s_World_make) [] [("holding", .ref (kwAt K (fAd K ("World", some "make")) "holding")), ("stepping", .ref (kwAt K (fAd K ("World", some "make")) "stepping")), ("extra", .int (0))] (He.fAd K ("World", some "make")) (fdAt K (He.fAd K ("World", some "make")))
  d_World_forget : FunD K "forget" "World.forget" (defArgs s_World_forget) (defBody s_World_forget) (defScope s_World_forget) [] [] (He.fAd K ("World", some "forget")) (fdAt K (He.fAd K ("World", some "forget")))
  d_World_look_row : FunD K "look_row" "World.look_row" (defArgs s_World_look_row) (defBody s_World_look_row) (defScope s_World_look_row) [] [] (He.fAd K ("World", some "look_row")) (fdAt K (He.fAd K ("World", some "look_row")))
  d_World_look_slot : FunD K "look_slot" "World.look_slot" (defArgs s_World_look_slot) (defBody s_World_look_slot) (defScope s_World_look_slot) [] [] (He.fAd K ("World", some "look_slot")) (fdAt K (He.fAd K ("World", some "look_slot")))
  d_World_put : FunD K "put" "World.put" (defArgs s_World_put) (defBody s_World_put) (defScope s_World_put) [] [] (He.fAd K ("World", some "put")) (fdAt K (He.fAd K ("World", some "put")))
  d_World_collect : FunD K "collect" "World.collect" (defArgs s_World_collect) (defBody s_World_collect) (defScope s_World_collect) [.int (2)] [] (He.fAd K ("World", some "collect")) (fdAt K (He.fAd K ("World", some "collect")))
  d_called : FunD K "called" "called" (defArgs s_called) (defBody s_called) (defScope s_called) [] [] (He.fAd K ("called", none)) (fdAt K (He.fAd K ("called", none)))
  d_past : FunD K "past" "past" (defArgs s_past) (defBody s_past) (defScope s_past) [] [] (He.fAd K ("past", none)) (fdAt K (He.fAd K ("past", none)))
  d_law_pick : FunD K "_law_pick" "_law_pick" (defArgs s_law_pick) (defBody s_law_pick) (defScope s_law_pick) [] [] (He.fAd K ("_law_pick", none)) (fdAt K (He.fAd K ("_law_pick", none)))
  d_law_fell : FunD K "_law_fell" "_law_fell" (defArgs s_law_fell) (defBody s_law_fell) (defScope s_law_fell) [] [] (He.fAd K ("_law_fell", none)) (fdAt K (He.fAd K ("_law_fell", none)))
  d_law_let : FunD K "_law_let" "_law_let" (defArgs s_law_let) (defBody s_law_let) (defScope s_law_let) [] [] (He.fAd K ("_law_let", none)) (fdAt K (He.fAd K ("_law_let", none)))
  d_law : FunD K "law" "law" (defArgs s_law) (defBody s_law) (defScope s_law) [] [] (He.fAd K ("law", none)) (fdAt K (He.fAd K ("law", none)))
section
variable {P : Program} {w : World} {K : PySem.W.Frag} {mg : Str → Option Value} {base : Heap} {scr : Addr} {ns : List Int}
theorem ims_int {G : Cfg} {ρ : Nat → Addr} {i : Int} {l : List MV} {r : List V} (h : ims G ρ l = r) : ims G ρ (.int i :: l) = .int i :: r := by rw [← h]; rfl
theorem ims_ref {G : Cfg} {ρ : Nat → Addr} {n : Nat} {l : List MV} {r : List V} (h0 : ∀ n, n < G.n0 → ρ n = G.ra n) (hn : n < G.n0) (h : ims G ρ l = r) : ims G ρ (.ref n :: l) = .ref (G.ra n) :: r := by rw [← h, ← h0 n hn]; rfl
theorem sh_Pool_init_0 (T : TX K mg w scr ns) : Sh K (Gv K scr ns) (fdAt K (He.fAd K ("Pool", some "__init__"))) ["self", "kind", "most"] 3 [] (fun a _ => a) := sh_all T.d_Pool_init rfl fun _ _ _ _ _ _ us hl => match us, hl with | [_, _, _], _ => rfl
theorem sh_is_number_0 (T : TX K mg w scr ns) : Sh K (Gv K scr ns) (fdAt K (He.fAd K ("is_number", none))) ["thing", "least", "most"] 3 [] (fun a _ => a) := sh_all T.d_is_number rfl fun _ _ _ _ _ _ us hl => match us, hl with | [_, _, _], _ => rfl
theorem sh_look_number_0 (T : TX K mg w scr ns) : Sh K (Gv K scr ns) (fdAt K (He.fAd K ("look_number", none))) ["thing", "least", "most"] 3 [] (fun a _ => a) := sh_all T.d_look_number rfl fun _ _ _ _ _ _ us hl => match us, hl with | [_, _, _], _ => rfl
theorem sh_room_of_0 (T : TX K mg w scr ns) : Sh K (Gv K scr ns) (fdAt K (He.fAd K ("room_of", none))) ["kind"] 1 [] (fun a _ => a) := sh_all T.d_room_of rfl fun _ _ _ _ _ _ us hl => match us, hl with | [_], _ => rfl
theorem sh_is_pool_size_0 (T : TX K mg w scr ns) : Sh K (Gv K scr ns) (fdAt K (He.fAd K ("is_pool_size", none))) ["thing"] 1 [] (fun a _ => a) := sh_all T.d_is_pool_size rfl fun _ _ _ _ _ _ us hl => match us, hl with | [_], _ => rfl
theorem sh_Arena_init_0 (T : TX K mg w scr ns) : Sh K (Gv K scr ns) (fdAt K (He.fAd K ("Arena", some "__init__"))) ["self", "pools"] 2 [] (fun a _ => a) := sh_all T.d_Arena_init rfl fun _ _ _ _ _ _ us hl => match us, hl with | [_, _], _ => rfl
theorem sh_Arena_draw_pool_0 (T : TX K mg w scr ns) : Sh K (Gv K scr ns) (fdAt K (He.fAd K ("Arena", some "draw_pool"))) ["self", "kind", "most"] 3 [] (fun a _ => a) := sh_all T.d_Arena_draw_pool rfl fun _ _ _ _ _ _ us hl => match us, hl with | [_, _, _], _ => rfl
theorem sh_blocks_in_0 (T : TX K mg w scr ns) : Sh K (Gv K scr ns) (fdAt K (He.fAd K ("blocks_in", none))) ["pool_size", "kind"] 2 [] (fun a _ => a) := sh_all T.d_blocks_in rfl fun _ _ _ _ _ _ us hl => match us, hl with | [_, _], _ => rfl
theorem sh_Blocks_new_arena_0 (T : TX K mg w scr ns) : Sh K (Gv K scr ns) (fdAt K (He.fAd K ("Blocks", some "new_arena"))) ["self"] 1 [] (fun a _ => a) := sh_all T.d_Blocks_new_arena rfl fun _ _ _ _ _ _ us hl => match us, hl with | [_], _ => rfl
theorem sh_Pool_is_full_0 (T : TX K mg w scr ns) : Sh K (Gv K scr ns) (fdAt K (He.fAd K ("Pool", some "is_full"))) ["self"] 1 [] (fun a _ => a) := sh_all T.d_Pool_is_full rfl fun _ _ _ _ _ _ us hl => match us, hl with | [_], _ => rfl
theorem sh_Pool_draw_0 (T : TX K mg w scr ns) : Sh K (Gv K scr ns) (fdAt K (He.fAd K ("Pool", some "draw"))) ["self"] 1 [] (fun a _ => a) := sh_all T.d_Pool_draw rfl fun _ _ _ _ _ _ us hl => match us, hl with | [_], _ => rfl
theorem sh_Blocks_new_pool_0 (T : TX K mg w scr ns) : Sh K (Gv K scr ns) (fdAt K (He.fAd K ("Blocks", some "new_pool"))) ["self", "kind"] 2 [] (fun a _ => a) := sh_all T.d_Blocks_new_pool rfl fun _ _ _ _ _ _ us hl => match us, hl with | [_, _], _ => rfl
theorem sh_kind_in_0 (T : TX K mg w scr ns) : Sh K (Gv K scr ns) (fdAt K (He.fAd K ("kind_in", none))) ["size"] 1 [] (fun a _ => a) := sh_all T.d_kind_in rfl fun _ _ _ _ _ _ us hl => match us, hl with | [_], _ => rfl
theorem sh_look_size_0 (T : TX K mg w scr ns) : Sh K (Gv K scr ns) (fdAt K (He.fAd K ("look_size", none))) ["size"] 1 [] (fun a _ => a) := sh_all T.d_look_size rfl fun _ _ _ _ _ _ us hl => match us, hl with | [_], _ => rfl
theorem sh_Blocks_give_small_0 (T : TX K mg w scr ns) : Sh K (Gv K scr ns) (fdAt K (He.fAd K ("Blocks", some "give_small"))) ["self", "place"] 2 [] (fun a _ => a) := sh_all T.d_Blocks_give_small rfl fun _ _ _ _ _ _ us hl => match us, hl with | [_, _], _ => rfl
theorem sh_is_place_0 (T : TX K mg w scr ns) : Sh K (Gv K scr ns) (fdAt K (He.fAd K ("is_place", none))) ["thing"] 1 [] (fun a _ => a) := sh_all T.d_is_place rfl fun _ _ _ _ _ _ us hl => match us, hl with | [_], _ => rfl
theorem sh_Blocks_settle_0 (T : TX K mg w scr ns) : Sh K (Gv K scr ns) (fdAt K (He.fAd K ("Blocks", some "settle"))) ["self", "at", "left"] 3 [] (fun a _ => a) := sh_all T.d_Blocks_settle rfl fun _ _ _ _ _ _ us hl => match us, hl with | [_, _, _], _ => rfl
theorem sh_Arena_back_pool_0 (T : TX K mg w scr ns) : Sh K (Gv K scr ns) (fdAt K (He.fAd K ("Arena", some "back_pool"))) ["self", "at"] 2 [] (fun a _ => a) := sh_all T.d_Arena_back_pool rfl fun _ _ _ _ _ _ us hl => match us, hl with | [_, _], _ => rfl
theorem sh_Pool_back_0 (T : TX K mg w scr ns) : Sh K (Gv K scr ns) (fdAt K (He.fAd K ("Pool", some "back"))) ["self", "block"] 2 [] (fun a _ => a) := sh_all T.d_Pool_back rfl fun _ _ _ _ _ _ us hl => match us, hl with | [_, _], _ => rfl
theorem sh_left_over_0 (T : TX K mg w scr ns) : Sh K (Gv K scr ns) (fdAt K (He.fAd K ("left_over", none))) ["order", "counts", "targets"] 3 [] (fun a _ => a) := sh_all T.d_left_over rfl fun _ _ _ _ _ _ us hl => match us, hl with | [_, _, _], _ => rfl
theorem sh_Blocks_init_0 (T : TX K mg w scr ns) : Sh K (Gv K scr ns) (fdAt K (He.fAd K ("Blocks", some "__init__"))) ["self", "pool_bytes", "pool_count"] 1 ["pool_bytes", "pool_count"] (fun a b => a ++ b ++ []) := sh_kwd T.d_Blocks_init [] (List.cons_ne_nil _ _) (by simp) (fun _ _ _ _ _ _ us mv ws hu hm hw => match us, mv, ws, hu, hm, hw with | [_], [], [_, _], _, _, _ => by (repeat' first | exact rfl | refine ⟨_, _, _, _, _, _, rfl, rfl, ?_⟩)) (fun ρ h => rfl) (fun _ _ _ h => absurd h List.not_mem_nil)
theorem sh_Things_track_0 (T : TX K mg w scr ns) : Sh K (Gv K scr ns) (fdAt K (He.fAd K ("World", some "track"))) ["self", "number", "place"] 3 [] (fun a _ => a) := sh_dflA T.d_Things_track 1 (List.cons_ne_nil _ _) rfl rfl (fun _ _ _ _ _ _ _ us its hu hi => match us, its, hu, hi with | [_, _, _], [_], _, _ => ⟨_, rfl, rfl⟩)
theorem sh_Things_untrack_0 (T : TX K mg w scr ns) : Sh K (Gv K scr ns) (fdAt K (He.fAd K ("World", some "untrack"))) ["self", "number"] 2 [] (fun a _ => a) := sh_all T.d_Things_untrack rfl fun _ _ _ _ _ _ us hl => match us, hl with | [_, _], _ => rfl
theorem sh_Things_track_1 (T : TX K mg w scr ns) : Sh K (Gv K scr ns) (fdAt K (He.fAd K ("World", some "track"))) ["self", "number", "place"] 2 [] (fun a _ => a ++ [.int (0)]) := sh_dfl (d := [.int (0)]) (dvs := [.int (0)]) T.d_Things_track 0 (List.cons_ne_nil _ _) rfl (fun _ _ _ _ _ _ _ us its hu hi => match us, its, hu, hi with | [_, _], [_], _, _ => ⟨_, rfl, rfl⟩) (fun ρ h => (ims_int rfl)) (fun nx h => by intro v hv; simp only [List.mem_cons, List.not_mem_nil, or_false] at hv; have h : 4 ≤ nx := h; rcases hv with rfl <;> first | trivial | (show _ < nx; omega))
theorem sh_Thing_init_0 (T : TX K mg w scr ns) : Sh K (Gv K scr ns) (fdAt K (He.fAd K ("Thing", some "__init__"))) ["self", "form", "slots", "steps", "lies"] 5 [] (fun a _ => a) := sh_all T.d_Thing_init rfl fun _ _ _ _ _ _ us hl => match us, hl with | [_, _, _, _, _], _ => rfl
theorem sh_Blocks_take_0 (T : TX K mg w scr ns) : Sh K (Gv K scr ns) (fdAt K (He.fAd K ("Blocks", some "take"))) ["self", "size"] 2 [] (fun a _ => a) := sh_all T.d_Blocks_take rfl fun _ _ _ _ _ _ us hl => match us, hl with | [_, _], _ => rfl
theorem sh_is_name_0 (T : TX K mg w scr ns) : Sh K (Gv K scr ns) (fdAt K (He.fAd K ("is_name", none))) ["thing"] 1 [] (fun a _ => a) := sh_all T.d_is_name rfl fun _ _ _ _ _ _ us hl => match us, hl with | [_], _ => rfl
theorem sh_sift_0 (T : TX K mg w scr ns) : Sh K (Gv K scr ns) (fdAt K (He.fAd K ("sift", none))) ["order", "counts", "targets"] 3 [] (fun a _ => a) := sh_all T.d_sift rfl fun _ _ _ _ _ _ us hl => match us, hl with | [_, _, _], _ => rfl
theorem sh_Things_targets_of_0 (T : TX K mg w scr ns) : Sh K (Gv K scr ns) (fdAt K (He.fAd K ("World", some "targets_of"))) ["self", "numbers"] 2 [] (fun a _ => a) := sh_all T.d_Things_targets_of rfl fun _ _ _ _ _ _ us hl => match us, hl with | [_, _], _ => rfl
theorem sh_Things_init_0 (T : TX K mg w scr ns) : Sh K (Gv K scr ns) (fdAt K (He.fAd K ("Things", some "__init__"))) ["self", "pool_bytes", "pool_count"] 1 ["pool_bytes", "pool_count"] (fun a b => a ++ b) := sh_kwall T.d_Things_init fun _ _ _ _ _ _ us ws hu hw => match us, ws, hu, hw with | [_], [_, _], _, _ => rfl
theorem sh_Dying_die_0 (T : TX K mg w scr ns) : Sh K (Gv K scr ns) (fdAt K (He.fAd K ("World", some "die"))) ["self", "number"] 2 [] (fun a _ => a) := sh_all T.d_Dying_die rfl fun _ _ _ _ _ _ us hl => match us, hl with | [_, _], _ => rfl
theorem sh_Dying_let_go_0 (T : TX K mg w scr ns) : Sh K (Gv K scr ns) (fdAt K (He.fAd K ("World", some "let_go"))) ["self", "number"] 2 [] (fun a _ => a) := sh_all T.d_Dying_let_go rfl fun _ _ _ _ _ _ us hl => match us, hl with | [_, _], _ => rfl
theorem sh_Dying_hold_0 (T : TX K mg w scr ns) : Sh K (Gv K scr ns) (fdAt K (He.fAd K ("World", some "hold"))) ["self", "number"] 2 [] (fun a _ => a) := sh_all T.d_Dying_hold rfl fun _ _ _ _ _ _ us hl => match us, hl with | [_, _], _ => rfl
theorem sh_Dying_end_0 (T : TX K mg w scr ns) : Sh K (Gv K scr ns) (fdAt K (He.fAd K ("World", some "end"))) ["self", "number"] 2 [] (fun a _ => a) := sh_all T.d_Dying_end rfl fun _ _ _ _ _ _ us hl => match us, hl with | [_, _], _ => rfl
theorem sh_Dying_end_aside_0 (T : TX K mg w scr ns) : Sh K (Gv K scr ns) (fdAt K (He.fAd K ("World", some "end_aside"))) ["self"] 1 [] (fun a _ => a) := sh_all T.d_Dying_end_aside rfl fun _ _ _ _ _ _ us hl => match us, hl with | [_], _ => rfl
theorem sh_Dying_gone_0 (T : TX K mg w scr ns) : Sh K (Gv K scr ns) (fdAt K (He.fAd K ("World", some "gone"))) ["self", "number"] 2 [] (fun a _ => a) := sh_all T.d_Dying_gone rfl fun _ _ _ _ _ _ us hl => match us, hl with | [_, _], _ => rfl
theorem sh_Dying_empty_slot_0 (T : TX K mg w scr ns) : Sh K (Gv K scr ns) (fdAt K (He.fAd K ("World", some "empty_slot"))) ["self", "number", "at"] 3 [] (fun a _ => a) := sh_all T.d_Dying_empty_slot rfl fun _ _ _ _ _ _ us hl => match us, hl with | [_, _, _], _ => rfl
theorem sh_Dying_forget_weakly_0 (T : TX K mg w scr ns) : Sh K (Gv K scr ns) (fdAt K (He.fAd K ("World", some "forget_weakly"))) ["self", "number"] 2 [] (fun a _ => a) := sh_all T.d_Dying_forget_weakly rfl fun _ _ _ _ _ _ us hl => match us, hl with | [_, _], _ => rfl
theorem sh_Dying_ask_last_0 (T : TX K mg w scr ns) : Sh K (Gv K scr ns) (fdAt K (He.fAd K ("World", some "ask_last"))) ["self", "number"] 2 [] (fun a _ => a) := sh_all T.d_Dying_ask_last rfl fun _ _ _ _ _ _ us hl => match us, hl with | [_, _], _ => rfl
theorem sh_Blocks_give_0 (T : TX K mg w scr ns) : Sh K (Gv K scr ns) (fdAt K (He.fAd K ("Blocks", some "give"))) ["self", "place"] 2 [] (fun a _ => a) := sh_all T.d_Blocks_give rfl fun _ _ _ _ _ _ us hl => match us, hl with | [_, _], _ => rfl
theorem sh_Dying_do_steps_0 (T : TX K mg w scr ns) : Sh K (Gv K scr ns) (fdAt K (He.fAd K ("World", some "do_steps"))) ["self", "number"] 2 [] (fun a _ => a) := sh_all T.d_Dying_do_steps rfl fun _ _ _ _ _ _ us hl => match us, hl with | [_, _], _ => rfl
theorem sh_Collecting_collect_within_0 (T : TX K mg w scr ns) : Sh K (Gv K scr ns) (fdAt K (He.fAd K ("World", some "collect_within"))) ["self"] 1 [] (fun a _ => a) := sh_all T.d_Collecting_collect_within rfl fun _ _ _ _ _ _ us hl => match us, hl with | [_], _ => rfl
theorem sh_Dying_bind_0 (T : TX K mg w scr ns) : Sh K (Gv K scr ns) (fdAt K (He.fAd K ("World", some "bind"))) ["self", "name", "number"] 3 [] (fun a _ => a) := sh_all T.d_Dying_bind rfl fun _ _ _ _ _ _ us hl => match us, hl with | [_, _, _], _ => rfl
theorem sh_Dying_unbind_0 (T : TX K mg w scr ns) : Sh K (Gv K scr ns) (fdAt K (He.fAd K ("World", some "unbind"))) ["self", "name"] 2 [] (fun a _ => a) := sh_all T.d_Dying_unbind rfl fun _ _ _ _ _ _ us hl => match us, hl with | [_, _], _ => rfl
theorem sh_Dying_call_0 (T : TX K mg w scr ns) : Sh K (Gv K scr ns) (fdAt K (He.fAd K ("World", some "call"))) ["self", "weak"] 2 [] (fun a _ => a) := sh_all T.d_Dying_call rfl fun _ _ _ _ _ _ us hl => match us, hl with | [_, _], _ => rfl
theorem sh_Dying_call_all_0 (T : TX K mg w scr ns) : Sh K (Gv K scr ns) (fdAt K (He.fAd K ("World", some "call_all"))) ["self", "weaks"] 2 [] (fun a _ => a) := sh_all T.d_Dying_call_all rfl fun _ _ _ _ _ _ us hl => match us, hl with | [_, _], _ => rfl
theorem sh_Dying_unwatch_0 (T : TX K mg w scr ns) : Sh K (Gv K scr ns) (fdAt K (He.fAd K ("World", some "unwatch"))) ["self", "number"] 2 [] (fun a _ => a) := sh_all T.d_Dying_unwatch rfl fun _ _ _ _ _ _ us hl => match us, hl with | [_, _], _ => rfl
theorem sh_Dying_init_0 (T : TX K mg w scr ns) : Sh K (Gv K scr ns) (fdAt K (He.fAd K ("Dying", some "__init__"))) ["self", "pool_bytes", "pool_count", "nesting"] 1 ["pool_bytes", "pool_count", "nesting"] (fun a b => a ++ b) := sh_kwall T.d_Dying_init fun _ _ _ _ _ _ us ws hu hw => match us, ws, hu, hw with | [_], [_, _, _], _, _ => rfl
theorem sh_Collecting_collect_at_0 (T : TX K mg w scr ns) : Sh K (Gv K scr ns) (fdAt K (He.fAd K ("World", some "collect_at"))) ["self", "place"] 2 [] (fun a _ => a) := sh_all T.d_Collecting_collect_at rfl fun _ _ _ _ _ _ us hl => match us, hl with | [_, _], _ => rfl
theorem sh_Collecting_tour_0 (T : TX K mg w scr ns) : Sh K (Gv K scr ns) (fdAt K (He.fAd K ("World", some "tour"))) ["self", "place"] 2 [] (fun a _ => a) := sh_all T.d_Collecting_tour rfl fun _ _ _ _ _ _ us hl => match us, hl with | [_, _], _ => rfl
theorem sh_Collecting_break_up_0 (T : TX K mg w scr ns) : Sh K (Gv K scr ns) (fdAt K (He.fAd K ("World", some "break_up"))) ["self", "older"] 2 [] (fun a _ => a) := sh_all T.d_Collecting_break_up rfl fun _ _ _ _ _ _ us hl => match us, hl with | [_, _], _ => rfl
theorem sh_Things_shift_0 (T : TX K mg w scr ns) : Sh K (Gv K scr ns) (fdAt K (He.fAd K ("World", some "shift"))) ["self", "numbers", "place"] 3 [] (fun a _ => a) := sh_all T.d_Things_shift rfl fun _ _ _ _ _ _ us hl => match us, hl with | [_, _, _], _ => rfl
theorem sh_Things_sifted_0 (T : TX K mg w scr ns) : Sh K (Gv K scr ns) (fdAt K (He.fAd K ("World", some "sifted"))) ["self", "numbers"] 2 [] (fun a _ => a) := sh_all T.d_Things_sifted rfl fun _ _ _ _ _ _ us hl => match us, hl with | [_, _], _ => rfl
theorem sh_Collecting_ask_lost_0 (T : TX K mg w scr ns) : Sh K (Gv K scr ns) (fdAt K (He.fAd K ("World", some "ask_lost"))) ["self"] 1 [] (fun a _ => a) := sh_all T.d_Collecting_ask_lost rfl fun _ _ _ _ _ _ us hl => match us, hl with | [_], _ => rfl
theorem sh_Collecting_forget_lost_0 (T : TX K mg w scr ns) : Sh K (Gv K scr ns) (fdAt K (He.fAd K ("World", some "forget_lost"))) ["self", "lost"] 2 [] (fun a _ => a) := sh_all T.d_Collecting_forget_lost rfl fun _ _ _ _ _ _ us hl => match us, hl with | [_, _], _ => rfl
theorem sh_Collecting_keep_0 (T : TX K mg w scr ns) : Sh K (Gv K scr ns) (fdAt K (He.fAd K ("World", some "keep"))) ["self", "kept", "place", "older"] 4 [] (fun a _ => a) := sh_all T.d_Collecting_keep rfl fun _ _ _ _ _ _ us hl => match us, hl with | [_, _, _, _], _ => rfl
theorem sh_Collecting_may_track_0 (T : TX K mg w scr ns) : Sh K (Gv K scr ns) (fdAt K (He.fAd K ("World", some "may_track"))) ["self", "number"] 2 [] (fun a _ => a) := sh_all T.d_Collecting_may_track rfl fun _ _ _ _ _ _ us hl => match us, hl with | [_, _], _ => rfl
theorem sh_Collecting_may_collect_0 (T : TX K mg w scr ns) : Sh K (Gv K scr ns) (fdAt K (He.fAd K ("World", some "may_collect"))) ["self"] 1 [] (fun a _ => a) := sh_all T.d_Collecting_may_collect rfl fun _ _ _ _ _ _ us hl => match us, hl with | [_], _ => rfl
theorem sh_is_step_0 (T : TX K mg w scr ns) : Sh K (Gv K scr ns) (fdAt K (He.fAd K ("is_step", none))) ["thing", "is_weak"] 2 [] (fun a _ => a) := sh_all T.d_is_step rfl fun _ _ _ _ _ _ us hl => match us, hl with | [_, _], _ => rfl
theorem sh_are_steps_0 (T : TX K mg w scr ns) : Sh K (Gv K scr ns) (fdAt K (He.fAd K ("are_steps", none))) ["thing", "is_weak"] 2 [] (fun a _ => a) := sh_all T.d_are_steps rfl fun _ _ _ _ _ _ us hl => match us, hl with | [_, _], _ => rfl
theorem sh_Collecting_init_0 (T : TX K mg w scr ns) : Sh K (Gv K scr ns) (fdAt K (He.fAd K ("Collecting", some "__init__"))) ["self", "pool_bytes", "pool_count", "nesting"] 1 ["pool_bytes", "pool_count", "nesting"] (fun a b => a ++ b) := sh_kwall T.d_Collecting_init fun _ _ _ _ _ _ us ws hu hw => match us, ws, hu, hw with | [_], [_, _, _], _, _ => rfl
theorem sh_Things_new_thing_0 (T : TX K mg w scr ns) : Sh K (Gv K scr ns) (fdAt K (He.fAd K ("World", some "new_thing"))) ["self", "form", "slots", "steps", "size"] 5 [] (fun a _ => a) := sh_all T.d_Things_new_thing rfl fun _ _ _ _ _ _ us hl => match us, hl with | [_, _, _, _, _], _ => rfl
theorem sh_Collecting_count_new_0 (T : TX K mg w scr ns) : Sh K (Gv K scr ns) (fdAt K (He.fAd K ("World", some "count_new"))) ["self", "form"] 2 [] (fun a _ => a) := sh_all T.d_Collecting_count_new rfl fun _ _ _ _ _ _ us hl => match us, hl with | [_, _], _ => rfl
theorem sh_look_steps_0 (T : TX K mg w scr ns) : Sh K (Gv K scr ns) (fdAt K (He.fAd K ("look_steps", none))) ["steps", "is_weak"] 2 [] (fun a _ => a) := sh_all T.d_look_steps rfl fun _ _ _ _ _ _ us hl => match us, hl with | [_, _], _ => rfl
theorem sh_Things_look_bound_0 (T : TX K mg w scr ns) : Sh K (Gv K scr ns) (fdAt K (He.fAd K ("World", some "look_bound"))) ["self", "name"] 2 [] (fun a _ => a) := sh_all T.d_Things_look_bound rfl fun _ _ _ _ _ _ us hl => match us, hl with | [_, _], _ => rfl
theorem sh_World_look_name_0 (T : TX K mg w scr ns) : Sh K (Gv K scr ns) (fdAt K (He.fAd K ("World", some "look_name"))) ["self", "name"] 2 [] (fun a _ => a) := sh_all T.d_World_look_name rfl fun _ _ _ _ _ _ us hl => match us, hl with | [_, _], _ => rfl
theorem sh_World_look_slot_0 (T : TX K mg w scr ns) : Sh K (Gv K scr ns) (fdAt K (He.fAd K ("World", some "look_slot"))) ["self", "number", "at"] 3 [] (fun a _ => a) := sh_all T.d_World_look_slot rfl fun _ _ _ _ _ _ us hl => match us, hl with | [_, _, _], _ => rfl
theorem sh_World_look_row_0 (T : TX K mg w scr ns) : Sh K (Gv K scr ns) (fdAt K (He.fAd K ("World", some "look_row"))) ["self", "name"] 2 [] (fun a _ => a) := sh_all T.d_World_look_row rfl fun _ _ _ _ _ _ us hl => match us, hl with | [_, _], _ => rfl
theorem sh_law_let_0 (T : TX K mg w scr ns) : Sh K (Gv K scr ns) (fdAt K (He.fAd K ("_law_let", none))) ["_law_book", "_law_number"] 2 [] (fun a _ => a) := sh_all T.d_law_let rfl fun _ _ _ _ _ _ us hl => match us, hl with | [_, _], _ => rfl
theorem sh_law_fell_0 (T : TX K mg w scr ns) : Sh K (Gv K scr ns) (fdAt K (He.fAd K ("_law_fell", none))) ["_law_book", "_law_number"] 2 [] (fun a _ => a) := sh_all T.d_law_fell rfl fun _ _ _ _ _ _ us hl => match us, hl with | [_, _], _ => rfl
theorem sh_World_len_0 (T : TX K mg w scr ns) : Sh K (Gv K scr ns) (fdAt K (He.fAd K ("World", some "__len__"))) ["self"] 1 [] (fun a _ => a) := sh_all T.d_World_len rfl fun _ _ _ _ _ _ us hl => match us, hl with | [_], _ => rfl
theorem sh_past_0 (T : TX K mg w scr ns) : Sh K (Gv K scr ns) (fdAt K (He.fAd K ("past", none))) ["world"] 1 [] (fun a _ => a) := sh_all T.d_past rfl fun _ _ _ _ _ _ us hl => match us, hl with | [_], _ => rfl
theorem sh_World_collect_0 (T : TX K mg w scr ns) : Sh K (Gv K scr ns) (fdAt K (He.fAd K ("World", some "collect"))) ["self", "upto"] 1 [] (fun a _ => a ++ [.int (2)]) := sh_dfl (d := [.int (2)]) (dvs := [.int (2)]) T.d_World_collect 0 (List.cons_ne_nil _ _) rfl (fun _ _ _ _ _ _ _ us its hu hi => match us, its, hu, hi with | [_], [_], _, _ => ⟨_, rfl, rfl⟩) (fun ρ h => (ims_int rfl)) (fun nx h => by intro v hv; simp only [List.mem_cons, List.not_mem_nil, or_false] at hv; have h : 4 ≤ nx := h; rcases hv with rfl <;> first | trivial | (show _ < nx; omega))
theorem sh_called_0 (T : TX K mg w scr ns) : Sh K (Gv K scr ns) (fdAt K (He.fAd K ("called", none))) ["world"] 1 [] (fun a _ => a) := sh_all T.d_called rfl fun _ _ _ _ _ _ us hl => match us, hl with | [_], _ => rfl
theorem sh_World_forget_0 (T : TX K mg w scr ns) : Sh K (Gv K scr ns) (fdAt K (He.fAd K ("World", some "forget"))) ["self", "name"] 2 [] (fun a _ => a) := sh_all T.d_World_forget rfl fun _ _ _ _ _ _ us hl => match us, hl with | [_, _], _ => rfl
theorem sh_World_put_0 (T : TX K mg w scr ns) : Sh K (Gv K scr ns) (fdAt K (He.fAd K ("World", some "put"))) ["self", "name", "at", "other"] 4 [] (fun a _ => a) := sh_all T.d_World_put rfl fun _ _ _ _ _ _ us hl => match us, hl with | [_, _, _, _], _ => rfl
theorem sh_World_make_0 (T : TX K mg w scr ns) : Sh K (Gv K scr ns) (fdAt K (He.fAd K ("World", some "make"))) ["self", "name", "form", "holding", "stepping", "extra"] 3 ["holding"] (fun a b => a ++ b ++ [.ref 1, .int (0)]) := sh_kwd T.d_World_make [("stepping", .ref (kwAt K (fAd K ("World", some "make")) "stepping")), ("extra", .int (0))] (List.cons_ne_nil _ _) (by simp) (fun _ _ _ _ _ _ us mv ws hu hm hw => match us, mv, ws, hu, hm, hw with | [_, _, _], [_, _], [_], _, _, _ => by (repeat' first | exact rfl | refine ⟨_, _, _, _, _, _, rfl, rfl, ?_⟩)) (fun ρ h => (ims_ref h (by show 1 < 4; decide) (ims_int rfl))) (fun nx h => by intro v hv; simp only [List.mem_cons, List.not_mem_nil, or_false] at hv; have h : 4 ≤ nx := h; rcases hv with rfl | rfl <;> first | trivial | (show _ < nx; omega))
theorem sh_World_make_1 (T : TX K mg w scr ns) : Sh K (Gv K scr ns) (fdAt K (He.fAd K ("World", some "make"))) ["self", "name", "form", "holding", "stepping", "extra"] 3 [] (fun a _ => a ++ [.ref 0, .ref 1, .int (0)]) := sh_kw0 T.d_World_make (List.cons_ne_nil _ _) rfl (fun _ _ _ _ _ _ us ks hu hk => match us, ks, hu, hk with | [_, _, _], [_, _, _], _, _ => by (repeat' first | exact rfl | refine ⟨_, _, _, _, _, _, rfl, rfl, ?_⟩)) (fun ρ h => (ims_ref h (by show 0 < 4; decide) (ims_ref h (by show 1 < 4; decide) (ims_int rfl)))) (fun nx h => by intro v hv; simp only [List.mem_cons, List.not_mem_nil, or_false] at hv; have h : 4 ≤ nx := h; rcases hv with rfl | rfl | rfl <;> first | trivial | (show _ < nx; omega))
theorem sh_law_pick_0 (T : TX K mg w scr ns) : Sh K (Gv K scr ns) (fdAt K (He.fAd K ("_law_pick", none))) ["_law_script", "_law_k", "_law_many"] 3 [] (fun a _ => a) := sh_all T.d_law_pick rfl fun _ _ _ _ _ _ us hl => match us, hl with | [_, _, _], _ => rfl
theorem sh_World_init_0 (T : TX K mg w scr ns) : Sh K (Gv K scr ns) (fdAt K (He.fAd K ("World", some "__init__"))) ["self", "pool_bytes", "pool_count", "nesting"] 1 [] (fun a _ => a ++ [.int (4096), .int (16), .int (50)]) := sh_kw0 T.d_World_init (List.cons_ne_nil _ _) rfl (fun _ _ _ _ _ _ us ks hu hk => match us, ks, hu, hk with | [_], [_, _, _], _, _ => by (repeat' first | exact rfl | refine ⟨_, _, _, _, _, _, rfl, rfl, ?_⟩)) (fun ρ h => (ims_int (ims_int (ims_int rfl)))) (fun nx h => by intro v hv; simp only [List.mem_cons, List.not_mem_nil, or_false] at hv; have h : 4 ≤ nx := h; rcases hv with rfl | rfl | rfl <;> first | trivial | (show _ < nx; omega))
/-- all defs do as the table says -/
structure LV (P : Program) (w : World) (K : PySem.W.Frag) (mg : Str → Option Value) (base : Heap) (scr : Addr) (ns : List Int) (k : Nat) (φ : FT) : Prop where
  f_Pool_init : FnOk P w K mg base (L2.CX P w) k (He.fAd K ("Pool", some "__init__")) (fdAt K (He.fAd K ("Pool", some "__init__"))) ["self", "kind", "most"] (spM (Gv K scr ns) 3 φ.f_Pool_init)
  f_Pool_is_full : FnOk P w K mg base (L2.CX P w) k (He.fAd K ("Pool", some "is_full")) (fdAt K (He.fAd K ("Pool", some "is_full"))) ["self"] (spM (Gv K scr ns) 1 φ.f_Pool_is_full)
  f_Pool_draw : FnOk P w K mg base (L2.CX P w) k (He.fAd K ("Pool", some "draw")) (fdAt K (He.fAd K ("Pool", some "draw"))) ["self"] (spM (Gv K scr ns) 1 φ.f_Pool_draw)
  f_Pool_back : FnOk P w K mg base (L2.CX P w) k (He.fAd K ("Pool", some "back")) (fdAt K (He.fAd K ("Pool", some "back"))) ["self", "block"] (spM (Gv K scr ns) 2 φ.f_Pool_back)
  f_Arena_init : FnOk P w K mg base (L2.CX P w) k (He.fAd K ("Arena", some "__init__")) (fdAt K (He.fAd K ("Arena", some "__init__"))) ["self", "pools"] (spM (Gv K scr ns) 2 φ.f_Arena_init)
  f_Arena_draw_pool : FnOk P w K mg base (L2.CX P w) k (He.fAd K ("Arena", some "draw_pool")) (fdAt K (He.fAd K ("Arena", some "draw_pool"))) ["self", "kind", "most"] (spM (Gv K scr ns) 3 φ.f_Arena_draw_pool)
  f_Arena_back_pool : FnOk P w K mg base (L2.CX P w) k (He.fAd K ("Arena", some "back_pool")) (fdAt K (He.fAd K ("Arena", some "back_pool"))) ["self", "at"] (spM (Gv K scr ns) 2 φ.f_Arena_back_pool)
  f_is_number : FnOk P w K mg base (L2.CX P w) k (He.fAd K ("is_number", none)) (fdAt K (He.fAd K ("is_number", none))) ["thing", "least", "most"] (spM (Gv K scr ns) 3 φ.f_is_number)
  f_look_number : FnOk P w K mg base (L2.CX P w) k (He.fAd K ("look_number", none)) (fdAt K (He.fAd K ("look_number", none))) ["thing", "least", "most"] (spM (Gv K scr ns) 3 φ.f_look_number)
  f_is_name : FnOk P w K mg base (L2.CX P w) k (He.fAd K ("is_name", none)) (fdAt K (He.fAd K ("is_name", none))) ["thing"] (spM (Gv K scr ns) 1 φ.f_is_name)
  f_is_pool_size : FnOk P w K mg base (L2.CX P w) k (He.fAd K ("is_pool_size", none)) (fdAt K (He.fAd K ("is_pool_size", none))) ["thing"] (spM (Gv K scr ns) 1 φ.f_is_pool_size)
  f_look_size : FnOk P w K mg base (L2.CX P w) k (He.fAd K ("look_size", none)) (fdAt K (He.fAd K ("look_size", none))) ["size"] (spM (Gv K scr ns) 1 φ.f_look_size)
  f_kind_in : FnOk P w K mg base (L2.CX P w) k (He.fAd K ("kind_in", none)) (fdAt K (He.fAd K ("kind_in", none))) ["size"] (spM (Gv K scr ns) 1 φ.f_kind_in)
  f_room_of : FnOk P w K mg base (L2.CX P w) k (He.fAd K ("room_of", none)) (fdAt K (He.fAd K ("room_of", none))) ["kind"] (spM (Gv K scr ns) 1 φ.f_room_of)
  f_blocks_in : FnOk P w K mg base (L2.CX P w) k (He.fAd K ("blocks_in", none)) (fdAt K (He.fAd K ("blocks_in", none))) ["pool_size", "kind"] (spM (Gv K scr ns) 2 φ.f_blocks_in)
  f_Blocks_init : FnOk P w K mg base (L2.CX P w) k (He.fAd K ("Blocks", some "__init__")) (fdAt K (He.fAd K ("Blocks", some "__init__"))) ["self", "pool_bytes", "pool_count"] (spM (Gv K scr ns) 3 φ.f_Blocks_init)
  f_Blocks_new_arena : FnOk P w K mg base (L2.CX P w) k (He.fAd K ("Blocks", some "new_arena")) (fdAt K (He.fAd K ("Blocks", some "new_arena"))) ["self"] (spM (Gv K scr ns) 1 φ.f_Blocks_new_arena)
  f_Blocks_new_pool : FnOk P w K mg base (L2.CX P w) k (He.fAd K ("Blocks", some "new_pool")) (fdAt K (He.fAd K ("Blocks", some "new_pool"))) ["self", "kind"] (spM (Gv K scr ns) 2 φ.f_Blocks_new_pool)
  f_Blocks_take : FnOk P w K mg base (L2.CX P w) k (He.fAd K ("Blocks", some "take")) (fdAt K (He.fAd K ("Blocks", some "take"))) ["self", "size"] (spM (Gv K scr ns) 2 φ.f_Blocks_take)
  f_Blocks_give : FnOk P w K mg base (L2.CX P w) k (He.fAd K ("Blocks", some "give")) (fdAt K (He.fAd K ("Blocks", some "give"))) ["self", "place"] (spM (Gv K scr ns) 2 φ.f_Blocks_give)
  f_Blocks_give_small : FnOk P w K mg base (L2.CX P w) k (He.fAd K ("Blocks", some "give_small")) (fdAt K (He.fAd K ("Blocks", some "give_small"))) ["self", "place"] (spM (Gv K scr ns) 2 φ.f_Blocks_give_small)
  f_Blocks_settle : FnOk P w K mg base (L2.CX P w) k (He.fAd K ("Blocks", some "settle")) (fdAt K (He.fAd K ("Blocks", some "settle"))) ["self", "at", "left"] (spM (Gv K scr ns) 3 φ.f_Blocks_settle)
  f_is_place : FnOk P w K mg base (L2.CX P w) k (He.fAd K ("is_place", none)) (fdAt K (He.fAd K ("is_place", none))) ["thing"] (spM (Gv K scr ns) 1 φ.f_is_place)
  f_left_over : FnOk P w K mg base (L2.CX P w) k (He.fAd K ("left_over", none)) (fdAt K (He.fAd K ("left_over", none))) ["order", "counts", "targets"] (spM (Gv K scr ns) 3 φ.f_left_over)
  f_sift : FnOk P w K mg base (L2.CX P w) k (He.fAd K ("sift", none)) (fdAt K (He.fAd K ("sift", none))) ["order", "counts", "targets"] (spM (Gv K scr ns) 3 φ.f_sift)
  f_Thing_init : FnOk P w K mg base (L2.CX P w) k (He.fAd K ("Thing", some "__init__")) (fdAt K (He.fAd K ("Thing", some "__init__"))) ["self", "form", "slots", "steps", "lies"] (spM (Gv K scr ns) 5 φ.f_Thing_init)
  f_Things_init : FnOk P w K mg base (L2.CX P w) k (He.fAd K ("Things", some "__init__")) (fdAt K (He.fAd K ("Things", some "__init__"))) ["self", "pool_bytes", "pool_count"] (spM (Gv K scr ns) 3 φ.f_Things_init)
  f_Things_track : FnOk P w K mg base (L2.CX P w) k (He.fAd K ("World", some "track")) (fdAt K (He.fAd K ("World", some "track"))) ["self", "number", "place"] (spM (Gv K scr ns) 3 φ.f_Things_track)
  f_Things_untrack : FnOk P w K mg base (L2.CX P w) k (He.fAd K ("World", some "untrack")) (fdAt K (He.fAd K ("World", some "untrack"))) ["self", "number"] (spM (Gv K scr ns) 2 φ.f_Things_untrack)
  f_Things_shift : FnOk P w K mg base (L2.CX P w) k (He.fAd K ("World", some "shift")) (fdAt K (He.fAd K ("World", some "shift"))) ["self", "numbers", "place"] (spM (Gv K scr ns) 3 φ.f_Things_shift)
  f_Things_new_thing : FnOk P w K mg base (L2.CX P w) k (He.fAd K ("World", some "new_thing")) (fdAt K (He.fAd K ("World", some "new_thing"))) ["self", "form", "slots", "steps", "size"] (spM (Gv K scr ns) 5 φ.f_Things_new_thing)
  f_Things_look_bound : FnOk P w K mg base (L2.CX P w) k (He.fAd K ("World", some "look_bound")) (fdAt K (He.fAd K ("World", some "look_bound"))) ["self", "name"] (spM (Gv K scr ns) 2 φ.f_Things_look_bound)
  f_Things_targets_of : FnOk P w K mg base (L2.CX P w) k (He.fAd K ("World", some "targets_of")) (fdAt K (He.fAd K ("World", some "targets_of"))) ["self", "numbers"] (spM (Gv K scr ns) 2 φ.f_Things_targets_of)
  f_Things_sifted : FnOk P w K mg base (L2.CX P w) k (He.fAd K ("World", some "sifted")) (fdAt K (He.fAd K ("World", some "sifted"))) ["self", "numbers"] (spM (Gv K scr ns) 2 φ.f_Things_sifted)
  f_Dying_init : FnOk P w K mg base (L2.CX P w) k (He.fAd K ("Dying", some "__init__")) (fdAt K (He.fAd K ("Dying", some "__init__"))) ["self", "pool_bytes", "pool_count", "nesting"] (spM (Gv K scr ns) 4 φ.f_Dying_init)
  f_Dying_hold : FnOk P w K mg base (L2.CX P w) k (He.fAd K ("World", some "hold")) (fdAt K (He.fAd K ("World", some "hold"))) ["self", "number"] (spM (Gv K scr ns) 2 φ.f_Dying_hold)
  f_Dying_let_go : FnOk P w K mg base (L2.CX P w) k (He.fAd K ("World", some "let_go")) (fdAt K (He.fAd K ("World", some "let_go"))) ["self", "number"] (spM (Gv K scr ns) 2 φ.f_Dying_let_go)
  f_Dying_bind : FnOk P w K mg base (L2.CX P w) k (He.fAd K ("World", some "bind")) (fdAt K (He.fAd K ("World", some "bind"))) ["self", "name", "number"] (spM (Gv K scr ns) 3 φ.f_Dying_bind)
  f_Dying_unbind : FnOk P w K mg base (L2.CX P w) k (He.fAd K ("World", some "unbind")) (fdAt K (He.fAd K ("World", some "unbind"))) ["self", "name"] (spM (Gv K scr ns) 2 φ.f_Dying_unbind)
  f_Dying_empty_slot : FnOk P w K mg base (L2.CX P w) k (He.fAd K ("World", some "empty_slot")) (fdAt K (He.fAd K ("World", some "empty_slot"))) ["self", "number", "at"] (spM (Gv K scr ns) 3 φ.f_Dying_empty_slot)
  f_Dying_die : FnOk P w K mg base (L2.CX P w) k (He.fAd K ("World", some "die")) (fdAt K (He.fAd K ("World", some "die"))) ["self", "number"] (spM (Gv K scr ns) 2 φ.f_Dying_die)
  f_Dying_end_aside : FnOk P w K mg base (L2.CX P w) k (He.fAd K ("World", some "end_aside")) (fdAt K (He.fAd K ("World", some "end_aside"))) ["self"] (spM (Gv K scr ns) 1 φ.f_Dying_end_aside)
  f_Dying_end : FnOk P w K mg base (L2.CX P w) k (He.fAd K ("World", some "end")) (fdAt K (He.fAd K ("World", some "end"))) ["self", "number"] (spM (Gv K scr ns) 2 φ.f_Dying_end)
  f_Dying_gone : FnOk P w K mg base (L2.CX P w) k (He.fAd K ("World", some "gone")) (fdAt K (He.fAd K ("World", some "gone"))) ["self", "number"] (spM (Gv K scr ns) 2 φ.f_Dying_gone)
  f_Dying_ask_last : FnOk P w K mg base (L2.CX P w) k (He.fAd K ("World", some "ask_last")) (fdAt K (He.fAd K ("World", some "ask_last"))) ["self", "number"] (spM (Gv K scr ns) 2 φ.f_Dying_ask_last)
  f_Dying_do_steps : FnOk P w K mg base (L2.CX P w) k (He.fAd K ("World", some "do_steps")) (fdAt K (He.fAd K ("World", some "do_steps"))) ["self", "number"] (spM (Gv K scr ns) 2 φ.f_Dying_do_steps)
  f_Dying_do_step : FnOk P w K mg base (L2.CX P w) k (He.fAd K ("World", some "do_step")) (fdAt K (He.fAd K ("World", some "do_step"))) ["self", "number", "step"] (spM (Gv K scr ns) 3 φ.f_Dying_do_step)
  f_Dying_unwatch : FnOk P w K mg base (L2.CX P w) k (He.fAd K ("World", some "unwatch")) (fdAt K (He.fAd K ("World", some "unwatch"))) ["self", "number"] (spM (Gv K scr ns) 2 φ.f_Dying_unwatch)
  f_Dying_call : FnOk P w K mg base (L2.CX P w) k (He.fAd K ("World", some "call")) (fdAt K (He.fAd K ("World", some "call"))) ["self", "weak"] (spM (Gv K scr ns) 2 φ.f_Dying_call)
  f_Dying_call_all : FnOk P w K mg base (L2.CX P w) k (He.fAd K ("World", some "call_all")) (fdAt K (He.fAd K ("World", some "call_all"))) ["self", "weaks"] (spM (Gv K scr ns) 2 φ.f_Dying_call_all)
  f_Dying_forget_weakly : FnOk P w K mg base (L2.CX P w) k (He.fAd K ("World", some "forget_weakly")) (fdAt K (He.fAd K ("World", some "forget_weakly"))) ["self", "number"] (spM (Gv K scr ns) 2 φ.f_Dying_forget_weakly)
  f_Collecting_init : FnOk P w K mg base (L2.CX P w) k (He.fAd K ("Collecting", some "__init__")) (fdAt K (He.fAd K ("Collecting", some "__init__"))) ["self", "pool_bytes", "pool_count", "nesting"] (spM (Gv K scr ns) 4 φ.f_Collecting_init)
  f_Collecting_collect_within : FnOk P w K mg base (L2.CX P w) k (He.fAd K ("World", some "collect_within")) (fdAt K (He.fAd K ("World", some "collect_within"))) ["self"] (spM (Gv K scr ns) 1 φ.f_Collecting_collect_within)
  f_Collecting_collect_at : FnOk P w K mg base (L2.CX P w) k (He.fAd K ("World", some "collect_at")) (fdAt K (He.fAd K ("World", some "collect_at"))) ["self", "place"] (spM (Gv K scr ns) 2 φ.f_Collecting_collect_at)
  f_Collecting_tour : FnOk P w K mg base (L2.CX P w) k (He.fAd K ("World", some "tour")) (fdAt K (He.fAd K ("World", some "tour"))) ["self", "place"] (spM (Gv K scr ns) 2 φ.f_Collecting_tour)
  f_Collecting_may_track : FnOk P w K mg base (L2.CX P w) k (He.fAd K ("World", some "may_track")) (fdAt K (He.fAd K ("World", some "may_track"))) ["self", "number"] (spM (Gv K scr ns) 2 φ.f_Collecting_may_track)
  f_Collecting_keep : FnOk P w K mg base (L2.CX P w) k (He.fAd K ("World", some "keep")) (fdAt K (He.fAd K ("World", some "keep"))) ["self", "kept", "place", "older"] (spM (Gv K scr ns) 4 φ.f_Collecting_keep)
  f_Collecting_forget_lost : FnOk P w K mg base (L2.CX P w) k (He.fAd K ("World", some "forget_lost")) (fdAt K (He.fAd K ("World", some "forget_lost"))) ["self", "lost"] (spM (Gv K scr ns) 2 φ.f_Collecting_forget_lost)
  f_Collecting_ask_lost : FnOk P w K mg base (L2.CX P w) k (He.fAd K ("World", some "ask_lost")) (fdAt K (He.fAd K ("World", some "ask_lost"))) ["self"] (spM (Gv K scr ns) 1 φ.f_Collecting_ask_lost)
  f_Collecting_break_up : FnOk P w K mg base (L2.CX P w) k (He.fAd K ("World", some "break_up")) (fdAt K (He.fAd K ("World", some "break_up"))) ["self", "older"] (spM (Gv K scr ns) 2 φ.f_Collecting_break_up)
  f_Collecting_may_collect : FnOk P w K mg base (L2.CX P w) k (He.fAd K ("World", some "may_collect")) (fdAt K (He.fAd K ("World", some "may_collect"))) ["self"] (spM (Gv K scr ns) 1 φ.f_Collecting_may_collect)
  f_Collecting_count_new : FnOk P w K mg base (L2.CX P w) k (He.fAd K ("World", some "count_new")) (fdAt K (He.fAd K ("World", some "count_new"))) ["self", "form"] (spM (Gv K scr ns) 2 φ.f_Collecting_count_new)
  f_is_step : FnOk P w K mg base (L2.CX P w) k (He.fAd K ("is_step", none)) (fdAt K (He.fAd K ("is_step", none))) ["thing", "is_weak"] (spM (Gv K scr ns) 2 φ.f_is_step)
  f_are_steps : FnOk P w K mg base (L2.CX P w) k (He.fAd K ("are_steps", none)) (fdAt K (He.fAd K ("are_steps", none))) ["thing", "is_weak"] (spM (Gv K scr ns) 2 φ.f_are_steps)
  f_look_steps : FnOk P w K mg base (L2.CX P w) k (He.fAd K ("look_steps", none)) (fdAt K (He.fAd K ("look_steps", none))) ["steps", "is_weak"] (spM (Gv K scr ns) 2 φ.f_look_steps)
  f_World_init : FnOk P w K mg base (L2.CX P w) k (He.fAd K ("World", some "__init__")) (fdAt K (He.fAd K ("World", some "__init__"))) ["self", "pool_bytes", "pool_count", "nesting"] (spM (Gv K scr ns) 4 φ.f_World_init)
  f_World_len : FnOk P w K mg base (L2.CX P w) k (He.fAd K ("World", some "__len__")) (fdAt K (He.fAd K ("World", some "__len__"))) ["self"] (spM (Gv K scr ns) 1 φ.f_World_len)
  f_World_look_name : FnOk P w K mg base (L2.CX P w) k (He.fAd K ("World", some "look_name")) (fdAt K (He.fAd K ("World", some "look_name"))) ["self", "name"] (spM (Gv K scr ns) 2 φ.f_World_look_name)
  f_World_make : FnOk P w K mg base (L2.CX P w) k (He.fAd K ("World", some "make")) (fdAt K (He.fAd K ("World", some "make"))) ["self", "name", "form", "holding", "stepping", "extra"] (spM (Gv K scr ns) 6 φ.f_World_make)
  f_World_forget : FnOk P w K mg base (L2.CX P w) k (He.fAd K ("World", some "forget")) (fdAt K (He.fAd K ("World", some "forget"))) ["self", "name"] (spM (Gv K scr ns) 2 φ.f_World_forget)
  f_World_look_row : FnOk P w K mg base (L2.CX P w) k (He.fAd K ("World", some "look_row")) (fdAt K (He.fAd K ("World", some "look_row"))) ["self", "name"] (spM (Gv K scr ns) 2 φ.f_World_look_row)
  f_World_look_slot : FnOk P w K mg base (L2.CX P w) k (He.fAd K ("World", some "look_slot")) (fdAt K (He.fAd K ("World", some "look_slot"))) ["self", "number", "at"] (spM (Gv K scr ns) 3 φ.f_World_look_slot)
  f_World_put : FnOk P w K mg base (L2.CX P w) k (He.fAd K ("World", some "put")) (fdAt K (He.fAd K ("World", some "put"))) ["self", "name", "at", "other"] (spM (Gv K scr ns) 4 φ.f_World_put)
  f_World_collect : FnOk P w K mg base (L2.CX P w) k (He.fAd K ("World", some "collect")) (fdAt K (He.fAd K ("World", some "collect"))) ["self", "upto"] (spM (Gv K scr ns) 2 φ.f_World_collect)
  f_called : FnOk P w K mg base (L2.CX P w) k (He.fAd K ("called", none)) (fdAt K (He.fAd K ("called", none))) ["world"] (spM (Gv K scr ns) 1 φ.f_called)
  f_past : FnOk P w K mg base (L2.CX P w) k (He.fAd K ("past", none)) (fdAt K (He.fAd K ("past", none))) ["world"] (spM (Gv K scr ns) 1 φ.f_past)
  f_law_pick : FnOk P w K mg base (L2.CX P w) k (He.fAd K ("_law_pick", none)) (fdAt K (He.fAd K ("_law_pick", none))) ["_law_script", "_law_k", "_law_many"] (spM (Gv K scr ns) 3 φ.f_law_pick)
  f_law_fell : FnOk P w K mg base (L2.CX P w) k (He.fAd K ("_law_fell", none)) (fdAt K (He.fAd K ("_law_fell", none))) ["_law_book", "_law_number"] (spM (Gv K scr ns) 2 φ.f_law_fell)
  f_law_let : FnOk P w K mg base (L2.CX P w) k (He.fAd K ("_law_let", none)) (fdAt K (He.fAd K ("_law_let", none))) ["_law_book", "_law_number"] (spM (Gv K scr ns) 2 φ.f_law_let)
  f_law : FnOk P w K mg base (L2.CX P w) k (He.fAd K ("law", none)) (fdAt K (He.fAd K ("law", none))) ["_law_script"] (spM (Gv K scr ns) 1 φ.f_law)
variable {n : Nat} {φ φm : FT}
theorem d_Pool_init (T : TX K mg w scr ns) (h1 : LV P w K mg base scr ns (n + 1) φ) (h2 : LV P w K mg base scr ns n φm) : FnOk P w K mg base (L2.CX P w) (n + 2) (He.fAd K ("Pool", some "__init__")) (fdAt K (He.fAd K ("Pool", some "__init__"))) P_Pool_init (spM (Gv K scr ns) 3 (runB 3 (b_Pool_init φ φm))) :=
  fn_okM T.d_Pool_init sc_Pool_init rfl rfl fun od cdv A outer s H E hr tk hp => rs_cons (rs_setA (fxw T.fx) (f := 0) (by decide) rfl (re_var 0) (re_var 1)) (rs_cons (rs_setA (fxw T.fx) (f := 1) (by decide) rfl (re_var 0) (re_var 2)) (rs_cons (rs_setA (fxw T.fx) (f := 2) (by decide) rfl (re_var 0) (re_int)) (rs_cons (rs_setA (fxw T.fx) (f := 3) (by decide) rfl (re_var 0) (re_lst (rl_nil))) (rs_one (rs_setA (fxw T.fx) (f := 4) (by decide) rfl (re_var 0) (re_int))))))
theorem d_Pool_is_full (T : TX K mg w scr ns) (h1 : LV P w K mg base scr ns (n + 1) φ) (h2 : LV P w K mg base scr ns n φm) : FnOk P w K mg base (L2.CX P w) (n + 2) (He.fAd K ("Pool", some "is_full")) (fdAt K (He.fAd K ("Pool", some "is_full"))) P_Pool_is_full (spM (Gv K scr ns) 1 (runB 1 (b_Pool_is_full φ φm))) :=
  fn_okM T.d_Pool_is_full sc_Pool_is_full rfl rfl fun od cdv A outer s H E hr tk hp => rs_one (rs_ret (e_eq hr rfl (re_attr (fxw T.fx) (f := 4) (by decide) rfl (re_var 0)) (re_attr (fxw T.fx) (f := 1) (by decide) rfl (re_var 0))))
theorem d_Pool_draw (T : TX K mg w scr ns) (h1 : LV P w K mg base scr ns (n + 1) φ) (h2 : LV P w K mg base scr ns n φm) : FnOk P w K mg base (L2.CX P w) (n + 2) (He.fAd K ("Pool", some "draw")) (fdAt K (He.fAd K ("Pool", some "draw"))) P_Pool_draw (spM (Gv K scr ns) 1 (runB 1 (b_Pool_draw φ φm))) :=
  fn_okM T.d_Pool_draw sc_Pool_draw rfl rfl fun od cdv A outer s H E hr tk hp => rs_cons (rs_setA (fxw T.fx) (f := 4) (by decide) rfl (re_var 0) (re_add rfl (re_attr (fxw T.fx) (f := 4) (by decide) rfl (re_var 0)) (re_int))) (rs_cons (rs_if (t_ne hr rfl (re_attr (fxw T.fx) (f := 3) (by decide) rfl (re_var 0)) (re_lst (rl_nil))) (rs_one (rs_ret (re_lm0 rfl PySem.F.slot_list_pop PySem.F.type_list_pop mt_pop cm_pop (re_attr (fxw T.fx) (f := 3) (by decide) rfl (re_var 0))))) (rs_nil)) (rs_cons (rs_setA (fxw T.fx) (f := 2) (by decide) rfl (re_var 0) (re_add rfl (re_attr (fxw T.fx) (f := 2) (by decide) rfl (re_var 0)) (re_int))) (rs_one (rs_ret (re_sub (re_attr (fxw T.fx) (f := 2) (by decide) rfl (re_var 0)) (re_int))))))
theorem d_Pool_back (T : TX K mg w scr ns) (h1 : LV P w K mg base scr ns (n + 1) φ) (h2 : LV P w K mg base scr ns n φm) : FnOk P w K mg base (L2.CX P w) (n + 2) (He.fAd K ("Pool", some "back")) (fdAt K (He.fAd K ("Pool", some "back"))) P_Pool_back (spM (Gv K scr ns) 2 (runB 2 (b_Pool_back φ φm))) :=
  fn_okM T.d_Pool_back sc_Pool_back rfl rfl fun od cdv A outer s H E hr tk hp => rs_cons (rs_setA (fxw T.fx) (f := 4) (by decide) rfl (re_var 0) (re_sub (re_attr (fxw T.fx) (f := 4) (by decide) rfl (re_var 0)) (re_int))) (rs_one (rs_expr (re_lm rfl PySem.F.slot_list_append PySem.F.type_list_append mt_append cm_append (re_attr (fxw T.fx) (f := 3) (by decide) rfl (re_var 0)) (rl_cons (re_var 1) (rl_nil)))))
theorem d_Arena_init (T : TX K mg w scr ns) (h1 : LV P w K mg base scr ns (n + 1) φ) (h2 : LV P w K mg base scr ns n φm) : FnOk P w K mg base (L2.CX P w) (n + 2) (He.fAd K ("Arena", some "__init__")) (fdAt K (He.fAd K ("Arena", some "__init__"))) P_Arena_init (spM (Gv K scr ns) 2 (runB 2 (b_Arena_init φ φm))) :=
  fn_okM T.d_Arena_init sc_Arena_init rfl rfl fun od cdv A outer s H E hr tk hp => rs_cons (rs_setA (fxw T.fx) (f := 5) (by decide) rfl (re_var 0) (re_dk)) (rs_cons (rs_setA (fxw T.fx) (f := 2) (by decide) rfl (re_var 0) (re_int)) (rs_cons (rs_setA (fxw T.fx) (f := 3) (by decide) rfl (re_var 0) (re_lst (rl_nil))) (rs_one (rs_setA (fxw T.fx) (f := 6) (by decide) rfl (re_var 0) (re_var 1)))))
theorem d_Arena_draw_pool (T : TX K mg w scr ns) (h1 : LV P w K mg base scr ns (n + 1) φ) (h2 : LV P w K mg base scr ns n φm) : FnOk P w K mg base (L2.CX P w) (n + 2) (He.fAd K ("Arena", some "draw_pool")) (fdAt K (He.fAd K ("Arena", some "draw_pool"))) P_Arena_draw_pool (spM (Gv K scr ns) 3 (runB 4 (b_Arena_draw_pool φ φm))) :=
  fn_okM T.d_Arena_draw_pool sc_Arena_draw_pool rfl rfl fun od cdv A outer s H E hr tk hp => rs_cons (rs_setA (fxw T.fx) (f := 6) (by decide) rfl (re_var 0) (re_sub (re_attr (fxw T.fx) (f := 6) (by decide) rfl (re_var 0)) (re_int))) (rs_cons (rs_if (t_ne hr rfl (re_attr (fxw T.fx) (f := 3) (by decide) rfl (re_var 0)) (re_lst (rl_nil))) (rs_one (rs_set 3 sc_Arena_draw_pool.nd rfl (Or.inl rfl) (re_lm0 rfl PySem.F.slot_list_pop PySem.F.type_list_pop mt_pop cm_pop (re_attr (fxw T.fx) (f := 3) (by decide) rfl (re_var 0))))) (rs_cons (rs_set 3 sc_Arena_draw_pool.nd rfl (Or.inl rfl) (re_attr (fxw T.fx) (f := 2) (by decide) rfl (re_var 0))) (rs_one (rs_setA (fxw T.fx) (f := 2) (by decide) rfl (re_var 0) (re_add rfl (re_attr (fxw T.fx) (f := 2) (by decide) rfl (re_var 0)) (re_int)))))) (rs_cons (rs_if (PW.pt (rw_or (rt_dnotin (hu_of hr) (re_var 3) (re_attr (fxw T.fx) (f := 5) (by decide) rfl (re_var 0))) (rw_or1 (t_ne hr rfl (re_attr (fxw T.fx) (f := 0) (by decide) rfl (re_dget (hu_of hr) (re_attr (fxw T.fx) (f := 5) (by decide) rfl (re_var 0)) (re_var 3))) (re_var 1))))) (rs_one (rs_dput (hu_of hr) (re_attr (fxw T.fx) (f := 5) (by decide) rfl (re_var 0)) (re_var 3) (c_make (calS h2.f_Pool_init (sh_Pool_init_0 T)) rfl T.k_Pool hr rfl T.g_Pool tk (rl_cons (re_var 1) (rl_cons (re_var 2) (rl_nil))) (rk_nil)))) (rs_nil)) (rs_one (rs_ret (re_var 3)))))
theorem d_Arena_back_pool (T : TX K mg w scr ns) (h1 : LV P w K mg base scr ns (n + 1) φ) (h2 : LV P w K mg base scr ns n φm) : FnOk P w K mg base (L2.CX P w) (n + 2) (He.fAd K ("Arena", some "back_pool")) (fdAt K (He.fAd K ("Arena", some "back_pool"))) P_Arena_back_pool (spM (Gv K scr ns) 2 (runB 2 (b_Arena_back_pool φ φm))) :=
  fn_okM T.d_Arena_back_pool sc_Arena_back_pool rfl rfl fun od cdv A outer s H E hr tk hp => rs_cons (rs_setA (fxw T.fx) (f := 6) (by decide) rfl (re_var 0) (re_add rfl (re_attr (fxw T.fx) (f := 6) (by decide) rfl (re_var 0)) (re_int))) (rs_cons (rs_expr (re_lm rfl PySem.F.slot_list_append PySem.F.type_list_append mt_append cm_append (re_attr (fxw T.fx) (f := 3) (by decide) rfl (re_var 0)) (rl_cons (re_var 1) (rl_nil)))) (rs_one (rs_ret (re_attr (fxw T.fx) (f := 6) (by decide) rfl (re_var 0)))))
theorem d_is_number (T : TX K mg w scr ns) (h1 : LV P w K mg base scr ns (n + 1) φ) (h2 : LV P w K mg base scr ns n φm) : FnOk P w K mg base (L2.CX P w) (n + 2) (He.fAd K ("is_number", none)) (fdAt K (He.fAd K ("is_number", none))) P_is_number (spM (Gv K scr ns) 3 (runB 3 (b_is_number φ φm))) :=
  fn_okM T.d_is_number sc_is_number rfl rfl fun od cdv A outer s H E hr tk hp => rs_one (rs_ret (re_and (re_isi .int rfl rfl T.n_isinstance rfl T.n_int (by decide +kernel) (re_var 0)) (re_and (re_not (re_isi .bool rfl rfl T.n_isinstance rfl T.n_bool (by decide +kernel) (re_var 0))) (re_one (re_chain op_le op_le (cb_cmp _) (cb_cmp _) (re_var 1) (re_var 0) (re_var 2))))))
theorem d_look_number (T : TX K mg w scr ns) (h1 : LV P w K mg base scr ns (n + 1) φ) (h2 : LV P w K mg base scr ns n φm) : FnOk P w K mg base (L2.CX P w) (n + 2) (He.fAd K ("look_number", none)) (fdAt K (He.fAd K ("look_number", none))) P_look_number (spM (Gv K scr ns) 3 (runB 3 (b_look_number φ φm))) :=
  fn_okM T.d_look_number sc_look_number rfl rfl fun od cdv A outer s H E hr tk hp => rs_one (rs_if (rt_not (rt_val (c_call (calS h1.f_is_number (sh_is_number_0 T)) hr rfl T.g_is_number T.d_is_number.kp tk (rl_cons (re_var 0) (rl_cons (re_var 1) (rl_cons (re_var 2) (rl_nil)))) (rk_nil)))) (rs_one (rs_bad)) (rs_nil))
theorem d_is_name (T : TX K mg w scr ns) (h1 : LV P w K mg base scr ns (n + 1) φ) (h2 : LV P w K mg base scr ns n φm) : FnOk P w K mg base (L2.CX P w) (n + 2) (He.fAd K ("is_name", none)) (fdAt K (He.fAd K ("is_name", none))) P_is_name (spM (Gv K scr ns) 1 (runB 2 (b_is_name φ φm))) :=
  fn_okM T.d_is_name sc_is_name rfl rfl fun od cdv A outer s H E hr tk hp => rs_one (rs_ret (re_and (re_isi .str rfl rfl T.n_isinstance rfl T.n_str (by decide +kernel) (re_var 0)) (re_and (re_nmLen T.tau rfl T.n_len rfl T.i_LONGEST_NAME (re_var 0)) (re_one (re_nmAll T.tau rfl rfl sc_is_name.nd rfl T.n_all (re_var 0) (blkOk_by (N := N_is_name) (sc := (defScope s_is_name)) (own := [("sign", 1)]) (by decide +kernel)) rfl (fun _ _ _ _ _ => pg_name (i := 1) sc_is_name.nd rfl (Or.inl rfl)) (fun _ _ _ _ _ => pe_cmpR op_inS (pv 1) (let ⟨_, e⟩ := T.i_SMALL; pe_glob rfl e ⟨_, rfl⟩) rfl))))))
theorem d_is_pool_size (T : TX K mg w scr ns) (h1 : LV P w K mg base scr ns (n + 1) φ) (h2 : LV P w K mg base scr ns n φm) : FnOk P w K mg base (L2.CX P w) (n + 2) (He.fAd K ("is_pool_size", none)) (fdAt K (He.fAd K ("is_pool_size", none))) P_is_pool_size (spM (Gv K scr ns) 1 (runB 1 (b_is_pool_size φ φm))) :=
  fn_okM T.d_is_pool_size sc_is_pool_size rfl rfl fun od cdv A outer s H E hr tk hp => rs_one (rs_ret (re_and (c_call (calS h1.f_is_number (sh_is_number_0 T)) hr rfl T.g_is_number T.d_is_number.kp tk (rl_cons (re_var 0) (rl_cons (re_gi T.i_LEAST_POOL rfl) (rl_cons (re_gi T.i_MOST_POOL rfl) (rl_nil)))) (rk_nil)) (re_one (e_eq hr rfl (re_mod (re_var 0) (re_gi T.i_STEP rfl)) (re_int)))))
theorem d_look_size (T : TX K mg w scr ns) (h1 : LV P w K mg base scr ns (n + 1) φ) (h2 : LV P w K mg base scr ns n φm) : FnOk P w K mg base (L2.CX P w) (n + 2) (He.fAd K ("look_size", none)) (fdAt K (He.fAd K ("look_size", none))) P_look_size (spM (Gv K scr ns) 1 (runB 1 (b_look_size φ φm))) :=
  fn_okM T.d_look_size sc_look_size rfl rfl fun od cdv A outer s H E hr tk hp => rs_one (rs_if (rt_not (rt_val (c_call (calS h1.f_is_number (sh_is_number_0 T)) hr rfl T.g_is_number T.d_is_number.kp tk (rl_cons (re_var 0) (rl_cons (re_int) (rl_cons (re_gi T.i_MOST_SIZE rfl) (rl_nil)))) (rk_nil)))) (rs_one (rs_bad)) (rs_nil))
theorem d_kind_in (T : TX K mg w scr ns) (h1 : LV P w K mg base scr ns (n + 1) φ) (h2 : LV P w K mg base scr ns n φm) : FnOk P w K mg base (L2.CX P w) (n + 2) (He.fAd K ("kind_in", none)) (fdAt K (He.fAd K ("kind_in", none))) P_kind_in (spM (Gv K scr ns) 1 (runB 1 (b_kind_in φ φm))) :=
  fn_okM T.d_kind_in sc_kind_in rfl rfl fun od cdv A outer s H E hr tk hp => rs_cons (rs_if (t_gt (re_var 0) (re_gi T.i_MOST_SMALL rfl)) (rs_one (rs_ret (re_non))) (rs_nil)) (rs_one (rs_ret (re_fdiv (re_sub (b_max (by rfl) (by rfl) (by rfl) T.n_max (rl_cons (re_var 0) (rl_cons (re_int) (rl_nil)))) (re_int)) (re_gi T.i_STEP rfl))))
theorem d_room_of (T : TX K mg w scr ns) (h1 : LV P w K mg base scr ns (n + 1) φ) (h2 : LV P w K mg base scr ns n φm) : FnOk P w K mg base (L2.CX P w) (n + 2) (He.fAd K ("room_of", none)) (fdAt K (He.fAd K ("room_of", none))) P_room_of (spM (Gv K scr ns) 1 (runB 1 (b_room_of φ φm))) :=
  fn_okM T.d_room_of sc_room_of rfl rfl fun od cdv A outer s H E hr tk hp => rs_cons (rs_expr (c_call (calS h1.f_look_number (sh_look_number_0 T)) hr rfl T.g_look_number T.d_look_number.kp tk (rl_cons (re_var 0) (rl_cons (re_int) (rl_cons (re_sub (re_fdiv (re_gi T.i_MOST_SMALL rfl) (re_gi T.i_STEP rfl)) (re_int)) (rl_nil)))) (rk_nil))) (rs_one (rs_ret (re_mul (re_add rfl (re_var 0) (re_int)) (re_gi T.i_STEP rfl))))
theorem d_blocks_in (T : TX K mg w scr ns) (h1 : LV P w K mg base scr ns (n + 1) φ) (h2 : LV P w K mg base scr ns n φm) : FnOk P w K mg base (L2.CX P w) (n + 2) (He.fAd K ("blocks_in", none)) (fdAt K (He.fAd K ("blocks_in", none))) P_blocks_in (spM (Gv K scr ns) 2 (runB 2 (b_blocks_in φ φm))) :=
  fn_okM T.d_blocks_in sc_blocks_in rfl rfl fun od cdv A outer s H E hr tk hp => rs_cons (rs_if (rt_not (rt_val (c_call (calS h1.f_is_pool_size (sh_is_pool_size_0 T)) hr rfl T.g_is_pool_size T.d_is_pool_size.kp tk (rl_cons (re_var 0) (rl_nil)) (rk_nil)))) (rs_one (rs_bad)) (rs_nil)) (rs_one (rs_ret (re_fdiv (re_sub (re_var 0) (re_gi T.i_HEAD rfl)) (c_call (calS h1.f_room_of (sh_room_of_0 T)) hr rfl T.g_room_of T.d_room_of.kp tk (rl_cons (re_var 1) (rl_nil)) (rk_nil)))))
theorem d_Blocks_init (T : TX K mg w scr ns) (h1 : LV P w K mg base scr ns (n + 1) φ) (h2 : LV P w K mg base scr ns n φm) : FnOk P w K mg base (L2.CX P w) (n + 2) (He.fAd K ("Blocks", some "__init__")) (fdAt K (He.fAd K ("Blocks", some "__init__"))) P_Blocks_init (spM (Gv K scr ns) 3 (runB 3 (b_Blocks_init φ φm))) :=
  fn_okM T.d_Blocks_init sc_Blocks_init rfl rfl fun od cdv A outer s H E hr tk hp => rs_cons (rs_if (rt_not (rt_val (c_call (calS h1.f_is_pool_size (sh_is_pool_size_0 T)) hr rfl T.g_is_pool_size T.d_is_pool_size.kp tk (rl_cons (re_var 1) (rl_nil)) (rk_nil)))) (rs_one (rs_bad)) (rs_nil)) (rs_cons (rs_expr (c_call (calS h1.f_look_number (sh_look_number_0 T)) hr rfl T.g_look_number T.d_look_number.kp tk (rl_cons (re_var 2) (rl_cons (re_int) (rl_cons (re_gi T.i_MOST_POOLS rfl) (rl_nil)))) (rk_nil))) (rs_cons (rs_setA (fxw T.fx) (f := 7) (by decide) rfl (re_var 0) (re_var 1)) (rs_cons (rs_setA (fxw T.fx) (f := 8) (by decide) rfl (re_var 0) (re_var 2)) (rs_cons (rs_setA (fxw T.fx) (f := 9) (by decide) rfl (re_var 0) (re_dk)) (rs_cons (rs_setA (fxw T.fx) (f := 10) (by decide) rfl (re_var 0) (re_lst (rl_nil))) (rs_cons (rs_setA (fxw T.fx) (f := 11) (by decide) rfl (re_var 0) (re_lst (rl_nil))) (rs_cons (rs_setA (fxw T.fx) (f := 12) (by decide) rfl (re_var 0) (re_int)) (rs_cons (rs_setA (fxw T.fx) (f := 13) (by decide) rfl (re_var 0) (re_int)) (rs_cons (rs_setA (fxw T.fx) (f := 14) (by decide) rfl (re_var 0) (re_dk)) (rs_one (rs_setA (fxw T.fx) (f := 15) (by decide) rfl (re_var 0) (re_dt))))))))))))
theorem d_Blocks_new_arena (T : TX K mg w scr ns) (h1 : LV P w K mg base scr ns (n + 1) φ) (h2 : LV P w K mg base scr ns n φm) : FnOk P w K mg base (L2.CX P w) (n + 2) (He.fAd K ("Blocks", some "new_arena")) (fdAt K (He.fAd K ("Blocks", some "new_arena"))) P_Blocks_new_arena (spM (Gv K scr ns) 1 (runB 2 (b_Blocks_new_arena φ φm))) :=
  fn_okM T.d_Blocks_new_arena sc_Blocks_new_arena rfl rfl fun od cdv A outer s H E hr tk hp => rs_cons (rs_if (t_ne hr rfl (re_attr (fxw T.fx) (f := 11) (by decide) rfl (re_var 0)) (re_lst (rl_nil))) (rs_one (rs_set 1 sc_Blocks_new_arena.nd rfl (Or.inl rfl) (re_lm0 rfl PySem.F.slot_list_pop PySem.F.type_list_pop mt_pop cm_pop (re_attr (fxw T.fx) (f := 11) (by decide) rfl (re_var 0))))) (rs_cons (rs_set 1 sc_Blocks_new_arena.nd rfl (Or.inl rfl) (re_attr (fxw T.fx) (f := 12) (by decide) rfl (re_var 0))) (rs_one (rs_setA (fxw T.fx) (f := 12) (by decide) rfl (re_var 0) (re_add rfl (re_attr (fxw T.fx) (f := 12) (by decide) rfl (re_var 0)) (re_int)))))) (rs_cons (rs_dput (hu_of hr) (re_attr (fxw T.fx) (f := 9) (by decide) rfl (re_var 0)) (re_var 1) (c_make (calS h2.f_Arena_init (sh_Arena_init_0 T)) rfl T.k_Arena hr rfl T.g_Arena tk (rl_cons (re_attr (fxw T.fx) (f := 8) (by decide) rfl (re_var 0)) (rl_nil)) (rk_nil))) (rs_one (rs_setA (fxw T.fx) (f := 10) (by decide) rfl (re_var 0) (re_lst (rl_cons (re_var 1) (rl_nil))))))
theorem d_Blocks_new_pool (T : TX K mg w scr ns) (h1 : LV P w K mg base scr ns (n + 1) φ) (h2 : LV P w K mg base scr ns n φm) : FnOk P w K mg base (L2.CX P w) (n + 2) (He.fAd K ("Blocks", some "new_pool")) (fdAt K (He.fAd K ("Blocks", some "new_pool"))) P_Blocks_new_pool (spM (Gv K scr ns) 2 (runB 5 (b_Blocks_new_pool φ φm))) :=
  fn_okM T.d_Blocks_new_pool sc_Blocks_new_pool rfl rfl fun od cdv A outer s H E hr tk hp => rs_cons (rs_if (t_eq hr rfl (re_attr (fxw T.fx) (f := 10) (by decide) rfl (re_var 0)) (re_lst (rl_nil))) (rs_one (rs_expr (c_meth0 (C := He.ga K "Blocks") (calS h1.f_Blocks_new_arena (sh_Blocks_new_arena_0 T)) (nf_ (fl := fl) "new_arena" (by decide +kernel) (by decide +kernel)) rfl (re_var 0) T.c_Blocks T.m_Blocks_new_arena hr tk (rk_nil)))) (rs_nil)) (rs_cons (rs_set 2 sc_Blocks_new_pool.nd rfl (Or.inl rfl) (re_ix rfl (re_attr (fxw T.fx) (f := 10) (by decide) rfl (re_var 0)) (re_int))) (rs_cons (rs_set 3 sc_Blocks_new_pool.nd rfl (Or.inl rfl) (re_dget (hu_of hr) (re_attr (fxw T.fx) (f := 9) (by decide) rfl (re_var 0)) (re_var 2))) (rs_cons (rs_set 4 sc_Blocks_new_pool.nd rfl (Or.inl rfl) (c_meth (C := He.ga K "Arena") (calS h1.f_Arena_draw_pool (sh_Arena_draw_pool_0 T)) (nf_ (fl := fl) "draw_pool" (by decide +kernel) (by decide +kernel)) rfl (re_var 3) T.c_Arena T.m_Arena_draw_pool hr tk (rl_cons (re_var 1) (rl_cons (c_call (calS h1.f_blocks_in (sh_blocks_in_0 T)) hr rfl T.g_blocks_in T.d_blocks_in.kp tk (rl_cons (re_attr (fxw T.fx) (f := 7) (by decide) rfl (re_var 0)) (rl_cons (re_var 1) (rl_nil))) (rk_nil)) (rl_nil))) (rk_nil))) (rs_cons (rs_if (t_eq hr rfl (re_attr (fxw T.fx) (f := 6) (by decide) rfl (re_var 3)) (re_int)) (rs_one (rs_setA (fxw T.fx) (f := 10) (by decide) rfl (re_var 0) (re_slice rfl (re_attr (fxw T.fx) (f := 10) (by decide) rfl (re_var 0)) (.some (re_int)) .none))) (rs_nil)) (rs_one (rs_dput (hu_of hr) (re_attr (fxw T.fx) (f := 14) (by decide) rfl (re_var 0)) (re_var 1) (re_lst (rl_cons (re_tup (rl_cons (re_var 2) (rl_cons (re_var 4) (rl_nil)))) (rl_nil)))))))))
theorem d_Blocks_take (T : TX K mg w scr ns) (h1 : LV P w K mg base scr ns (n + 1) φ) (h2 : LV P w K mg base scr ns n φm) : FnOk P w K mg base (L2.CX P w) (n + 2) (He.fAd K ("Blocks", some "take")) (fdAt K (He.fAd K ("Blocks", some "take"))) P_Blocks_take (spM (Gv K scr ns) 2 (runB 7 (b_Blocks_take φ φm))) :=
  fn_okM T.d_Blocks_take sc_Blocks_take rfl rfl fun od cdv A outer s H E hr tk hp => rs_cons (rs_expr (c_call (calS h1.f_look_size (sh_look_size_0 T)) hr rfl T.g_look_size T.d_look_size.kp tk (rl_cons (re_var 1) (rl_nil)) (rk_nil))) (rs_cons (rs_set 2 sc_Blocks_take.nd rfl (Or.inl rfl) (c_call (calS h1.f_kind_in (sh_kind_in_0 T)) hr rfl T.g_kind_in T.d_kind_in.kp tk (rl_cons (re_var 1) (rl_nil)) (rk_nil))) (rs_cons (rs_if (t_is (re_var 2) (re_non)) (rs_cons (rs_set 3 sc_Blocks_take.nd rfl (Or.inl rfl) (re_tup (rl_cons (re_gs T.i_GREAT rfl) (rl_cons (re_attr (fxw T.fx) (f := 13) (by decide) rfl (re_var 0)) (rl_nil))))) (rs_one (rs_setA (fxw T.fx) (f := 13) (by decide) rfl (re_var 0) (re_add rfl (re_attr (fxw T.fx) (f := 13) (by decide) rfl (re_var 0)) (re_int))))) (rs_cons (rs_if (t_eq hr rfl (re_get2 (hu_of hr) (re_attr (fxw T.fx) (f := 14) (by decide) rfl (re_var 0)) (re_var 2) (re_lst (rl_nil))) (re_lst (rl_nil))) (rs_one (rs_expr (c_meth (C := He.ga K "Blocks") (calS h1.f_Blocks_new_pool (sh_Blocks_new_pool_0 T)) (nf_ (fl := fl) "new_pool" (by decide +kernel) (by decide +kernel)) rfl (re_var 0) T.c_Blocks T.m_Blocks_new_pool hr tk (rl_cons (re_var 2) (rl_nil)) (rk_nil)))) (rs_nil)) (rs_cons (rs_asg (re_ix rfl (re_dget (hu_of hr) (re_attr (fxw T.fx) (f := 14) (by decide) rfl (re_var 0)) (re_var 2)) (re_int)) (rg_tup rfl rfl (rg_cons (rg_name 5 sc_Blocks_take.nd rfl (Or.inl rfl)) (rg_cons (rg_name 6 sc_Blocks_take.nd rfl (Or.inl rfl)) (rg_nil))))) (rs_cons (rs_set 4 sc_Blocks_take.nd rfl (Or.inl rfl) (re_dget (hu_of hr) (re_attr (fxw T.fx) (f := 5) (by decide) rfl (re_dget (hu_of hr) (re_attr (fxw T.fx) (f := 9) (by decide) rfl (re_var 0)) (re_var 5))) (re_var 6))) (rs_cons (rs_set 3 sc_Blocks_take.nd rfl (Or.inl rfl) (re_tup (rl_cons (re_var 5) (rl_cons (re_var 6) (rl_cons (c_meth0 (C := He.ga K "Pool") (calS h1.f_Pool_draw (sh_Pool_draw_0 T)) (nf_ (fl := fl) "draw" (by decide +kernel) (by decide +kernel)) rfl (re_var 4) T.c_Pool T.m_Pool_draw hr tk (rk_nil)) (rl_nil)))))) (rs_one (rs_if (rt_val (c_meth0 (C := He.ga K "Pool") (calS h1.f_Pool_is_full (sh_Pool_is_full_0 T)) (nf_ (fl := fl) "is_full" (by decide +kernel) (by decide +kernel)) rfl (re_var 4) T.c_Pool T.m_Pool_is_full hr tk (rk_nil))) (rs_one (rs_dput (hu_of hr) (re_attr (fxw T.fx) (f := 14) (by decide) rfl (re_var 0)) (re_var 2) (re_slice rfl (re_dget (hu_of hr) (re_attr (fxw T.fx) (f := 14) (by decide) rfl (re_var 0)) (re_var 2)) (.some (re_int)) .none))) (rs_nil)))))))) (rs_cons (rs_dput (hu_of hr) (re_attr (fxw T.fx) (f := 15) (by decide) rfl (re_var 0)) (re_var 3) (re_var 1)) (rs_one (rs_ret (re_var 3))))))
theorem d_Blocks_give (T : TX K mg w scr ns) (h1 : LV P w K mg base scr ns (n + 1) φ) (h2 : LV P w K mg base scr ns n φm) : FnOk P w K mg base (L2.CX P w) (n + 2) (He.fAd K ("Blocks", some "give")) (fdAt K (He.fAd K ("Blocks", some "give"))) P_Blocks_give (spM (Gv K scr ns) 2 (runB 3 (b_Blocks_give φ φm))) :=
  fn_okM T.d_Blocks_give sc_Blocks_give rfl rfl fun od cdv A outer s H E hr tk hp => rs_cons (rs_if (PW.pt (rw_or (rt_not (rt_val (c_call (calS h1.f_is_place (sh_is_place_0 T)) hr rfl T.g_is_place T.d_is_place.kp tk (rl_cons (re_var 1) (rl_nil)) (rk_nil)))) (rw_or1 (rt_dnotin (hu_of hr) (re_var 1) (re_attr (fxw T.fx) (f := 15) (by decide) rfl (re_var 0)))))) (rs_one (rs_bad)) (rs_nil)) (rs_cons (rs_set 2 sc_Blocks_give.nd rfl (Or.inl rfl) (re_dpopT (hu_of hr) rfl (re_attr (fxw T.fx) (f := 15) (by decide) rfl (re_var 0)) (re_var 1))) (rs_cons (rs_if (t_ne hr rfl (re_ix rfl (re_var 1) (re_int)) (re_gs T.i_GREAT rfl)) (rs_one (rs_expr (c_meth (C := He.ga K "Blocks") (calS h1.f_Blocks_give_small (sh_Blocks_give_small_0 T)) (nf_ (fl := fl) "give_small" (by decide +kernel) (by decide +kernel)) rfl (re_var 0) T.c_Blocks T.m_Blocks_give_small hr tk (rl_cons (re_var 1) (rl_nil)) (rk_nil)))) (rs_nil)) (rs_one (rs_ret (re_var 2)))))
theorem d_Blocks_give_small (T : TX K mg w scr ns) (h1 : LV P w K mg base scr ns (n + 1) φ) (h2 : LV P w K mg base scr ns n φm) : FnOk P w K mg base (L2.CX P w) (n + 2) (He.fAd K ("Blocks", some "give_small")) (fdAt K (He.fAd K ("Blocks", some "give_small"))) P_Blocks_give_small (spM (Gv K scr ns) 2 (runB 7 (b_Blocks_give_small φ φm))) :=
  fn_okM T.d_Blocks_give_small sc_Blocks_give_small rfl rfl fun od cdv A outer s H E hr tk hp => rs_cons (rs_asg (re_var 1) (rg_tup rfl rfl (rg_cons (rg_name 2 sc_Blocks_give_small.nd rfl (Or.inr rfl)) (rg_cons (rg_name 3 sc_Blocks_give_small.nd rfl (Or.inr rfl)) (rg_cons (rg_name 4 sc_Blocks_give_small.nd rfl (Or.inl rfl)) (rg_nil)))))) (rs_cons (rs_set 5 sc_Blocks_give_small.nd rfl (Or.inl rfl) (re_dget (hu_of hr) (re_attr (fxw T.fx) (f := 5) (by decide) rfl (re_dget (hu_of hr) (re_attr (fxw T.fx) (f := 9) (by decide) rfl (re_var 0)) (re_var 2))) (re_var 3))) (rs_cons (rs_if (rt_val (c_meth0 (C := He.ga K "Pool") (calS h1.f_Pool_is_full (sh_Pool_is_full_0 T)) (nf_ (fl := fl) "is_full" (by decide +kernel) (by decide +kernel)) rfl (re_var 5) T.c_Pool T.m_Pool_is_full hr tk (rk_nil))) (rs_one (rs_dput (hu_of hr) (re_attr (fxw T.fx) (f := 14) (by decide) rfl (re_var 0)) (re_attr (fxw T.fx) (f := 0) (by decide) rfl (re_var 5)) (re_add rfl (re_lst (rl_cons (re_tup (rl_cons (re_var 2) (rl_cons (re_var 3) (rl_nil)))) (rl_nil))) (re_dget (hu_of hr) (re_attr (fxw T.fx) (f := 14) (by decide) rfl (re_var 0)) (re_attr (fxw T.fx) (f := 0) (by decide) rfl (re_var 5)))))) (rs_nil)) (rs_cons (rs_expr (c_meth (C := He.ga K "Pool") (calS h1.f_Pool_back (sh_Pool_back_0 T)) (nf_ (fl := fl) "back" (by decide +kernel) (by decide +kernel)) rfl (re_var 5) T.c_Pool T.m_Pool_back hr tk (rl_cons (re_var 4) (rl_nil)) (rk_nil))) (rs_one (rs_if (t_eq hr rfl (re_attr (fxw T.fx) (f := 4) (by decide) rfl (re_var 5)) (re_int)) (rs_cons (rs_dput (hu_of hr) (re_attr (fxw T.fx) (f := 14) (by decide) rfl (re_var 0)) (re_attr (fxw T.fx) (f := 0) (by decide) rfl (re_var 5)) (re_lc [6] rfl sc_Blocks_give_small.nd (ri_any rfl (re_dget (hu_of hr) (re_attr (fxw T.fx) (f := 14) (by decide) rfl (re_var 0)) (re_attr (fxw T.fx) (f := 0) (by decide) rfl (re_var 5)))) (blkOk_by (N := N_Blocks_give_small) (sc := (defScope s_Blocks_give_small)) (own := [("one", 6)]) (by decide +kernel)) rfl (by decide) (fun _ _ _ _ _ => pg_name (i := 6) sc_Blocks_give_small.nd rfl (Or.inl rfl)) (fun _ _ _ _ _ => rts_one (t_ne hr rfl (re_var 6) (re_tup (rl_cons (re_var 2) (rl_cons (re_var 3) (rl_nil)))))) (fun _ _ _ _ _ => re_var 6))) (rs_one (rs_expr (c_meth (C := He.ga K "Blocks") (calS h1.f_Blocks_settle (sh_Blocks_settle_0 T)) (nf_ (fl := fl) "settle" (by decide +kernel) (by decide +kernel)) rfl (re_var 0) T.c_Blocks T.m_Blocks_settle hr tk (rl_cons (re_var 2) (rl_cons (c_meth (C := He.ga K "Arena") (calS h1.f_Arena_back_pool (sh_Arena_back_pool_0 T)) (nf_ (fl := fl) "back_pool" (by decide +kernel) (by decide +kernel)) rfl (re_dget (hu_of hr) (re_attr (fxw T.fx) (f := 9) (by decide) rfl (re_var 0)) (re_var 2)) T.c_Arena T.m_Arena_back_pool hr tk (rl_cons (re_var 3) (rl_nil)) (rk_nil)) (rl_nil))) (rk_nil))))) (rs_nil))))))
theorem d_Blocks_settle (T : TX K mg w scr ns) (h1 : LV P w K mg base scr ns (n + 1) φ) (h2 : LV P w K mg base scr ns n φm) : FnOk P w K mg base (L2.CX P w) (n + 2) (He.fAd K ("Blocks", some "settle")) (fdAt K (He.fAd K ("Blocks", some "settle"))) P_Blocks_settle (spM (Gv K scr ns) 3 (runB 6 (b_Blocks_settle φ φm))) :=
  fn_okM T.d_Blocks_settle sc_Blocks_settle rfl rfl fun od cdv A outer s H E hr tk hp => rs_one (rs_if (PW.pt (rw_and (t_eq hr rfl (re_var 2) (re_attr (fxw T.fx) (f := 8) (by decide) rfl (re_var 0))) (rw_and (t_in hr rfl (re_var 1) (re_attr (fxw T.fx) (f := 10) (by decide) rfl (re_var 0))) (rw_and1 (t_ne hr rfl (re_ix rfl (re_attr (fxw T.fx) (f := 10) (by decide) rfl (re_var 0)) (re_neg (re_int))) (re_var 1)))))) (rs_cons (rs_setA (fxw T.fx) (f := 10) (by decide) rfl (re_var 0) (re_lc [5] rfl sc_Blocks_settle.nd (ri_any rfl (re_attr (fxw T.fx) (f := 10) (by decide) rfl (re_var 0))) (blkOk_by (N := N_Blocks_settle) (sc := (defScope s_Blocks_settle)) (own := [("one", 5)]) (by decide +kernel)) rfl (by decide) (fun _ _ _ _ _ => pg_name (i := 5) sc_Blocks_settle.nd rfl (Or.inl rfl)) (fun _ _ _ _ _ => rts_one (t_ne hr rfl (re_var 5) (re_var 1))) (fun _ _ _ _ _ => re_var 5))) (rs_cons (rs_expr (re_dpop (re_attr (fxw T.fx) (f := 9) (by decide) rfl (re_var 0)) (re_var 1))) (rs_one (rs_expr (re_lm rfl PySem.F.slot_list_append PySem.F.type_list_append mt_append cm_append (re_attr (fxw T.fx) (f := 11) (by decide) rfl (re_var 0)) (rl_cons (re_var 1) (rl_nil))))))) (rs_one (rs_if (t_eq hr rfl (re_var 2) (re_int)) (rs_one (rs_setA (fxw T.fx) (f := 10) (by decide) rfl (re_var 0) (re_add rfl (re_lst (rl_cons (re_var 1) (rl_nil))) (re_attr (fxw T.fx) (f := 10) (by decide) rfl (re_var 0))))) (rs_cons (rs_setLc (i := 3) [5] rfl sc_Blocks_settle.nd rfl rfl (sw_true rfl rfl rfl (by decide +kernel)) (ri_any rfl (re_attr (fxw T.fx) (f := 10) (by decide) rfl (re_var 0))) (blkOk_by (N := N_Blocks_settle) (sc := (defScope s_Blocks_settle)) (own := [("one", 5)]) (by decide +kernel)) rfl (by decide) (fun _ _ _ _ _ => pg_name (i := 5) sc_Blocks_settle.nd rfl (Or.inl rfl)) (fun _ _ _ _ _ => rts_one (t_ne hr rfl (re_var 5) (re_var 1))) (fun _ _ _ _ _ => re_var 5)) (rs_cons (rs_set 4 sc_Blocks_settle.nd rfl (Or.inr rfl) (re_lc [5] rfl sc_Blocks_settle.nd (ri_any rfl (re_var 3)) (blkOk_by (N := N_Blocks_settle) (sc := (defScope s_Blocks_settle)) (own := [("one", 5)]) (by decide +kernel)) rfl (by decide) (fun _ _ _ _ _ => pg_name (i := 5) sc_Blocks_settle.nd rfl (Or.inl rfl)) (fun _ _ _ _ _ => rts_one (t_lt (re_attr (fxw T.fx) (f := 6) (by decide) rfl (re_dget (hu_of hr) (re_attr (fxw T.fx) (f := 9) (by decide) rfl (re_var 0)) (re_var 5))) (re_var 2))) (fun _ _ _ _ _ => re_var 5))) (rs_one (rs_setA (fxw T.fx) (f := 10) (by decide) rfl (re_var 0) (re_add rfl (re_add rfl (re_var 4) (re_lst (rl_cons (re_var 1) (rl_nil)))) (re_lc [5] rfl sc_Blocks_settle.nd (ri_any rfl (re_var 3)) (blkOk_by (N := N_Blocks_settle) (sc := (defScope s_Blocks_settle)) (own := [("one", 5)]) (by decide +kernel)) rfl (by decide) (fun _ _ _ _ _ => pg_name (i := 5) sc_Blocks_settle.nd rfl (Or.inl rfl)) (fun _ _ _ _ _ => rts_one (t_nin hr rfl (re_var 5) (re_var 4))) (fun _ _ _ _ _ => re_var 5))))))))))
theorem d_is_place (T : TX K mg w scr ns) (h1 : LV P w K mg base scr ns (n + 1) φ) (h2 : LV P w K mg base scr ns n φm) : FnOk P w K mg base (L2.CX P w) (n + 2) (He.fAd K ("is_place", none)) (fdAt K (He.fAd K ("is_place", none))) P_is_place (spM (Gv K scr ns) 1 (runB 2 (b_is_place φ φm))) :=
  fn_okM T.d_is_place sc_is_place rfl rfl fun od cdv A outer s H E hr tk hp => rs_cons (rs_if (rt_not (rt_val (re_isi .tup rfl rfl T.n_isinstance rfl T.n_tuple (by decide +kernel) (re_var 0)))) (rs_one (rs_ret (re_bl))) (rs_nil)) (rs_cons (rs_if (t_eq hr rfl (b_len (by rfl) (by rfl) (by rfl) T.n_len (rl_cons (re_var 0) (rl_nil))) (re_int)) (rs_one (rs_ret (re_and (re_isi .str rfl rfl T.n_isinstance rfl T.n_str (by decide +kernel) (re_ix rfl (re_var 0) (re_int))) (re_and (e_eq hr rfl (re_ix rfl (re_var 0) (re_int)) (re_gs T.i_GREAT rfl)) (re_one (c_call (calS h1.f_is_number (sh_is_number_0 T)) hr rfl T.g_is_number T.d_is_number.kp tk (rl_cons (re_ix rfl (re_var 0) (re_int)) (rl_cons (re_int) (rl_cons (re_pow (re_int) (re_int)) (rl_nil)))) (rk_nil))))))) (rs_nil)) (rs_one (rs_ret (re_and (e_eq hr rfl (b_len (by rfl) (by rfl) (by rfl) T.n_len (rl_cons (re_var 0) (rl_nil))) (re_int)) (re_one (b_all (by rfl) (by rfl) (by rfl) T.n_all (rl_cons (re_lc [1] rfl sc_is_place.nd (ri_any rfl (re_var 0)) (blkOk_by (N := N_is_place) (sc := (defScope s_is_place)) (own := [("part", 1)]) (by decide +kernel)) rfl (by decide) (fun _ _ _ _ _ => pg_name (i := 1) sc_is_place.nd rfl (Or.inl rfl)) (fun _ _ _ _ _ => rts_nil) (fun _ _ _ _ _ => c_call (calS h1.f_is_number (sh_is_number_0 T)) hr rfl T.g_is_number T.d_is_number.kp takes0 (rl_cons (re_var 1) (rl_cons (re_int) (rl_cons (re_pow (re_int) (re_int)) (rl_nil)))) (rk_nil))) (rl_nil))))))))
theorem d_left_over (T : TX K mg w scr ns) (h1 : LV P w K mg base scr ns (n + 1) φ) (h2 : LV P w K mg base scr ns n φm) : FnOk P w K mg base (L2.CX P w) (n + 2) (He.fAd K ("left_over", none)) (fdAt K (He.fAd K ("left_over", none))) P_left_over (spM (Gv K scr ns) 3 (runB 6 (b_left_over φ φm))) :=
  fn_okM T.d_left_over sc_left_over rfl rfl fun od cdv A outer s H E hr tk hp => rs_cons (rs_set 3 sc_left_over.nd rfl (Or.inl rfl) (b_dict (by rfl) (by rfl) (by rfl) T.n_dict (rl_cons (re_lc [4] rfl sc_left_over.nd (ri_any rfl (re_var 0)) (blkOk_by (N := N_left_over) (sc := (defScope s_left_over)) (own := [("node", 4)]) (by decide +kernel)) rfl (by decide) (fun _ _ _ _ _ => pg_name (i := 4) sc_left_over.nd rfl (Or.inl rfl)) (fun _ _ _ _ _ => rts_nil) (fun _ _ _ _ _ => re_tup (rl_cons (re_var 4) (rl_cons (re_dget (hu_of hr) (re_var 1) (re_var 4)) (rl_nil))))) (rl_nil)))) (rs_cons (rs_for hp rfl (ri_any rfl (re_var 0)) (rg_name 4 sc_left_over.nd rfl (Or.inl rfl)) (rs_one (rs_for hp rfl (ri_any rfl (re_dget (hu_of hr) (re_var 2) (re_var 4))) (rg_name 5 sc_left_over.nd rfl (Or.inl rfl)) (rs_one (rs_if (rt_din (hu_of hr) (re_var 5) (re_var 3)) (rs_one (rs_dput (hu_of hr) (re_var 3) (re_var 5) (re_sub (re_dget (hu_of hr) (re_var 3) (re_var 5)) (re_int)))) (rs_nil)))))) (rs_one (rs_ret (re_var 3))))
theorem d_sift (T : TX K mg w scr ns) (h1 : LV P w K mg base scr ns (n + 1) φ) (h2 : LV P w K mg base scr ns n φm) : FnOk P w K mg base (L2.CX P w) (n + 2) (He.fAd K ("sift", none)) (fdAt K (He.fAd K ("sift", none))) P_sift (spM (Gv K scr ns) 3 (runB 9 (b_sift φ φm))) :=
  fn_okM T.d_sift sc_sift rfl rfl fun od cdv A outer s H E hr tk hp => rs_cons (rs_par3 rfl sc_sift.nd rfl rfl rfl (by decide) (by decide) (by decide) rfl rfl rfl (rl_cons (c_call (calS h1.f_left_over (sh_left_over_0 T)) hr rfl T.g_left_over T.d_left_over.kp tk (rl_cons (re_var 0) (rl_cons (re_var 1) (rl_cons (re_var 2) (rl_nil)))) (rk_nil)) (rl_cons (re_lst (rl_nil)) (rl_cons (re_dk) (rl_nil)))) (by rfl)) (rs_cons (rs_set 6 sc_sift.nd rfl (Or.inl rfl) (b_list (by rfl) (by rfl) (by rfl) T.n_list (rl_cons (re_var 0) (rl_nil)))) (rs_cons (rs_while hp (t_ne hr rfl (re_var 6) (re_lst (rl_nil))) (rs_cons (rs_set 7 sc_sift.nd rfl (Or.inl rfl) (re_lm rfl PySem.F.slot_list_pop PySem.F.type_list_pop mt_popAt cm_popAt (re_var 6) (rl_cons (re_int) (rl_nil)))) (rs_one (rs_if (t_eq hr rfl (re_dget (hu_of hr) (re_var 3) (re_var 7)) (re_int)) (rs_one (rs_dput (hu_of hr) (re_var 5) (re_var 7) (re_bl))) (rs_cons (rs_expr (re_lm rfl PySem.F.slot_list_append PySem.F.type_list_append mt_append cm_append (re_var 4) (rl_cons (re_var 7) (rl_nil)))) (rs_one (rs_for hp rfl (ri_any rfl (re_rev rfl (re_dget (hu_of hr) (re_var 2) (re_var 7)))) (rg_name 8 sc_sift.nd rfl (Or.inl rfl)) (rs_one (rs_if (PW.pt (rw_and (rt_din (hu_of hr) (re_var 8) (re_var 3)) (rw_and1 (t_eq hr rfl (re_dget (hu_of hr) (re_var 3) (re_var 8)) (re_int))))) (rs_cons (rs_dput (hu_of hr) (re_var 3) (re_var 8) (re_int)) (rs_one (rs_if (rt_din (hu_of hr) (re_var 8) (re_var 5)) (rs_cons (rs_expr (re_dpop (re_var 5) (re_var 8))) (rs_one (rs_expr (re_lm rfl PySem.F.slot_list_append PySem.F.type_list_append mt_append cm_append (re_var 6) (rl_cons (re_var 8) (rl_nil)))))) (rs_nil)))) (rs_nil)))))))))) (rs_one (rs_ret (re_tup (rl_cons (re_var 4) (rl_cons (b_list (by rfl) (by rfl) (by rfl) T.n_list (rl_cons (re_var 5) (rl_nil))) (rl_nil))))))))
theorem d_Thing_init (T : TX K mg w scr ns) (h1 : LV P w K mg base scr ns (n + 1) φ) (h2 : LV P w K mg base scr ns n φm) : FnOk P w K mg base (L2.CX P w) (n + 2) (He.fAd K ("Thing", some "__init__")) (fdAt K (He.fAd K ("Thing", some "__init__"))) P_Thing_init (spM (Gv K scr ns) 5 (runB 5 (b_Thing_init φ φm))) :=
  fn_okM T.d_Thing_init sc_Thing_init rfl rfl fun od cdv A outer s H E hr tk hp => rs_cons (rs_setA (fxw T.fx) (f := 16) (by decide) rfl (re_var 0) (re_var 1)) (rs_cons (rs_setA (fxw T.fx) (f := 17) (by decide) rfl (re_var 0) (b_list (by rfl) (by rfl) (by rfl) T.n_list (rl_cons (re_var 2) (rl_nil)))) (rs_cons (rs_setA (fxw T.fx) (f := 18) (by decide) rfl (re_var 0) (re_var 3)) (rs_cons (rs_setA (fxw T.fx) (f := 19) (by decide) rfl (re_var 0) (re_var 4)) (rs_cons (rs_setA (fxw T.fx) (f := 20) (by decide) rfl (re_var 0) (re_int)) (rs_cons (rs_setA (fxw T.fx) (f := 21) (by decide) rfl (re_var 0) (re_non)) (rs_cons (rs_setA (fxw T.fx) (f := 22) (by decide) rfl (re_var 0) (re_lst (rl_nil))) (rs_cons (rs_setA (fxw T.fx) (f := 23) (by decide) rfl (re_var 0) (re_bl)) (rs_one (rs_setA (fxw T.fx) (f := 24) (by decide) rfl (re_var 0) (re_non))))))))))
theorem d_Things_init (T : TX K mg w scr ns) (h1 : LV P w K mg base scr ns (n + 1) φ) (h2 : LV P w K mg base scr ns n φm) : FnOk P w K mg base (L2.CX P w) (n + 2) (He.fAd K ("Things", some "__init__")) (fdAt K (He.fAd K ("Things", some "__init__"))) P_Things_init (spM (Gv K scr ns) 3 (runB 4 (b_Things_init φ φm))) :=
  fn_okM T.d_Things_init sc_Things_init rfl rfl fun od cdv A outer s H E hr tk hp => rs_cons (rs_setA (fxw T.fx) (f := 25) (by decide) rfl (re_var 0) (c_make0 (calS h2.f_Blocks_init (sh_Blocks_init_0 T)) rfl T.k_Blocks hr rfl T.g_Blocks tk (rk_cons (re_var 1) (rk_cons (re_var 2) (rk_nil))))) (rs_cons (rs_setA (fxw T.fx) (f := 26) (by decide) rfl (re_var 0) (re_dk)) (rs_cons (rs_setA (fxw T.fx) (f := 27) (by decide) rfl (re_var 0) (re_dk)) (rs_cons (rs_setA (fxw T.fx) (f := 28) (by decide) rfl (re_var 0) (re_lc [3] rfl sc_Things_init.nd (ri_r1 rfl T.n_range (re_gi T.i_PLACES rfl)) (blkOk_by (N := N_Things_init) (sc := (defScope s_Things_init)) (own := [("place", 3)]) (by decide +kernel)) rfl (by decide) (fun _ _ _ _ _ => pg_name (i := 3) sc_Things_init.nd rfl (Or.inl rfl)) (fun _ _ _ _ _ => rts_nil) (fun _ _ _ _ _ => re_lst (rl_nil)))) (rs_cons (rs_setA (fxw T.fx) (f := 29) (by decide) rfl (re_var 0) (re_lst (rl_nil))) (rs_cons (rs_asg2 (re_int) (rg_attr (fxw T.fx) (f := 30) (by decide) rfl (re_var 0)) (rg_attr (fxw T.fx) (f := 31) (by decide) rfl (re_var 0))) (rs_one (rs_setA (fxw T.fx) (f := 32) (by decide) rfl (re_var 0) (re_lst (rl_cons (re_int) (rl_cons (re_int) (rl_cons (re_int) (rl_nil))))))))))))
theorem d_Things_track (T : TX K mg w scr ns) (h1 : LV P w K mg base scr ns (n + 1) φ) (h2 : LV P w K mg base scr ns n φm) : FnOk P w K mg base (L2.CX P w) (n + 2) (He.fAd K ("World", some "track")) (fdAt K (He.fAd K ("World", some "track"))) P_Things_track (spM (Gv K scr ns) 3 (runB 3 (b_Things_track φ φm))) :=
  fn_okM T.d_Things_track sc_Things_track rfl rfl fun od cdv A outer s H E hr tk hp => rs_cons (rs_setA (fxw T.fx) (f := 24) (by decide) rfl (re_dget (hu_of hr) (re_attr (fxw T.fx) (f := 26) (by decide) rfl (re_var 0)) (re_var 1)) (re_var 2)) (rs_one (rs_expr (re_lm rfl PySem.F.slot_list_append PySem.F.type_list_append mt_append cm_append (re_ix rfl (re_attr (fxw T.fx) (f := 28) (by decide) rfl (re_var 0)) (re_var 2)) (rl_cons (re_var 1) (rl_nil)))))
theorem d_Things_untrack (T : TX K mg w scr ns) (h1 : LV P w K mg base scr ns (n + 1) φ) (h2 : LV P w K mg base scr ns n φm) : FnOk P w K mg base (L2.CX P w) (n + 2) (He.fAd K ("World", some "untrack")) (fdAt K (He.fAd K ("World", some "untrack"))) P_Things_untrack (spM (Gv K scr ns) 2 (runB 3 (b_Things_untrack φ φm))) :=
  fn_okM T.d_Things_untrack sc_Things_untrack rfl rfl fun od cdv A outer s H E hr tk hp => rs_cons (rs_set 2 sc_Things_untrack.nd rfl (Or.inl rfl) (re_dget (hu_of hr) (re_attr (fxw T.fx) (f := 26) (by decide) rfl (re_var 0)) (re_var 1))) (rs_one (rs_if (t_isn (re_attr (fxw T.fx) (f := 24) (by decide) rfl (re_var 2)) (re_non)) (rs_cons (rs_expr (re_lm rfl PySem.F.slot_list_remove PySem.F.type_list_remove mt_remove cm_remove (re_ix rfl (re_attr (fxw T.fx) (f := 28) (by decide) rfl (re_var 0)) (re_attr (fxw T.fx) (f := 24) (by decide) rfl (re_var 2))) (rl_cons (re_var 1) (rl_nil)))) (rs_one (rs_setA (fxw T.fx) (f := 24) (by decide) rfl (re_var 2) (re_non)))) (rs_nil)))
theorem d_Things_shift (T : TX K mg w scr ns) (h1 : LV P w K mg base scr ns (n + 1) φ) (h2 : LV P w K mg base scr ns n φm) : FnOk P w K mg base (L2.CX P w) (n + 2) (He.fAd K ("World", some "shift")) (fdAt K (He.fAd K ("World", some "shift"))) P_Things_shift (spM (Gv K scr ns) 3 (runB 4 (b_Things_shift φ φm))) :=
  fn_okM T.d_Things_shift sc_Things_shift rfl rfl fun od cdv A outer s H E hr tk hp => rs_one (rs_for hp rfl (ri_any rfl (b_list (by rfl) (by rfl) (by rfl) T.n_list (rl_cons (re_var 1) (rl_nil)))) (rg_name 3 sc_Things_shift.nd rfl (Or.inl rfl)) (rs_cons (rs_expr (c_meth (C := He.ga K "World") (calS h1.f_Things_untrack (sh_Things_untrack_0 T)) (nf_ (fl := fl) "untrack" (by decide +kernel) (by decide +kernel)) rfl (re_var 0) T.c_World T.m_World_untrack hr tk (rl_cons (re_var 3) (rl_nil)) (rk_nil))) (rs_one (rs_expr (c_meth (C := He.ga K "World") (calS h1.f_Things_track (sh_Things_track_0 T)) (nf_ (fl := fl) "track" (by decide +kernel) (by decide +kernel)) rfl (re_var 0) T.c_World T.m_World_track hr tk (rl_cons (re_var 3) (rl_cons (re_var 2) (rl_nil))) (rk_nil))))))
theorem d_Things_new_thing (T : TX K mg w scr ns) (h1 : LV P w K mg base scr ns (n + 1) φ) (h2 : LV P w K mg base scr ns n φm) : FnOk P w K mg base (L2.CX P w) (n + 2) (He.fAd K ("World", some "new_thing")) (fdAt K (He.fAd K ("World", some "new_thing"))) P_Things_new_thing (spM (Gv K scr ns) 5 (runB 8 (b_Things_new_thing φ φm))) :=
  fn_okM T.d_Things_new_thing sc_Things_new_thing rfl rfl fun od cdv A outer s H E hr tk hp => rs_cons (rs_set 5 sc_Things_new_thing.nd rfl (Or.inl rfl) (re_attr (fxw T.fx) (f := 30) (by decide) rfl (re_var 0))) (rs_cons (rs_augA (fxw T.fx) (f := 30) (by decide) rfl (re_var 0) (re_int) in_add) (rs_cons (rs_set 6 sc_Things_new_thing.nd rfl (Or.inl rfl) (c_meth (C := He.ga K "Blocks") (calS h1.f_Blocks_take (sh_Blocks_take_0 T)) (nf_ (fl := fl) "take" (by decide +kernel) (by decide +kernel)) rfl (re_attr (fxw T.fx) (f := 25) (by decide) rfl (re_var 0)) T.c_Blocks T.m_Blocks_take hr tk (rl_cons (re_add rfl (re_add rfl (re_hd rfl T.g_HEADS T.hd_HEADS (re_var 1)) (re_mul (re_int) (b_len (by rfl) (by rfl) (by rfl) T.n_len (rl_cons (re_var 2) (rl_nil))))) (re_var 4)) (rl_nil)) (rk_nil))) (rs_cons (rs_dput (hu_of hr) (re_attr (fxw T.fx) (f := 26) (by decide) rfl (re_var 0)) (re_var 5) (c_make (calS h2.f_Thing_init (sh_Thing_init_0 T)) rfl T.k_Thing hr rfl T.g_Thing tk (rl_cons (re_var 1) (rl_cons (re_var 2) (rl_cons (re_var 3) (rl_cons (re_var 6) (rl_nil))))) (rk_nil))) (rs_cons (rs_for hp rfl (ri_any rfl (re_var 2)) (rg_name 7 sc_Things_new_thing.nd rfl (Or.inl rfl)) (rs_one (rs_if (t_isn (re_var 7) (re_non)) (rs_one (rs_augA (fxw T.fx) (f := 20) (by decide) rfl (re_dget (hu_of hr) (re_attr (fxw T.fx) (f := 26) (by decide) rfl (re_var 0)) (re_var 7)) (re_int) in_add)) (rs_nil)))) (rs_cons (rs_if (t_ne hr rfl (re_var 1) (re_gs T.i_LEAF rfl)) (rs_one (rs_expr (c_meth (C := He.ga K "World") (calS h1.f_Things_track (sh_Things_track_1 T)) (nf_ (fl := fl) "track" (by decide +kernel) (by decide +kernel)) rfl (re_var 0) T.c_World T.m_World_track hr tk (rl_cons (re_var 5) (rl_nil)) (rk_nil)))) (rs_nil)) (rs_one (rs_ret (re_var 5))))))))
theorem d_Things_look_bound (T : TX K mg w scr ns) (h1 : LV P w K mg base scr ns (n + 1) φ) (h2 : LV P w K mg base scr ns n φm) : FnOk P w K mg base (L2.CX P w) (n + 2) (He.fAd K ("World", some "look_bound")) (fdAt K (He.fAd K ("World", some "look_bound"))) P_Things_look_bound (spM (Gv K scr ns) 2 (runB 2 (b_Things_look_bound φ φm))) :=
  fn_okM T.d_Things_look_bound sc_Things_look_bound rfl rfl fun od cdv A outer s H E hr tk hp => rs_cons (rs_if (PW.pt (rw_or (rt_not (rt_val (c_call (calS h1.f_is_name (sh_is_name_0 T)) hr rfl T.g_is_name T.d_is_name.kp tk (rl_cons (re_var 1) (rl_nil)) (rk_nil)))) (rw_or1 (rt_dnotin (hu_of hr) (re_var 1) (re_attr (fxw T.fx) (f := 27) (by decide) rfl (re_var 0)))))) (rs_one (rs_bad)) (rs_nil)) (rs_one (rs_ret (re_dget (hu_of hr) (re_attr (fxw T.fx) (f := 27) (by decide) rfl (re_var 0)) (re_var 1))))
theorem d_Things_targets_of (T : TX K mg w scr ns) (h1 : LV P w K mg base scr ns (n + 1) φ) (h2 : LV P w K mg base scr ns n φm) : FnOk P w K mg base (L2.CX P w) (n + 2) (He.fAd K ("World", some "targets_of")) (fdAt K (He.fAd K ("World", some "targets_of"))) P_Things_targets_of (spM (Gv K scr ns) 2 (runB 4 (b_Things_targets_of φ φm))) :=
  fn_okM T.d_Things_targets_of sc_Things_targets_of rfl rfl fun od cdv A outer s H E hr tk hp => rs_one (rs_ret (re_dc [2] rfl sc_Things_targets_of.nd (ri_any rfl (re_var 1)) (blkOk_by (N := N_Things_targets_of) (sc := (defScope s_Things_targets_of)) (own := [("number", 2)]) (by decide +kernel)) rfl (by decide) (fun _ _ _ _ _ => pg_name (i := 2) sc_Things_targets_of.nd rfl (Or.inl rfl)) (fun _ _ _ _ _ => rts_nil) (fun _ _ _ _ _ => re_var 2) (fun _ _ _ _ _ => re_lc [3] rfl sc_Things_targets_of.nd (ri_any rfl (re_attr (fxw T.fx) (f := 17) (by decide) rfl (re_dget (hu_of hr) (re_attr (fxw T.fx) (f := 26) (by decide) rfl (re_var 0)) (re_var 2)))) (blkOk_by (own := [("other", 3)]) (by rfl)) rfl (by decide) (fun _ _ _ _ _ => pg_name (i := 3) sc_Things_targets_of.nd rfl (Or.inl rfl)) (fun _ _ _ _ _ => rts_one (t_isn (re_var 3) (re_non))) (fun _ _ _ _ _ => re_var 3))))
theorem d_Things_sifted (T : TX K mg w scr ns) (h1 : LV P w K mg base scr ns (n + 1) φ) (h2 : LV P w K mg base scr ns n φm) : FnOk P w K mg base (L2.CX P w) (n + 2) (He.fAd K ("World", some "sifted")) (fdAt K (He.fAd K ("World", some "sifted"))) P_Things_sifted (spM (Gv K scr ns) 2 (runB 4 (b_Things_sifted φ φm))) :=
  fn_okM T.d_Things_sifted sc_Things_sifted rfl rfl fun od cdv A outer s H E hr tk hp => rs_cons (rs_setDc (i := 2) [3] rfl sc_Things_sifted.nd rfl rfl (sw_trueD rfl rfl rfl (by decide +kernel)) (ri_any rfl (re_var 1)) (blkOk_by (N := N_Things_sifted) (sc := (defScope s_Things_sifted)) (own := [("number", 3)]) (by decide +kernel)) rfl (by decide) (fun _ _ _ _ _ => pg_name (i := 3) sc_Things_sifted.nd rfl (Or.inl rfl)) (fun _ _ _ _ _ => rts_nil) (fun _ _ _ _ _ => re_var 3) (fun _ _ _ _ _ => re_attr (fxw T.fx) (f := 20) (by decide) rfl (re_dget (hu_of hr) (re_attr (fxw T.fx) (f := 26) (by decide) rfl (re_var 0)) (re_var 3)))) (rs_one (rs_ret (c_call (calS h1.f_sift (sh_sift_0 T)) hr rfl T.g_sift T.d_sift.kp tk (rl_cons (re_var 1) (rl_cons (re_var 2) (rl_cons (c_meth (C := He.ga K "World") (calS h1.f_Things_targets_of (sh_Things_targets_of_0 T)) (nf_ (fl := fl) "targets_of" (by decide +kernel) (by decide +kernel)) rfl (re_var 0) T.c_World T.m_World_targets_of hr tk (rl_cons (re_var 1) (rl_nil)) (rk_nil)) (rl_nil)))) (rk_nil))))
theorem d_Dying_init (T : TX K mg w scr ns) (h1 : LV P w K mg base scr ns (n + 1) φ) (h2 : LV P w K mg base scr ns n φm) : FnOk P w K mg base (L2.CX P w) (n + 2) (He.fAd K ("Dying", some "__init__")) (fdAt K (He.fAd K ("Dying", some "__init__"))) P_Dying_init (spM (Gv K scr ns) 4 (runB 4 (b_Dying_init φ φm))) :=
  fn_okM T.d_Dying_init sc_Dying_init rfl rfl fun od cdv A outer s H E hr tk hp => rs_cons (rs_expr (c_cfn (calS h1.f_Things_init (sh_Things_init_0 T)) T.cf_Things hr rfl T.g_Things tk (rl_cons (re_var 0) (rl_nil)) (rk_cons (re_var 1) (rk_cons (re_var 2) (rk_nil))))) (rs_cons (rs_setA (fxw T.fx) (f := 33) (by decide) rfl (re_var 0) (re_var 3)) (rs_cons (rs_setA (fxw T.fx) (f := 34) (by decide) rfl (re_var 0) (re_int)) (rs_one (rs_setA (fxw T.fx) (f := 35) (by decide) rfl (re_var 0) (re_lst (rl_nil))))))
theorem d_Dying_hold (T : TX K mg w scr ns) (h1 : LV P w K mg base scr ns (n + 1) φ) (h2 : LV P w K mg base scr ns n φm) : FnOk P w K mg base (L2.CX P w) (n + 2) (He.fAd K ("World", some "hold")) (fdAt K (He.fAd K ("World", some "hold"))) P_Dying_hold (spM (Gv K scr ns) 2 (runB 2 (b_Dying_hold φ φm))) :=
  fn_okM T.d_Dying_hold sc_Dying_hold rfl rfl fun od cdv A outer s H E hr tk hp => rs_one (rs_augA (fxw T.fx) (f := 20) (by decide) rfl (re_dget (hu_of hr) (re_attr (fxw T.fx) (f := 26) (by decide) rfl (re_var 0)) (re_var 1)) (re_int) in_add)
theorem d_Dying_let_go (T : TX K mg w scr ns) (h1 : LV P w K mg base scr ns (n + 1) φ) (h2 : LV P w K mg base scr ns n φm) : FnOk P w K mg base (L2.CX P w) (n + 2) (He.fAd K ("World", some "let_go")) (fdAt K (He.fAd K ("World", some "let_go"))) P_Dying_let_go (spM (Gv K scr ns) 2 (runB 3 (b_Dying_let_go φ φm))) :=
  fn_okM T.d_Dying_let_go sc_Dying_let_go rfl rfl fun od cdv A outer s H E hr tk hp => rs_cons (rs_set 2 sc_Dying_let_go.nd rfl (Or.inl rfl) (re_dget (hu_of hr) (re_attr (fxw T.fx) (f := 26) (by decide) rfl (re_var 0)) (re_var 1))) (rs_cons (rs_augA (fxw T.fx) (f := 20) (by decide) rfl (re_var 2) (re_int) in_sub) (rs_one (rs_if (t_eq hr rfl (re_attr (fxw T.fx) (f := 20) (by decide) rfl (re_var 2)) (re_int)) (rs_one (rs_expr (c_meth (C := He.ga K "World") (calS h1.f_Dying_die (sh_Dying_die_0 T)) (nf_ (fl := fl) "die" (by decide +kernel) (by decide +kernel)) rfl (re_var 0) T.c_World T.m_World_die hr tk (rl_cons (re_var 1) (rl_nil)) (rk_nil)))) (rs_nil))))
theorem d_Dying_bind (T : TX K mg w scr ns) (h1 : LV P w K mg base scr ns (n + 1) φ) (h2 : LV P w K mg base scr ns n φm) : FnOk P w K mg base (L2.CX P w) (n + 2) (He.fAd K ("World", some "bind")) (fdAt K (He.fAd K ("World", some "bind"))) P_Dying_bind (spM (Gv K scr ns) 3 (runB 4 (b_Dying_bind φ φm))) :=
  fn_okM T.d_Dying_bind sc_Dying_bind rfl rfl fun od cdv A outer s H E hr tk hp => rs_cons (rs_set 3 sc_Dying_bind.nd rfl (Or.inl rfl) (re_get2 (hu_of hr) (re_attr (fxw T.fx) (f := 27) (by decide) rfl (re_var 0)) (re_var 1) (re_non))) (rs_cons (rs_expr (c_meth (C := He.ga K "World") (calS h1.f_Dying_hold (sh_Dying_hold_0 T)) (nf_ (fl := fl) "hold" (by decide +kernel) (by decide +kernel)) rfl (re_var 0) T.c_World T.m_World_hold hr tk (rl_cons (re_var 2) (rl_nil)) (rk_nil))) (rs_cons (rs_dput (hu_of hr) (re_attr (fxw T.fx) (f := 27) (by decide) rfl (re_var 0)) (re_var 1) (re_var 2)) (rs_one (rs_if (t_isn (re_var 3) (re_non)) (rs_one (rs_expr (c_meth (C := He.ga K "World") (calS h1.f_Dying_let_go (sh_Dying_let_go_0 T)) (nf_ (fl := fl) "let_go" (by decide +kernel) (by decide +kernel)) rfl (re_var 0) T.c_World T.m_World_let_go hr tk (rl_cons (re_var 3) (rl_nil)) (rk_nil)))) (rs_nil)))))
theorem d_Dying_unbind (T : TX K mg w scr ns) (h1 : LV P w K mg base scr ns (n + 1) φ) (h2 : LV P w K mg base scr ns n φm) : FnOk P w K mg base (L2.CX P w) (n + 2) (He.fAd K ("World", some "unbind")) (fdAt K (He.fAd K ("World", some "unbind"))) P_Dying_unbind (spM (Gv K scr ns) 2 (runB 2 (b_Dying_unbind φ φm))) :=
  fn_okM T.d_Dying_unbind sc_Dying_unbind rfl rfl fun od cdv A outer s H E hr tk hp => rs_one (rs_expr (c_meth (C := He.ga K "World") (calS h1.f_Dying_let_go (sh_Dying_let_go_0 T)) (nf_ (fl := fl) "let_go" (by decide +kernel) (by decide +kernel)) rfl (re_var 0) T.c_World T.m_World_let_go hr tk (rl_cons (re_dpop (re_attr (fxw T.fx) (f := 27) (by decide) rfl (re_var 0)) (re_var 1)) (rl_nil)) (rk_nil)))
theorem d_Dying_empty_slot (T : TX K mg w scr ns) (h1 : LV P w K mg base scr ns (n + 1) φ) (h2 : LV P w K mg base scr ns n φm) : FnOk P w K mg base (L2.CX P w) (n + 2) (He.fAd K ("World", some "empty_slot")) (fdAt K (He.fAd K ("World", some "empty_slot"))) P_Dying_empty_slot (spM (Gv K scr ns) 3 (runB 5 (b_Dying_empty_slot φ φm))) :=
  fn_okM T.d_Dying_empty_slot sc_Dying_empty_slot rfl rfl fun od cdv A outer s H E hr tk hp => rs_cons (rs_set 3 sc_Dying_empty_slot.nd rfl (Or.inl rfl) (re_dget (hu_of hr) (re_attr (fxw T.fx) (f := 26) (by decide) rfl (re_var 0)) (re_var 1))) (rs_cons (rs_asg (re_tup (rl_cons (re_ix rfl (re_attr (fxw T.fx) (f := 17) (by decide) rfl (re_var 3)) (re_var 2)) (rl_cons (re_non) (rl_nil)))) (rg_tup rfl rfl (rg_cons (rg_name 4 sc_Dying_empty_slot.nd rfl (Or.inl rfl)) (rg_cons (rg_sub (re_attr (fxw T.fx) (f := 17) (by decide) rfl (re_var 3)) (re_var 2)) (rg_nil))))) (rs_one (rs_if (t_isn (re_var 4) (re_non)) (rs_one (rs_expr (c_meth (C := He.ga K "World") (calS h1.f_Dying_let_go (sh_Dying_let_go_0 T)) (nf_ (fl := fl) "let_go" (by decide +kernel) (by decide +kernel)) rfl (re_var 0) T.c_World T.m_World_let_go hr tk (rl_cons (re_var 4) (rl_nil)) (rk_nil)))) (rs_nil))))
theorem d_Dying_die (T : TX K mg w scr ns) (h1 : LV P w K mg base scr ns (n + 1) φ) (h2 : LV P w K mg base scr ns n φm) : FnOk P w K mg base (L2.CX P w) (n + 2) (He.fAd K ("World", some "die")) (fdAt K (He.fAd K ("World", some "die"))) P_Dying_die (spM (Gv K scr ns) 2 (runB 3 (b_Dying_die φ φm))) :=
  fn_okM T.d_Dying_die sc_Dying_die rfl rfl fun od cdv A outer s H E hr tk hp => rs_cons (rs_set 2 sc_Dying_die.nd rfl (Or.inl rfl) (re_dget (hu_of hr) (re_attr (fxw T.fx) (f := 26) (by decide) rfl (re_var 0)) (re_var 1))) (rs_cons (rs_expr (c_meth (C := He.ga K "World") (calS h1.f_Things_untrack (sh_Things_untrack_0 T)) (nf_ (fl := fl) "untrack" (by decide +kernel) (by decide +kernel)) rfl (re_var 0) T.c_World T.m_World_untrack hr tk (rl_cons (re_var 1) (rl_nil)) (rk_nil))) (rs_one (rs_if (t_nin hr rfl (re_attr (fxw T.fx) (f := 16) (by decide) rfl (re_var 2)) (re_tup (rl_cons (re_gs T.i_ROW rfl) (rl_cons (re_gs T.i_FIXED rfl) (rl_nil))))) (rs_one (rs_expr (c_meth (C := He.ga K "World") (calS h1.f_Dying_end (sh_Dying_end_0 T)) (nf_ (fl := fl) "end" (by decide +kernel) (by decide +kernel)) rfl (re_var 0) T.c_World T.m_World_end hr tk (rl_cons (re_var 1) (rl_nil)) (rk_nil)))) (rs_one (rs_if (t_ge (re_attr (fxw T.fx) (f := 34) (by decide) rfl (re_var 0)) (re_attr (fxw T.fx) (f := 33) (by decide) rfl (re_var 0))) (rs_one (rs_expr (re_lm rfl PySem.F.slot_list_append PySem.F.type_list_append mt_append cm_append (re_attr (fxw T.fx) (f := 35) (by decide) rfl (re_var 0)) (rl_cons (re_var 1) (rl_nil))))) (rs_cons (rs_augA (fxw T.fx) (f := 34) (by decide) rfl (re_var 0) (re_int) in_add) (rs_cons (rs_fin (rs_one (rs_expr (c_meth (C := He.ga K "World") (calS h1.f_Dying_end (sh_Dying_end_0 T)) (nf_ (fl := fl) "end" (by decide +kernel) (by decide +kernel)) rfl (re_var 0) T.c_World T.m_World_end hr takes0 (rl_cons (re_var 1) (rl_nil)) (rk_nil)))) (rs_one (rs_augA (fxw T.fx) (f := 34) (by decide) rfl (re_var 0) (re_int) in_sub))) (rs_one (rs_expr (c_meth0 (C := He.ga K "World") (calS h1.f_Dying_end_aside (sh_Dying_end_aside_0 T)) (nf_ (fl := fl) "end_aside" (by decide +kernel) (by decide +kernel)) rfl (re_var 0) T.c_World T.m_World_end_aside hr tk (rk_nil)))))))))))
theorem d_Dying_end_aside (T : TX K mg w scr ns) (h1 : LV P w K mg base scr ns (n + 1) φ) (h2 : LV P w K mg base scr ns n φm) : FnOk P w K mg base (L2.CX P w) (n + 2) (He.fAd K ("World", some "end_aside")) (fdAt K (He.fAd K ("World", some "end_aside"))) P_Dying_end_aside (spM (Gv K scr ns) 1 (runB 1 (b_Dying_end_aside φ φm))) :=
  fn_okM T.d_Dying_end_aside sc_Dying_end_aside rfl rfl fun od cdv A outer s H E hr tk hp => rs_one (rs_if (PW.pt (rw_and (t_eq hr rfl (re_attr (fxw T.fx) (f := 34) (by decide) rfl (re_var 0)) (re_int)) (rw_and1 (t_ne hr rfl (re_attr (fxw T.fx) (f := 35) (by decide) rfl (re_var 0)) (re_lst (rl_nil)))))) (rs_cons (rs_augA (fxw T.fx) (f := 34) (by decide) rfl (re_var 0) (re_int) in_add) (rs_one (rs_fin (rs_one (rs_while PassesOwn.never (t_ne hr rfl (re_attr (fxw T.fx) (f := 35) (by decide) rfl (re_var 0)) (re_lst (rl_nil))) (rs_one (rs_expr (c_meth (C := He.ga K "World") (calS h1.f_Dying_die (sh_Dying_die_0 T)) (nf_ (fl := fl) "die" (by decide +kernel) (by decide +kernel)) rfl (re_var 0) T.c_World T.m_World_die hr takes0 (rl_cons (re_lm0 rfl PySem.F.slot_list_pop PySem.F.type_list_pop mt_pop cm_pop (re_attr (fxw T.fx) (f := 35) (by decide) rfl (re_var 0))) (rl_nil)) (rk_nil)))))) (rs_one (rs_augA (fxw T.fx) (f := 34) (by decide) rfl (re_var 0) (re_int) in_sub))))) (rs_nil))
theorem d_Dying_end (T : TX K mg w scr ns) (h1 : LV P w K mg base scr ns (n + 1) φ) (h2 : LV P w K mg base scr ns n φm) : FnOk P w K mg base (L2.CX P w) (n + 2) (He.fAd K ("World", some "end")) (fdAt K (He.fAd K ("World", some "end"))) P_Dying_end (spM (Gv K scr ns) 2 (runB 4 (b_Dying_end φ φm))) :=
  fn_okM T.d_Dying_end sc_Dying_end rfl rfl fun od cdv A outer s H E hr tk hp => rs_cons (rs_set 2 sc_Dying_end.nd rfl (Or.inl rfl) (re_dget (hu_of hr) (re_attr (fxw T.fx) (f := 26) (by decide) rfl (re_var 0)) (re_var 1))) (rs_cons (rs_if (PW.pt (rw_and (t_ne hr rfl (re_attr (fxw T.fx) (f := 18) (by decide) rfl (re_var 2)) (re_tup (rl_nil))) (rw_and (t_ne hr rfl (re_attr (fxw T.fx) (f := 16) (by decide) rfl (re_var 2)) (re_gs T.i_WEAK rfl)) (rw_and1 (rt_not (rt_val (re_attr (fxw T.fx) (f := 23) (by decide) rfl (re_var 2)))))))) (rs_cons (rs_expr (c_meth (C := He.ga K "World") (calS h1.f_Dying_hold (sh_Dying_hold_0 T)) (nf_ (fl := fl) "hold" (by decide +kernel) (by decide +kernel)) rfl (re_var 0) T.c_World T.m_World_hold hr tk (rl_cons (re_var 1) (rl_nil)) (rk_nil))) (rs_cons (rs_if (t_ne hr rfl (re_attr (fxw T.fx) (f := 16) (by decide) rfl (re_var 2)) (re_gs T.i_LEAF rfl)) (rs_one (rs_expr (c_meth (C := He.ga K "World") (calS h1.f_Things_track (sh_Things_track_1 T)) (nf_ (fl := fl) "track" (by decide +kernel) (by decide +kernel)) rfl (re_var 0) T.c_World T.m_World_track hr tk (rl_cons (re_var 1) (rl_nil)) (rk_nil)))) (rs_nil)) (rs_cons (rs_expr (c_meth (C := He.ga K "World") (calS h1.f_Dying_ask_last (sh_Dying_ask_last_0 T)) (nf_ (fl := fl) "ask_last" (by decide +kernel) (by decide +kernel)) rfl (re_var 0) T.c_World T.m_World_ask_last hr tk (rl_cons (re_var 1) (rl_nil)) (rk_nil))) (rs_cons (rs_augA (fxw T.fx) (f := 20) (by decide) rfl (re_var 2) (re_int) in_sub) (rs_cons (rs_if (t_gt (re_attr (fxw T.fx) (f := 20) (by decide) rfl (re_var 2)) (re_int)) (rs_one (rs_ret (re_non))) (rs_nil)) (rs_one (rs_expr (c_meth (C := He.ga K "World") (calS h1.f_Things_untrack (sh_Things_untrack_0 T)) (nf_ (fl := fl) "untrack" (by decide +kernel) (by decide +kernel)) rfl (re_var 0) T.c_World T.m_World_untrack hr tk (rl_cons (re_var 1) (rl_nil)) (rk_nil))))))))) (rs_nil)) (rs_cons (rs_expr (c_meth (C := He.ga K "World") (calS h1.f_Dying_forget_weakly (sh_Dying_forget_weakly_0 T)) (nf_ (fl := fl) "forget_weakly" (by decide +kernel) (by decide +kernel)) rfl (re_var 0) T.c_World T.m_World_forget_weakly hr tk (rl_cons (re_var 1) (rl_nil)) (rk_nil))) (rs_cons (rs_for hp rfl (ri_rev1 rfl T.n_reversed rfl T.n_range (b_len (by rfl) (by rfl) (by rfl) T.n_len (rl_cons (re_attr (fxw T.fx) (f := 17) (by decide) rfl (re_var 2)) (rl_nil)))) (rg_name 3 sc_Dying_end.nd rfl (Or.inl rfl)) (rs_one (rs_expr (c_meth (C := He.ga K "World") (calS h1.f_Dying_empty_slot (sh_Dying_empty_slot_0 T)) (nf_ (fl := fl) "empty_slot" (by decide +kernel) (by decide +kernel)) rfl (re_var 0) T.c_World T.m_World_empty_slot hr tk (rl_cons (re_var 1) (rl_cons (re_var 3) (rl_nil))) (rk_nil))))) (rs_cons (rs_if (t_isn (re_attr (fxw T.fx) (f := 21) (by decide) rfl (re_var 2)) (re_non)) (rs_one (rs_expr (re_lm rfl PySem.F.slot_list_remove PySem.F.type_list_remove mt_remove cm_remove (re_attr (fxw T.fx) (f := 22) (by decide) rfl (re_dget (hu_of hr) (re_attr (fxw T.fx) (f := 26) (by decide) rfl (re_var 0)) (re_attr (fxw T.fx) (f := 21) (by decide) rfl (re_var 2)))) (rl_cons (re_var 1) (rl_nil))))) (rs_nil)) (rs_cons (rs_expr (c_meth (C := He.ga K "World") (calS h1.f_Dying_gone (sh_Dying_gone_0 T)) (nf_ (fl := fl) "gone" (by decide +kernel) (by decide +kernel)) rfl (re_var 0) T.c_World T.m_World_gone hr tk (rl_cons (re_var 1) (rl_nil)) (rk_nil))) (rs_one (rs_ret (re_non))))))))
theorem d_Dying_gone (T : TX K mg w scr ns) (h1 : LV P w K mg base scr ns (n + 1) φ) (h2 : LV P w K mg base scr ns n φm) : FnOk P w K mg base (L2.CX P w) (n + 2) (He.fAd K ("World", some "gone")) (fdAt K (He.fAd K ("World", some "gone"))) P_Dying_gone (spM (Gv K scr ns) 2 (runB 3 (b_Dying_gone φ φm))) :=
  fn_okM T.d_Dying_gone sc_Dying_gone rfl rfl fun od cdv A outer s H E hr tk hp => rs_cons (rs_set 2 sc_Dying_gone.nd rfl (Or.inl rfl) (re_dpop (re_attr (fxw T.fx) (f := 26) (by decide) rfl (re_var 0)) (re_var 1))) (rs_cons (rs_expr (c_meth (C := He.ga K "Blocks") (calS h1.f_Blocks_give (sh_Blocks_give_0 T)) (nf_ (fl := fl) "give" (by decide +kernel) (by decide +kernel)) rfl (re_attr (fxw T.fx) (f := 25) (by decide) rfl (re_var 0)) T.c_Blocks T.m_Blocks_give hr tk (rl_cons (re_attr (fxw T.fx) (f := 19) (by decide) rfl (re_var 2)) (rl_nil)) (rk_nil))) (rs_cons (rs_if (t_ne hr rfl (re_attr (fxw T.fx) (f := 16) (by decide) rfl (re_var 2)) (re_gs T.i_LEAF rfl)) (rs_one (rs_asg (b_max (by rfl) (by rfl) (by rfl) T.n_max (rl_cons (re_sub (re_ix rfl (re_attr (fxw T.fx) (f := 32) (by decide) rfl (re_var 0)) (re_int)) (re_int)) (rl_cons (re_int) (rl_nil)))) (rg_sub (re_attr (fxw T.fx) (f := 32) (by decide) rfl (re_var 0)) (re_int)))) (rs_nil)) (rs_cons (rs_augA (fxw T.fx) (f := 31) (by decide) rfl (re_var 0) (re_int) in_add) (rs_one (rs_expr (re_lm rfl PySem.F.slot_list_append PySem.F.type_list_append mt_append cm_append (re_attr (fxw T.fx) (f := 29) (by decide) rfl (re_var 0)) (rl_cons (re_tup (rl_cons (re_str) (rl_cons (re_var 1) (rl_nil)))) (rl_nil))))))))
theorem d_Dying_ask_last (T : TX K mg w scr ns) (h1 : LV P w K mg base scr ns (n + 1) φ) (h2 : LV P w K mg base scr ns n φm) : FnOk P w K mg base (L2.CX P w) (n + 2) (He.fAd K ("World", some "ask_last")) (fdAt K (He.fAd K ("World", some "ask_last"))) P_Dying_ask_last (spM (Gv K scr ns) 2 (runB 2 (b_Dying_ask_last φ φm))) :=
  fn_okM T.d_Dying_ask_last sc_Dying_ask_last rfl rfl fun od cdv A outer s H E hr tk hp => rs_cons (rs_setA (fxw T.fx) (f := 23) (by decide) rfl (re_dget (hu_of hr) (re_attr (fxw T.fx) (f := 26) (by decide) rfl (re_var 0)) (re_var 1)) (re_bl)) (rs_cons (rs_expr (re_lm rfl PySem.F.slot_list_append PySem.F.type_list_append mt_append cm_append (re_attr (fxw T.fx) (f := 29) (by decide) rfl (re_var 0)) (rl_cons (re_tup (rl_cons (re_str) (rl_cons (re_var 1) (rl_nil)))) (rl_nil)))) (rs_one (rs_expr (c_meth (C := He.ga K "World") (calS h1.f_Dying_do_steps (sh_Dying_do_steps_0 T)) (nf_ (fl := fl) "do_steps" (by decide +kernel) (by decide +kernel)) rfl (re_var 0) T.c_World T.m_World_do_steps hr tk (rl_cons (re_var 1) (rl_nil)) (rk_nil)))))
theorem d_Dying_do_steps (T : TX K mg w scr ns) (h1 : LV P w K mg base scr ns (n + 1) φ) (h2 : LV P w K mg base scr ns n φm) : FnOk P w K mg base (L2.CX P w) (n + 2) (He.fAd K ("World", some "do_steps")) (fdAt K (He.fAd K ("World", some "do_steps"))) P_Dying_do_steps (spM (Gv K scr ns) 2 (runB 4 (b_Dying_do_steps φ φm))) :=
  fn_okM T.d_Dying_do_steps sc_Dying_do_steps rfl rfl fun od cdv A outer s H E hr tk hp => rs_one (rs_bad)
theorem d_Dying_do_step (T : TX K mg w scr ns) (h1 : LV P w K mg base scr ns (n + 1) φ) (h2 : LV P w K mg base scr ns n φm) : FnOk P w K mg base (L2.CX P w) (n + 2) (He.fAd K ("World", some "do_step")) (fdAt K (He.fAd K ("World", some "do_step"))) P_Dying_do_step (spM (Gv K scr ns) 3 (runB 5 (b_Dying_do_step φ φm))) :=
  fn_okM T.d_Dying_do_step sc_Dying_do_step rfl rfl fun od cdv A outer s H E hr tk hp => rs_cons (rs_asg (re_var 2) (rg_star rfl rfl (rg_cons (rg_name 3 sc_Dying_do_step.nd rfl (Or.inl rfl)) (rg_cons (rg_name 4 sc_Dying_do_step.nd rfl (Or.inl rfl)) (rg_nil))))) (rs_cons (rs_if (t_eq hr rfl (re_var 3) (re_gs T.i_FAIL rfl)) (rs_one (rs_bad)) (rs_nil)) (rs_one (rs_if (t_eq hr rfl (re_var 3) (re_gs T.i_COLLECT rfl)) (rs_one (rs_expr (c_meth0 (C := He.ga K "World") (calS h1.f_Collecting_collect_within (sh_Collecting_collect_within_0 T)) (nf_ (fl := fl) "collect_within" (by decide +kernel) (by decide +kernel)) rfl (re_var 0) T.c_World T.m_World_collect_within hr tk (rk_nil)))) (rs_one (rs_if (t_eq hr rfl (re_var 3) (re_gs T.i_SAVE rfl)) (rs_one (rs_expr (c_meth (C := He.ga K "World") (calS h1.f_Dying_bind (sh_Dying_bind_0 T)) (nf_ (fl := fl) "bind" (by decide +kernel) (by decide +kernel)) rfl (re_var 0) T.c_World T.m_World_bind hr tk (rl_cons (re_ix rfl (re_var 4) (re_int)) (rl_cons (re_var 1) (rl_nil))) (rk_nil)))) (rs_one (rs_if (t_eq hr rfl (re_var 3) (re_gs T.i_FORGET rfl)) (rs_one (rs_if (rt_din (hu_of hr) (re_ix rfl (re_var 4) (re_int)) (re_attr (fxw T.fx) (f := 27) (by decide) rfl (re_var 0))) (rs_one (rs_expr (c_meth (C := He.ga K "World") (calS h1.f_Dying_unbind (sh_Dying_unbind_0 T)) (nf_ (fl := fl) "unbind" (by decide +kernel) (by decide +kernel)) rfl (re_var 0) T.c_World T.m_World_unbind hr tk (rl_cons (re_ix rfl (re_var 4) (re_int)) (rl_nil)) (rk_nil)))) (rs_nil))) (rs_one (rs_if (PW.pt (rw_and (t_eq hr rfl (re_attr (fxw T.fx) (f := 16) (by decide) rfl (re_dget (hu_of hr) (re_attr (fxw T.fx) (f := 26) (by decide) rfl (re_var 0)) (re_var 1))) (re_gs T.i_ROW rfl)) (rw_and1 (t_lt (re_ix rfl (re_var 4) (re_int)) (b_len (by rfl) (by rfl) (by rfl) T.n_len (rl_cons (re_attr (fxw T.fx) (f := 17) (by decide) rfl (re_dget (hu_of hr) (re_attr (fxw T.fx) (f := 26) (by decide) rfl (re_var 0)) (re_var 1))) (rl_nil))))))) (rs_one (rs_expr (c_meth (C := He.ga K "World") (calS h1.f_Dying_empty_slot (sh_Dying_empty_slot_0 T)) (nf_ (fl := fl) "empty_slot" (by decide +kernel) (by decide +kernel)) rfl (re_var 0) T.c_World T.m_World_empty_slot hr tk (rl_cons (re_var 1) (rl_cons (re_ix rfl (re_var 4) (re_int)) (rl_nil))) (rk_nil)))) (rs_nil))))))))))
theorem d_Dying_unwatch (T : TX K mg w scr ns) (h1 : LV P w K mg base scr ns (n + 1) φ) (h2 : LV P w K mg base scr ns n φm) : FnOk P w K mg base (L2.CX P w) (n + 2) (He.fAd K ("World", some "unwatch")) (fdAt K (He.fAd K ("World", some "unwatch"))) P_Dying_unwatch (spM (Gv K scr ns) 2 (runB 5 (b_Dying_unwatch φ φm))) :=
  fn_okM T.d_Dying_unwatch sc_Dying_unwatch rfl rfl fun od cdv A outer s H E hr tk hp => rs_cons (rs_set 2 sc_Dying_unwatch.nd rfl (Or.inl rfl) (re_dget (hu_of hr) (re_attr (fxw T.fx) (f := 26) (by decide) rfl (re_var 0)) (re_var 1))) (rs_cons (rs_asg (re_tup (rl_cons (re_attr (fxw T.fx) (f := 22) (by decide) rfl (re_var 2)) (rl_cons (re_lst (rl_nil)) (rl_nil)))) (rg_tup rfl rfl (rg_cons (rg_name 3 sc_Dying_unwatch.nd rfl (Or.inl rfl)) (rg_cons (rg_attr (fxw T.fx) (f := 22) (by decide) rfl (re_var 2)) (rg_nil))))) (rs_cons (rs_for hp rfl (ri_any rfl (re_var 3)) (rg_name 4 sc_Dying_unwatch.nd rfl (Or.inl rfl)) (rs_one (rs_setA (fxw T.fx) (f := 21) (by decide) rfl (re_dget (hu_of hr) (re_attr (fxw T.fx) (f := 26) (by decide) rfl (re_var 0)) (re_var 4)) (re_non)))) (rs_one (rs_ret (re_lc [4] rfl sc_Dying_unwatch.nd (ri_any rfl (re_var 3)) (blkOk_by (N := N_Dying_unwatch) (sc := (defScope s_Dying_unwatch)) (own := [("weak", 4)]) (by decide +kernel)) rfl (by decide) (fun _ _ _ _ _ => pg_name (i := 4) sc_Dying_unwatch.nd rfl (Or.inl rfl)) (fun _ _ _ _ _ => rts_one (t_ne hr rfl (re_attr (fxw T.fx) (f := 18) (by decide) rfl (re_dget (hu_of hr) (re_attr (fxw T.fx) (f := 26) (by decide) rfl (re_var 0)) (re_var 4))) (re_tup (rl_nil)))) (fun _ _ _ _ _ => re_var 4))))))
theorem d_Dying_call (T : TX K mg w scr ns) (h1 : LV P w K mg base scr ns (n + 1) φ) (h2 : LV P w K mg base scr ns n φm) : FnOk P w K mg base (L2.CX P w) (n + 2) (He.fAd K ("World", some "call")) (fdAt K (He.fAd K ("World", some "call"))) P_Dying_call (spM (Gv K scr ns) 2 (runB 2 (b_Dying_call φ φm))) :=
  fn_okM T.d_Dying_call sc_Dying_call rfl rfl fun od cdv A outer s H E hr tk hp => rs_cons (rs_expr (re_lm rfl PySem.F.slot_list_append PySem.F.type_list_append mt_append cm_append (re_attr (fxw T.fx) (f := 29) (by decide) rfl (re_var 0)) (rl_cons (re_tup (rl_cons (re_str) (rl_cons (re_var 1) (rl_nil)))) (rl_nil)))) (rs_one (rs_expr (c_meth (C := He.ga K "World") (calS h1.f_Dying_do_steps (sh_Dying_do_steps_0 T)) (nf_ (fl := fl) "do_steps" (by decide +kernel) (by decide +kernel)) rfl (re_var 0) T.c_World T.m_World_do_steps hr tk (rl_cons (re_var 1) (rl_nil)) (rk_nil))))
theorem d_Dying_call_all (T : TX K mg w scr ns) (h1 : LV P w K mg base scr ns (n + 1) φ) (h2 : LV P w K mg base scr ns n φm) : FnOk P w K mg base (L2.CX P w) (n + 2) (He.fAd K ("World", some "call_all")) (fdAt K (He.fAd K ("World", some "call_all"))) P_Dying_call_all (spM (Gv K scr ns) 2 (runB 3 (b_Dying_call_all φ φm))) :=
  fn_okM T.d_Dying_call_all sc_Dying_call_all rfl rfl fun od cdv A outer s H E hr tk hp => rs_cons (rs_for hp rfl (ri_any rfl (re_var 1)) (rg_name 2 sc_Dying_call_all.nd rfl (Or.inl rfl)) (rs_one (rs_expr (c_meth (C := He.ga K "World") (calS h1.f_Dying_hold (sh_Dying_hold_0 T)) (nf_ (fl := fl) "hold" (by decide +kernel) (by decide +kernel)) rfl (re_var 0) T.c_World T.m_World_hold hr tk (rl_cons (re_var 2) (rl_nil)) (rk_nil))))) (rs_one (rs_for hp rfl (ri_any rfl (re_var 1)) (rg_name 2 sc_Dying_call_all.nd rfl (Or.inl rfl)) (rs_cons (rs_expr (c_meth (C := He.ga K "World") (calS h1.f_Dying_call (sh_Dying_call_0 T)) (nf_ (fl := fl) "call" (by decide +kernel) (by decide +kernel)) rfl (re_var 0) T.c_World T.m_World_call hr tk (rl_cons (re_var 2) (rl_nil)) (rk_nil))) (rs_one (rs_expr (c_meth (C := He.ga K "World") (calS h1.f_Dying_let_go (sh_Dying_let_go_0 T)) (nf_ (fl := fl) "let_go" (by decide +kernel) (by decide +kernel)) rfl (re_var 0) T.c_World T.m_World_let_go hr tk (rl_cons (re_var 2) (rl_nil)) (rk_nil)))))))
theorem d_Dying_forget_weakly (T : TX K mg w scr ns) (h1 : LV P w K mg base scr ns (n + 1) φ) (h2 : LV P w K mg base scr ns n φm) : FnOk P w K mg base (L2.CX P w) (n + 2) (He.fAd K ("World", some "forget_weakly")) (fdAt K (He.fAd K ("World", some "forget_weakly"))) P_Dying_forget_weakly (spM (Gv K scr ns) 2 (runB 3 (b_Dying_forget_weakly φ φm))) :=
  fn_okM T.d_Dying_forget_weakly sc_Dying_forget_weakly rfl rfl fun od cdv A outer s H E hr tk hp => rs_one (rs_expr (c_meth (C := He.ga K "World") (calS h1.f_Dying_call_all (sh_Dying_call_all_0 T)) (nf_ (fl := fl) "call_all" (by decide +kernel) (by decide +kernel)) rfl (re_var 0) T.c_World T.m_World_call_all hr tk (rl_cons (re_lc [2] rfl sc_Dying_forget_weakly.nd (ri_any rfl (c_meth (C := He.ga K "World") (calS h1.f_Dying_unwatch (sh_Dying_unwatch_0 T)) (nf_ (fl := fl) "unwatch" (by decide +kernel) (by decide +kernel)) rfl (re_var 0) T.c_World T.m_World_unwatch hr tk (rl_cons (re_var 1) (rl_nil)) (rk_nil))) (blkOk_by (N := N_Dying_forget_weakly) (sc := (defScope s_Dying_forget_weakly)) (own := [("weak", 2)]) (by decide +kernel)) rfl (by decide) (fun _ _ _ _ _ => pg_name (i := 2) sc_Dying_forget_weakly.nd rfl (Or.inl rfl)) (fun _ _ _ _ _ => rts_one (t_gt (re_attr (fxw T.fx) (f := 20) (by decide) rfl (re_dget (hu_of hr) (re_attr (fxw T.fx) (f := 26) (by decide) rfl (re_var 0)) (re_var 2))) (re_int))) (fun _ _ _ _ _ => re_var 2)) (rl_nil)) (rk_nil)))
theorem d_Collecting_init (T : TX K mg w scr ns) (h1 : LV P w K mg base scr ns (n + 1) φ) (h2 : LV P w K mg base scr ns n φm) : FnOk P w K mg base (L2.CX P w) (n + 2) (He.fAd K ("Collecting", some "__init__")) (fdAt K (He.fAd K ("Collecting", some "__init__"))) P_Collecting_init (spM (Gv K scr ns) 4 (runB 4 (b_Collecting_init φ φm))) :=
  fn_okM T.d_Collecting_init sc_Collecting_init rfl rfl fun od cdv A outer s H E hr tk hp => rs_cons (rs_expr (c_cfn (calS h1.f_Dying_init (sh_Dying_init_0 T)) T.cf_Dying hr rfl T.g_Dying tk (rl_cons (re_var 0) (rl_nil)) (rk_cons (re_var 1) (rk_cons (re_var 2) (rk_cons (re_var 3) (rk_nil)))))) (rs_cons (rs_setA (fxw T.fx) (f := 36) (by decide) rfl (re_var 0) (b_list (by rfl) (by rfl) (by rfl) T.n_list (rl_cons (re_globR (n := 3) (by show 3 < 4; decide) rfl T.g_BOUNDS) (rl_nil)))) (rs_cons (rs_setA (fxw T.fx) (f := 37) (by decide) rfl (re_var 0) (re_bl)) (rs_cons (rs_setA (fxw T.fx) (f := 38) (by decide) rfl (re_var 0) (re_bl)) (rs_cons (rs_asg2 (re_int) (rg_attr (fxw T.fx) (f := 39) (by decide) rfl (re_var 0)) (rg_attr (fxw T.fx) (f := 40) (by decide) rfl (re_var 0))) (rs_cons (rs_setA (fxw T.fx) (f := 41) (by decide) rfl (re_var 0) (re_lst (rl_cons (re_int) (rl_cons (re_int) (rl_cons (re_int) (rl_nil)))))) (rs_one (rs_setA (fxw T.fx) (f := 42) (by decide) rfl (re_var 0) (re_lst (rl_cons (re_int) (rl_cons (re_int) (rl_cons (re_int) (rl_nil))))))))))))
theorem d_Collecting_collect_within (T : TX K mg w scr ns) (h1 : LV P w K mg base scr ns (n + 1) φ) (h2 : LV P w K mg base scr ns n φm) : FnOk P w K mg base (L2.CX P w) (n + 2) (He.fAd K ("World", some "collect_within")) (fdAt K (He.fAd K ("World", some "collect_within"))) P_Collecting_collect_within (spM (Gv K scr ns) 1 (runB 1 (b_Collecting_collect_within φ φm))) :=
  fn_okM T.d_Collecting_collect_within sc_Collecting_collect_within rfl rfl fun od cdv A outer s H E hr tk hp => rs_one (rs_ret (c_meth (C := He.ga K "World") (calS h1.f_Collecting_collect_at (sh_Collecting_collect_at_0 T)) (nf_ (fl := fl) "collect_at" (by decide +kernel) (by decide +kernel)) rfl (re_var 0) T.c_World T.m_World_collect_at hr tk (rl_cons (re_gi T.i_OLDEST rfl) (rl_nil)) (rk_nil)))
theorem d_Collecting_collect_at (T : TX K mg w scr ns) (h1 : LV P w K mg base scr ns (n + 1) φ) (h2 : LV P w K mg base scr ns n φm) : FnOk P w K mg base (L2.CX P w) (n + 2) (He.fAd K ("World", some "collect_at")) (fdAt K (He.fAd K ("World", some "collect_at"))) P_Collecting_collect_at (spM (Gv K scr ns) 2 (runB 3 (b_Collecting_collect_at φ φm))) :=
  fn_okM T.d_Collecting_collect_at sc_Collecting_collect_at rfl rfl fun od cdv A outer s H E hr tk hp => rs_cons (rs_if (rt_val (re_attr (fxw T.fx) (f := 38) (by decide) rfl (re_var 0))) (rs_one (rs_ret (re_int))) (rs_nil)) (rs_cons (rs_setA (fxw T.fx) (f := 38) (by decide) rfl (re_var 0) (re_bl)) (rs_cons (rs_set 2 sc_Collecting_collect_at.nd rfl (Or.inl rfl) (re_int)) (rs_cons (rs_fin (rs_one (rs_set 2 sc_Collecting_collect_at.nd rfl (Or.inl rfl) (c_meth (C := He.ga K "World") (calS h1.f_Collecting_tour (sh_Collecting_tour_0 T)) (nf_ (fl := fl) "tour" (by decide +kernel) (by decide +kernel)) rfl (re_var 0) T.c_World T.m_World_tour hr takes0 (rl_cons (re_var 1) (rl_nil)) (rk_nil)))) (rs_one (rs_setA (fxw T.fx) (f := 38) (by decide) rfl (re_var 0) (re_bl)))) (rs_one (rs_ret (re_var 2))))))
theorem d_Collecting_tour (T : TX K mg w scr ns) (h1 : LV P w K mg base scr ns (n + 1) φ) (h2 : LV P w K mg base scr ns n φm) : FnOk P w K mg base (L2.CX P w) (n + 2) (He.fAd K ("World", some "tour")) (fdAt K (He.fAd K ("World", some "tour"))) P_Collecting_tour (spM (Gv K scr ns) 2 (runB 11 (b_Collecting_tour φ φm))) :=
  fn_okM T.d_Collecting_tour sc_Collecting_tour rfl rfl fun od cdv A outer s H E hr tk hp => rs_cons (rs_setA (fxw T.fx) (f := 32) (by decide) rfl (re_var 0) (re_lc [2, 3] rfl sc_Collecting_tour.nd (ri_enum rfl rfl T.n_enumerate (re_attr (fxw T.fx) (f := 32) (by decide) rfl (re_var 0))) (blkOk_by (N := N_Collecting_tour) (sc := (defScope s_Collecting_tour)) (own := [("at", 2), ("many", 3)]) (by decide +kernel)) rfl (by decide) (fun _ _ _ _ _ => pg_tup rfl (pgs_cons (pg_name (i := 2) sc_Collecting_tour.nd rfl (Or.inl rfl)) (pgs_cons (pg_name (i := 3) sc_Collecting_tour.nd rfl (Or.inl rfl)) (pgs_nil)))) (fun _ _ _ _ _ => rts_nil) (fun _ _ _ _ _ => re_ifExp (t_le (re_var 2) (re_var 1)) (re_int) (re_add rfl (re_var 3) (b_int (by rfl) (by rfl) (by rfl) T.n_int (rl_cons (e_eq hr rfl (re_var 2) (re_add rfl (re_var 1) (re_int))) (rl_nil))))))) (rs_cons (rs_set 4 sc_Collecting_tour.nd rfl (Or.inl rfl) (re_add rfl (re_ix rfl (re_attr (fxw T.fx) (f := 28) (by decide) rfl (re_var 0)) (re_var 1)) (re_lc2 [2, 5] [5] rfl sc_Collecting_tour.nd (ri_r1 rfl T.n_range (re_var 1)) (blkOk_by (N := N_Collecting_tour) (sc := (defScope s_Collecting_tour)) (own := [("at", 2), ("number", 5)]) (by decide +kernel)) rfl (by decide) (by decide) (by decide) (fun _ _ _ _ _ => pg_name (i := 2) sc_Collecting_tour.nd rfl (Or.inl rfl)) (fun _ _ _ _ _ => rts_nil) (fun _ _ _ _ _ => ri_any rfl (re_ix rfl (re_attr (fxw T.fx) (f := 28) (by decide) rfl (re_var 0)) (re_var 2))) (fun _ _ _ _ _ => pg_name (i := 5) sc_Collecting_tour.nd rfl (Or.inl rfl)) (fun _ _ _ _ _ => rts_nil) (fun _ _ _ _ _ => re_var 5)))) (rs_cons (rs_asg (c_meth (C := He.ga K "World") (calS h1.f_Things_sifted (sh_Things_sifted_0 T)) (nf_ (fl := fl) "sifted" (by decide +kernel) (by decide +kernel)) rfl (re_var 0) T.c_World T.m_World_sifted hr tk (rl_cons (re_var 4) (rl_nil)) (rk_nil)) (rg_tup rfl rfl (rg_cons (rg_name 6 sc_Collecting_tour.nd rfl (Or.inl rfl)) (rg_cons (rg_name 7 sc_Collecting_tour.nd rfl (Or.inl rfl)) (rg_nil))))) (rs_cons (rs_set 8 sc_Collecting_tour.nd rfl (Or.inl rfl) (b_min (by rfl) (by rfl) (by rfl) T.n_min (rl_cons (re_add rfl (re_var 1) (re_int)) (rl_cons (re_gi T.i_OLDEST rfl) (rl_nil))))) (rs_cons (rs_expr (c_meth (C := He.ga K "World") (calS h1.f_Things_shift (sh_Things_shift_0 T)) (nf_ (fl := fl) "shift" (by decide +kernel) (by decide +kernel)) rfl (re_var 0) T.c_World T.m_World_shift hr tk (rl_cons (re_var 7) (rl_cons (re_gi T.i_WAITING rfl) (rl_nil))) (rk_nil))) (rs_cons (rs_expr (c_meth (C := He.ga K "World") (calS h1.f_Collecting_keep (sh_Collecting_keep_0 T)) (nf_ (fl := fl) "keep" (by decide +kernel) (by decide +kernel)) rfl (re_var 0) T.c_World T.m_World_keep hr tk (rl_cons (re_var 6) (rl_cons (re_var 1) (rl_cons (re_var 8) (rl_nil)))) (rk_nil))) (rs_cons (rs_expr (c_meth (C := He.ga K "World") (calS h1.f_Collecting_forget_lost (sh_Collecting_forget_lost_0 T)) (nf_ (fl := fl) "forget_lost" (by decide +kernel) (by decide +kernel)) rfl (re_var 0) T.c_World T.m_World_forget_lost hr tk (rl_cons (re_var 7) (rl_nil)) (rk_nil))) (rs_cons (rs_expr (c_meth0 (C := He.ga K "World") (calS h1.f_Collecting_ask_lost (sh_Collecting_ask_lost_0 T)) (nf_ (fl := fl) "ask_lost" (by decide +kernel) (by decide +kernel)) rfl (re_var 0) T.c_World T.m_World_ask_lost hr tk (rk_nil))) (rs_cons (rs_asg (c_meth (C := He.ga K "World") (calS h1.f_Things_sifted (sh_Things_sifted_0 T)) (nf_ (fl := fl) "sifted" (by decide +kernel) (by decide +kernel)) rfl (re_var 0) T.c_World T.m_World_sifted hr tk (rl_cons (b_list (by rfl) (by rfl) (by rfl) T.n_list (rl_cons (re_ix rfl (re_attr (fxw T.fx) (f := 28) (by decide) rfl (re_var 0)) (re_gi T.i_WAITING rfl)) (rl_nil))) (rl_nil)) (rk_nil)) (rg_tup rfl rfl (rg_cons (rg_name 9 sc_Collecting_tour.nd rfl (Or.inl rfl)) (rg_cons (rg_name 10 sc_Collecting_tour.nd rfl (Or.inl rfl)) (rg_nil))))) (rs_cons (rs_expr (c_meth (C := He.ga K "World") (calS h1.f_Things_shift (sh_Things_shift_0 T)) (nf_ (fl := fl) "shift" (by decide +kernel) (by decide +kernel)) rfl (re_var 0) T.c_World T.m_World_shift hr tk (rl_cons (re_var 9) (rl_cons (re_var 8) (rl_nil))) (rk_nil))) (rs_cons (rs_expr (c_meth (C := He.ga K "World") (calS h1.f_Collecting_break_up (sh_Collecting_break_up_0 T)) (nf_ (fl := fl) "break_up" (by decide +kernel) (by decide +kernel)) rfl (re_var 0) T.c_World T.m_World_break_up hr tk (rl_cons (re_var 8) (rl_nil)) (rk_nil))) (rs_cons (rs_augL ip_add (re_attr (fxw T.fx) (f := 41) (by decide) rfl (re_var 0)) (re_var 1) (re_int)) (rs_cons (rs_augL ip_add (re_attr (fxw T.fx) (f := 42) (by decide) rfl (re_var 0)) (re_var 1) (b_len (by rfl) (by rfl) (by rfl) T.n_len (rl_cons (re_var 10) (rl_nil)))) (rs_one (rs_ret (b_len (by rfl) (by rfl) (by rfl) T.n_len (rl_cons (re_var 10) (rl_nil)))))))))))))))))
theorem d_Collecting_may_track (T : TX K mg w scr ns) (h1 : LV P w K mg base scr ns (n + 1) φ) (h2 : LV P w K mg base scr ns n φm) : FnOk P w K mg base (L2.CX P w) (n + 2) (He.fAd K ("World", some "may_track")) (fdAt K (He.fAd K ("World", some "may_track"))) P_Collecting_may_track (spM (Gv K scr ns) 2 (runB 3 (b_Collecting_may_track φ φm))) :=
  fn_okM T.d_Collecting_may_track sc_Collecting_may_track rfl rfl fun od cdv A outer s H E hr tk hp => rs_cons (rs_set 2 sc_Collecting_may_track.nd rfl (Or.inl rfl) (re_dget (hu_of hr) (re_attr (fxw T.fx) (f := 26) (by decide) rfl (re_var 0)) (re_var 1))) (rs_one (rs_ret (re_or (e_in hr rfl (re_attr (fxw T.fx) (f := 16) (by decide) rfl (re_var 2)) (re_tup (rl_cons (re_gs T.i_ROW rfl) (rl_cons (re_gs T.i_WEAK rfl) (rl_nil))))) (re_one (re_and (e_eq hr rfl (re_attr (fxw T.fx) (f := 16) (by decide) rfl (re_var 2)) (re_gs T.i_FIXED rfl)) (re_one (e_isn (re_attr (fxw T.fx) (f := 24) (by decide) rfl (re_var 2)) (re_non))))))))
theorem d_Collecting_keep (T : TX K mg w scr ns) (h1 : LV P w K mg base scr ns (n + 1) φ) (h2 : LV P w K mg base scr ns n φm) : FnOk P w K mg base (L2.CX P w) (n + 2) (He.fAd K ("World", some "keep")) (fdAt K (He.fAd K ("World", some "keep"))) P_Collecting_keep (spM (Gv K scr ns) 4 (runB 7 (b_Collecting_keep φ φm))) :=
  fn_okM T.d_Collecting_keep sc_Collecting_keep rfl rfl fun od cdv A outer s H E hr tk hp => rs_cons (rs_expr (c_meth (C := He.ga K "World") (calS h1.f_Things_shift (sh_Things_shift_0 T)) (nf_ (fl := fl) "shift" (by decide +kernel) (by decide +kernel)) rfl (re_var 0) T.c_World T.m_World_shift hr tk (rl_cons (re_var 1) (rl_cons (re_var 3) (rl_nil))) (rk_nil))) (rs_cons (rs_for hp rfl (ri_any rfl (re_var 1)) (rg_name 4 sc_Collecting_keep.nd rfl (Or.inl rfl)) (rs_cons (rs_set 5 sc_Collecting_keep.nd rfl (Or.inl rfl) (re_dget (hu_of hr) (re_attr (fxw T.fx) (f := 26) (by decide) rfl (re_var 0)) (re_var 4))) (rs_one (rs_if (PW.pt (rw_and (t_eq hr rfl (re_attr (fxw T.fx) (f := 16) (by decide) rfl (re_var 5)) (re_gs T.i_FIXED rfl)) (rw_and1 (rt_not (rt_val (b_any (by rfl) (by rfl) (by rfl) T.n_any (rl_cons (re_lc [6] rfl sc_Collecting_keep.nd (ri_any rfl (re_attr (fxw T.fx) (f := 17) (by decide) rfl (re_var 5))) (blkOk_by (N := N_Collecting_keep) (sc := (defScope s_Collecting_keep)) (own := [("one", 6)]) (by decide +kernel)) rfl (by decide) (fun _ _ _ _ _ => pg_name (i := 6) sc_Collecting_keep.nd rfl (Or.inl rfl)) (fun _ _ _ _ _ => rts_one (t_isn (re_var 6) (re_non))) (fun _ _ _ _ _ => c_meth (C := He.ga K "World") (calS h1.f_Collecting_may_track (sh_Collecting_may_track_0 T)) (nf_ (fl := fl) "may_track" (by decide +kernel) (by decide +kernel)) rfl (re_var 0) T.c_World T.m_World_may_track hr takes0 (rl_cons (re_var 6) (rl_nil)) (rk_nil))) (rl_nil)))))))) (rs_one (rs_expr (c_meth (C := He.ga K "World") (calS h1.f_Things_untrack (sh_Things_untrack_0 T)) (nf_ (fl := fl) "untrack" (by decide +kernel) (by decide +kernel)) rfl (re_var 0) T.c_World T.m_World_untrack hr tk (rl_cons (re_var 4) (rl_nil)) (rk_nil)))) (rs_nil))))) (rs_one (rs_if (t_eq hr rfl (re_var 2) (re_gi T.i_OLDEST rfl)) (rs_cons (rs_setA (fxw T.fx) (f := 39) (by decide) rfl (re_var 0) (re_int)) (rs_one (rs_setA (fxw T.fx) (f := 40) (by decide) rfl (re_var 0) (b_len (by rfl) (by rfl) (by rfl) T.n_len (rl_cons (re_ix rfl (re_attr (fxw T.fx) (f := 28) (by decide) rfl (re_var 0)) (re_gi T.i_OLDEST rfl)) (rl_nil)))))) (rs_one (rs_if (t_eq hr rfl (re_var 3) (re_gi T.i_OLDEST rfl)) (rs_one (rs_augA (fxw T.fx) (f := 39) (by decide) rfl (re_var 0) (b_len (by rfl) (by rfl) (by rfl) T.n_len (rl_cons (re_lc [4] rfl sc_Collecting_keep.nd (ri_any rfl (re_var 1)) (blkOk_by (N := N_Collecting_keep) (sc := (defScope s_Collecting_keep)) (own := [("number", 4)]) (by decide +kernel)) rfl (by decide) (fun _ _ _ _ _ => pg_name (i := 4) sc_Collecting_keep.nd rfl (Or.inl rfl)) (fun _ _ _ _ _ => rts_one (t_isn (re_attr (fxw T.fx) (f := 24) (by decide) rfl (re_dget (hu_of hr) (re_attr (fxw T.fx) (f := 26) (by decide) rfl (re_var 0)) (re_var 4))) (re_non))) (fun _ _ _ _ _ => re_var 4)) (rl_nil))) in_add)) (rs_nil))))))
theorem d_Collecting_forget_lost (T : TX K mg w scr ns) (h1 : LV P w K mg base scr ns (n + 1) φ) (h2 : LV P w K mg base scr ns n φm) : FnOk P w K mg base (L2.CX P w) (n + 2) (He.fAd K ("World", some "forget_lost")) (fdAt K (He.fAd K ("World", some "forget_lost"))) P_Collecting_forget_lost (spM (Gv K scr ns) 2 (runB 5 (b_Collecting_forget_lost φ φm))) :=
  fn_okM T.d_Collecting_forget_lost sc_Collecting_forget_lost rfl rfl fun od cdv A outer s H E hr tk hp => rs_cons (rs_for hp rfl (ri_any rfl (re_var 1)) (rg_name 2 sc_Collecting_forget_lost.nd rfl (Or.inl rfl)) (rs_cons (rs_set 3 sc_Collecting_forget_lost.nd rfl (Or.inl rfl) (re_attr (fxw T.fx) (f := 21) (by decide) rfl (re_dget (hu_of hr) (re_attr (fxw T.fx) (f := 26) (by decide) rfl (re_var 0)) (re_var 2)))) (rs_one (rs_if (t_isn (re_var 3) (re_non)) (rs_cons (rs_expr (re_lm rfl PySem.F.slot_list_remove PySem.F.type_list_remove mt_remove cm_remove (re_attr (fxw T.fx) (f := 22) (by decide) rfl (re_dget (hu_of hr) (re_attr (fxw T.fx) (f := 26) (by decide) rfl (re_var 0)) (re_var 3))) (rl_cons (re_var 2) (rl_nil)))) (rs_one (rs_setA (fxw T.fx) (f := 21) (by decide) rfl (re_dget (hu_of hr) (re_attr (fxw T.fx) (f := 26) (by decide) rfl (re_var 0)) (re_var 2)) (re_non)))) (rs_nil))))) (rs_one (rs_expr (c_meth (C := He.ga K "World") (calS h1.f_Dying_call_all (sh_Dying_call_all_0 T)) (nf_ (fl := fl) "call_all" (by decide +kernel) (by decide +kernel)) rfl (re_var 0) T.c_World T.m_World_call_all hr tk (rl_cons (re_lc2 [2, 4] [4] rfl sc_Collecting_forget_lost.nd (ri_any rfl (re_var 1)) (blkOk_by (N := N_Collecting_forget_lost) (sc := (defScope s_Collecting_forget_lost)) (own := [("number", 2), ("weak", 4)]) (by decide +kernel)) rfl (by decide) (by decide) (by decide) (fun _ _ _ _ _ => pg_name (i := 2) sc_Collecting_forget_lost.nd rfl (Or.inl rfl)) (fun _ _ _ _ _ => rts_nil) (fun _ _ _ _ _ => ri_any rfl (c_meth (C := He.ga K "World") (calS h1.f_Dying_unwatch (sh_Dying_unwatch_0 T)) (nf_ (fl := fl) "unwatch" (by decide +kernel) (by decide +kernel)) rfl (re_var 0) T.c_World T.m_World_unwatch hr takes0 (rl_cons (re_var 2) (rl_nil)) (rk_nil))) (fun _ _ _ _ _ => pg_name (i := 4) sc_Collecting_forget_lost.nd rfl (Or.inl rfl)) (fun _ _ _ _ _ => rts_nil) (fun _ _ _ _ _ => re_var 4)) (rl_nil)) (rk_nil))))
theorem d_Collecting_ask_lost (T : TX K mg w scr ns) (h1 : LV P w K mg base scr ns (n + 1) φ) (h2 : LV P w K mg base scr ns n φm) : FnOk P w K mg base (L2.CX P w) (n + 2) (He.fAd K ("World", some "ask_lost")) (fdAt K (He.fAd K ("World", some "ask_lost"))) P_Collecting_ask_lost (spM (Gv K scr ns) 1 (runB 3 (b_Collecting_ask_lost φ φm))) :=
  fn_okM T.d_Collecting_ask_lost sc_Collecting_ask_lost rfl rfl fun od cdv A outer s H E hr tk hp => rs_one (rs_for hp rfl (ri_any rfl (b_list (by rfl) (by rfl) (by rfl) T.n_list (rl_cons (re_ix rfl (re_attr (fxw T.fx) (f := 28) (by decide) rfl (re_var 0)) (re_gi T.i_WAITING rfl)) (rl_nil)))) (rg_name 1 sc_Collecting_ask_lost.nd rfl (Or.inl rfl)) (rs_one (rs_if (t_in hr rfl (re_var 1) (re_ix rfl (re_attr (fxw T.fx) (f := 28) (by decide) rfl (re_var 0)) (re_gi T.i_WAITING rfl))) (rs_cons (rs_set 2 sc_Collecting_ask_lost.nd rfl (Or.inl rfl) (re_dget (hu_of hr) (re_attr (fxw T.fx) (f := 26) (by decide) rfl (re_var 0)) (re_var 1))) (rs_one (rs_if (PW.pt (rw_and (t_ne hr rfl (re_attr (fxw T.fx) (f := 18) (by decide) rfl (re_var 2)) (re_tup (rl_nil))) (rw_and (t_ne hr rfl (re_attr (fxw T.fx) (f := 16) (by decide) rfl (re_var 2)) (re_gs T.i_WEAK rfl)) (rw_and1 (rt_not (rt_val (re_attr (fxw T.fx) (f := 23) (by decide) rfl (re_var 2)))))))) (rs_cons (rs_expr (c_meth (C := He.ga K "World") (calS h1.f_Dying_hold (sh_Dying_hold_0 T)) (nf_ (fl := fl) "hold" (by decide +kernel) (by decide +kernel)) rfl (re_var 0) T.c_World T.m_World_hold hr tk (rl_cons (re_var 1) (rl_nil)) (rk_nil))) (rs_cons (rs_expr (c_meth (C := He.ga K "World") (calS h1.f_Dying_ask_last (sh_Dying_ask_last_0 T)) (nf_ (fl := fl) "ask_last" (by decide +kernel) (by decide +kernel)) rfl (re_var 0) T.c_World T.m_World_ask_last hr tk (rl_cons (re_var 1) (rl_nil)) (rk_nil))) (rs_one (rs_expr (c_meth (C := He.ga K "World") (calS h1.f_Dying_let_go (sh_Dying_let_go_0 T)) (nf_ (fl := fl) "let_go" (by decide +kernel) (by decide +kernel)) rfl (re_var 0) T.c_World T.m_World_let_go hr tk (rl_cons (re_var 1) (rl_nil)) (rk_nil)))))) (rs_nil)))) (rs_nil))))
theorem d_Collecting_break_up (T : TX K mg w scr ns) (h1 : LV P w K mg base scr ns (n + 1) φ) (h2 : LV P w K mg base scr ns n φm) : FnOk P w K mg base (L2.CX P w) (n + 2) (He.fAd K ("World", some "break_up")) (fdAt K (He.fAd K ("World", some "break_up"))) P_Collecting_break_up (spM (Gv K scr ns) 2 (runB 6 (b_Collecting_break_up φ φm))) :=
  fn_okM T.d_Collecting_break_up sc_Collecting_break_up rfl rfl fun od cdv A outer s H E hr tk hp => rs_one (rs_while hp (t_ne hr rfl (re_ix rfl (re_attr (fxw T.fx) (f := 28) (by decide) rfl (re_var 0)) (re_gi T.i_WAITING rfl)) (re_lst (rl_nil))) (rs_cons (rs_asg (re_ix rfl (re_attr (fxw T.fx) (f := 28) (by decide) rfl (re_var 0)) (re_gi T.i_WAITING rfl)) (rg_star rfl rfl (rg_cons (rg_name 3 sc_Collecting_break_up.nd rfl (Or.inl rfl)) (rg_cons (rg_name 5 sc_Collecting_break_up.nd rfl (Or.inl rfl)) (rg_nil))))) (rs_cons (rs_expr (c_meth (C := He.ga K "World") (calS h1.f_Dying_hold (sh_Dying_hold_0 T)) (nf_ (fl := fl) "hold" (by decide +kernel) (by decide +kernel)) rfl (re_var 0) T.c_World T.m_World_hold hr tk (rl_cons (re_var 3) (rl_nil)) (rk_nil))) (rs_cons (rs_set 2 sc_Collecting_break_up.nd rfl (Or.inl rfl) (re_dget (hu_of hr) (re_attr (fxw T.fx) (f := 26) (by decide) rfl (re_var 0)) (re_var 3))) (rs_cons (rs_if (t_eq hr rfl (re_attr (fxw T.fx) (f := 16) (by decide) rfl (re_var 2)) (re_gs T.i_ROW rfl)) (rs_one (rs_for hp rfl (ri_rev1 rfl T.n_reversed rfl T.n_range (b_len (by rfl) (by rfl) (by rfl) T.n_len (rl_cons (re_attr (fxw T.fx) (f := 17) (by decide) rfl (re_var 2)) (rl_nil)))) (rg_name 4 sc_Collecting_break_up.nd rfl (Or.inl rfl)) (rs_one (rs_expr (c_meth (C := He.ga K "World") (calS h1.f_Dying_empty_slot (sh_Dying_empty_slot_0 T)) (nf_ (fl := fl) "empty_slot" (by decide +kernel) (by decide +kernel)) rfl (re_var 0) T.c_World T.m_World_empty_slot hr tk (rl_cons (re_var 3) (rl_cons (re_var 4) (rl_nil))) (rk_nil)))))) (rs_nil)) (rs_cons (rs_expr (c_meth (C := He.ga K "World") (calS h1.f_Dying_let_go (sh_Dying_let_go_0 T)) (nf_ (fl := fl) "let_go" (by decide +kernel) (by decide +kernel)) rfl (re_var 0) T.c_World T.m_World_let_go hr tk (rl_cons (re_var 3) (rl_nil)) (rk_nil))) (rs_one (rs_if (t_eq hr rfl (re_slice rfl (re_ix rfl (re_attr (fxw T.fx) (f := 28) (by decide) rfl (re_var 0)) (re_gi T.i_WAITING rfl)) .none (.some (re_int))) (re_lst (rl_cons (re_var 3) (rl_nil)))) (rs_one (rs_expr (c_meth (C := He.ga K "World") (calS h1.f_Things_shift (sh_Things_shift_0 T)) (nf_ (fl := fl) "shift" (by decide +kernel) (by decide +kernel)) rfl (re_var 0) T.c_World T.m_World_shift hr tk (rl_cons (re_lst (rl_cons (re_var 3) (rl_nil))) (rl_cons (re_var 1) (rl_nil))) (rk_nil)))) (rs_nil)))))))))
theorem d_Collecting_may_collect (T : TX K mg w scr ns) (h1 : LV P w K mg base scr ns (n + 1) φ) (h2 : LV P w K mg base scr ns n φm) : FnOk P w K mg base (L2.CX P w) (n + 2) (He.fAd K ("World", some "may_collect")) (fdAt K (He.fAd K ("World", some "may_collect"))) P_Collecting_may_collect (spM (Gv K scr ns) 1 (runB 3 (b_Collecting_may_collect φ φm))) :=
  fn_okM T.d_Collecting_may_collect sc_Collecting_may_collect rfl rfl fun od cdv A outer s H E hr tk hp => rs_one (rs_if (PW.pt (rw_and (rt_val (re_attr (fxw T.fx) (f := 37) (by decide) rfl (re_var 0))) (rw_and (rt_not (rt_val (re_attr (fxw T.fx) (f := 38) (by decide) rfl (re_var 0)))) (rw_and (t_gt (re_ix rfl (re_attr (fxw T.fx) (f := 36) (by decide) rfl (re_var 0)) (re_int)) (re_int)) (rw_and1 (t_gt (re_ix rfl (re_attr (fxw T.fx) (f := 32) (by decide) rfl (re_var 0)) (re_int)) (re_ix rfl (re_attr (fxw T.fx) (f := 36) (by decide) rfl (re_var 0)) (re_int)))))))) (rs_cons (rs_setLc (i := 1) [2] rfl sc_Collecting_may_collect.nd rfl rfl (sw_true rfl rfl rfl (by decide +kernel)) (ri_any rfl (re_tup (rl_cons (re_int) (rl_cons (re_int) (rl_cons (re_int) (rl_nil)))))) (blkOk_by (N := N_Collecting_may_collect) (sc := (defScope s_Collecting_may_collect)) (own := [("at", 2)]) (by decide +kernel)) rfl (by decide) (fun _ _ _ _ _ => pg_name (i := 2) sc_Collecting_may_collect.nd rfl (Or.inl rfl)) (fun _ _ _ _ _ => rts_one (t_gt (re_ix rfl (re_attr (fxw T.fx) (f := 32) (by decide) rfl (re_var 0)) (re_var 2)) (re_ix rfl (re_attr (fxw T.fx) (f := 36) (by decide) rfl (re_var 0)) (re_var 2)))) (fun _ _ _ _ _ => re_var 2)) (rs_cons (rs_if (PW.pt (rw_and (t_eq hr rfl (re_ix rfl (re_var 1) (re_neg (re_int))) (re_gi T.i_OLDEST rfl)) (rw_and1 (t_lt (re_attr (fxw T.fx) (f := 39) (by decide) rfl (re_var 0)) (re_fdiv (re_attr (fxw T.fx) (f := 40) (by decide) rfl (re_var 0)) (re_gi T.i_SHARE rfl)))))) (rs_one (rs_set 1 sc_Collecting_may_collect.nd rfl (Or.inl rfl) (re_slice rfl (re_var 1) .none (.some (re_neg (re_int)))))) (rs_nil)) (rs_one (rs_if (t_ne hr rfl (re_var 1) (re_lst (rl_nil))) (rs_one (rs_expr (c_meth (C := He.ga K "World") (calS h1.f_Collecting_collect_at (sh_Collecting_collect_at_0 T)) (nf_ (fl := fl) "collect_at" (by decide +kernel) (by decide +kernel)) rfl (re_var 0) T.c_World T.m_World_collect_at hr tk (rl_cons (re_ix rfl (re_var 1) (re_neg (re_int))) (rl_nil)) (rk_nil)))) (rs_nil))))) (rs_nil))
theorem d_Collecting_count_new (T : TX K mg w scr ns) (h1 : LV P w K mg base scr ns (n + 1) φ) (h2 : LV P w K mg base scr ns n φm) : FnOk P w K mg base (L2.CX P w) (n + 2) (He.fAd K ("World", some "count_new")) (fdAt K (He.fAd K ("World", some "count_new"))) P_Collecting_count_new (spM (Gv K scr ns) 2 (runB 2 (b_Collecting_count_new φ φm))) :=
  fn_okM T.d_Collecting_count_new sc_Collecting_count_new rfl rfl fun od cdv A outer s H E hr tk hp => rs_one (rs_if (t_ne hr rfl (re_var 1) (re_gs T.i_LEAF rfl)) (rs_cons (rs_augL ip_add (re_attr (fxw T.fx) (f := 32) (by decide) rfl (re_var 0)) (re_int) (re_int)) (rs_one (rs_expr (c_meth0 (C := He.ga K "World") (calS h1.f_Collecting_may_collect (sh_Collecting_may_collect_0 T)) (nf_ (fl := fl) "may_collect" (by decide +kernel) (by decide +kernel)) rfl (re_var 0) T.c_World T.m_World_may_collect hr tk (rk_nil))))) (rs_nil))
theorem d_is_step (T : TX K mg w scr ns) (h1 : LV P w K mg base scr ns (n + 1) φ) (h2 : LV P w K mg base scr ns n φm) : FnOk P w K mg base (L2.CX P w) (n + 2) (He.fAd K ("is_step", none)) (fdAt K (He.fAd K ("is_step", none))) P_is_step (spM (Gv K scr ns) 2 (runB 4 (b_is_step φ φm))) :=
  fn_okM T.d_is_step sc_is_step rfl rfl fun od cdv A outer s H E hr tk hp => rs_cons (rs_if (PW.pt (rw_or (rt_not (rt_val (re_isi .tup rfl rfl T.n_isinstance rfl T.n_tuple (by decide +kernel) (re_var 0)))) (rw_or (t_eq hr rfl (re_var 0) (re_tup (rl_nil))) (rw_or1 (rt_not (rt_val (re_isi .str rfl rfl T.n_isinstance rfl T.n_str (by decide +kernel) (re_ix rfl (re_var 0) (re_int))))))))) (rs_one (rs_ret (re_bl))) (rs_nil)) (rs_cons (rs_asg (re_var 0) (rg_star rfl rfl (rg_cons (rg_name 2 sc_is_step.nd rfl (Or.inl rfl)) (rg_cons (rg_name 3 sc_is_step.nd rfl (Or.inl rfl)) (rg_nil))))) (rs_cons (rs_if (t_in hr rfl (re_var 2) (re_tup (rl_cons (re_gs T.i_FAIL rfl) (rl_cons (re_gs T.i_COLLECT rfl) (rl_nil))))) (rs_one (rs_ret (e_eq hr rfl (re_var 3) (re_lst (rl_nil))))) (rs_nil)) (rs_cons (rs_if (t_in hr rfl (re_var 2) (re_tup (rl_cons (re_gs T.i_SAVE rfl) (rl_cons (re_gs T.i_FORGET rfl) (rl_nil))))) (rs_one (rs_ret (re_and (e_eq hr rfl (b_len (by rfl) (by rfl) (by rfl) T.n_len (rl_cons (re_var 3) (rl_nil))) (re_int)) (re_and (c_call (calS h1.f_is_name (sh_is_name_0 T)) hr rfl T.g_is_name T.d_is_name.kp tk (rl_cons (re_ix rfl (re_var 3) (re_int)) (rl_nil)) (rk_nil)) (re_one (re_or (e_eq hr rfl (re_var 2) (re_gs T.i_FORGET rfl)) (re_one (re_not (re_var 1))))))))) (rs_nil)) (rs_one (rs_ret (re_and (e_eq hr rfl (re_var 2) (re_gs T.i_CLEAR rfl)) (re_and (re_not (re_var 1)) (re_and (e_eq hr rfl (b_len (by rfl) (by rfl) (by rfl) T.n_len (rl_cons (re_var 3) (rl_nil))) (re_int)) (re_one (c_call (calS h1.f_is_number (sh_is_number_0 T)) hr rfl T.g_is_number T.d_is_number.kp tk (rl_cons (re_ix rfl (re_var 3) (re_int)) (rl_cons (re_int) (rl_cons (re_sub (re_gi T.i_MOST_SLOTS rfl) (re_int)) (rl_nil)))) (rk_nil)))))))))))
theorem d_are_steps (T : TX K mg w scr ns) (h1 : LV P w K mg base scr ns (n + 1) φ) (h2 : LV P w K mg base scr ns n φm) : FnOk P w K mg base (L2.CX P w) (n + 2) (He.fAd K ("are_steps", none)) (fdAt K (He.fAd K ("are_steps", none))) P_are_steps (spM (Gv K scr ns) 2 (runB 3 (b_are_steps φ φm))) :=
  fn_okM T.d_are_steps sc_are_steps rfl rfl fun od cdv A outer s H E hr tk hp => rs_one (rs_ret (re_and (re_isi .tup rfl rfl T.n_isinstance rfl T.n_tuple (by decide +kernel) (re_var 0)) (re_and (e_le (b_len (by rfl) (by rfl) (by rfl) T.n_len (rl_cons (re_var 0) (rl_nil))) (re_gi T.i_MOST_STEPS rfl)) (re_one (b_all (by rfl) (by rfl) (by rfl) T.n_all (rl_cons (re_lc [2] rfl sc_are_steps.nd (ri_any rfl (re_var 0)) (blkOk_by (N := N_are_steps) (sc := (defScope s_are_steps)) (own := [("one", 2)]) (by decide +kernel)) rfl (by decide) (fun _ _ _ _ _ => pg_name (i := 2) sc_are_steps.nd rfl (Or.inl rfl)) (fun _ _ _ _ _ => rts_nil) (fun _ _ _ _ _ => c_call (calS h1.f_is_step (sh_is_step_0 T)) hr rfl T.g_is_step T.d_is_step.kp takes0 (rl_cons (re_var 2) (rl_cons (re_var 1) (rl_nil))) (rk_nil))) (rl_nil)))))))
theorem d_look_steps (T : TX K mg w scr ns) (h1 : LV P w K mg base scr ns (n + 1) φ) (h2 : LV P w K mg base scr ns n φm) : FnOk P w K mg base (L2.CX P w) (n + 2) (He.fAd K ("look_steps", none)) (fdAt K (He.fAd K ("look_steps", none))) P_look_steps (spM (Gv K scr ns) 2 (runB 2 (b_look_steps φ φm))) :=
  fn_okM T.d_look_steps sc_look_steps rfl rfl fun od cdv A outer s H E hr tk hp => rs_one (rs_if (rt_not (rt_val (c_call (calS h1.f_are_steps (sh_are_steps_0 T)) hr rfl T.g_are_steps T.d_are_steps.kp tk (rl_cons (re_var 0) (rl_cons (re_var 1) (rl_nil))) (rk_nil)))) (rs_one (rs_bad)) (rs_nil))
theorem d_World_init (T : TX K mg w scr ns) (h1 : LV P w K mg base scr ns (n + 1) φ) (h2 : LV P w K mg base scr ns n φm) : FnOk P w K mg base (L2.CX P w) (n + 2) (He.fAd K ("World", some "__init__")) (fdAt K (He.fAd K ("World", some "__init__"))) P_World_init (spM (Gv K scr ns) 4 (runB 4 (b_World_init φ φm))) :=
  fn_okM T.d_World_init sc_World_init rfl rfl fun od cdv A outer s H E hr tk hp => rs_cons (rs_if (rt_not (rt_val (c_call (calS h1.f_is_pool_size (sh_is_pool_size_0 T)) hr rfl T.g_is_pool_size T.d_is_pool_size.kp tk (rl_cons (re_var 1) (rl_nil)) (rk_nil)))) (rs_one (rs_bad)) (rs_nil)) (rs_cons (rs_expr (c_call (calS h1.f_look_number (sh_look_number_0 T)) hr rfl T.g_look_number T.d_look_number.kp tk (rl_cons (re_var 2) (rl_cons (re_int) (rl_cons (re_int) (rl_nil)))) (rk_nil))) (rs_cons (rs_expr (c_call (calS h1.f_look_number (sh_look_number_0 T)) hr rfl T.g_look_number T.d_look_number.kp tk (rl_cons (re_var 3) (rl_cons (re_int) (rl_cons (re_gi T.i_NEST rfl) (rl_nil)))) (rk_nil))) (rs_cons (rs_expr (c_cfn (calS h1.f_Collecting_init (sh_Collecting_init_0 T)) T.cf_Collecting hr rfl T.g_Collecting tk (rl_cons (re_var 0) (rl_nil)) (rk_cons (re_var 1) (rk_cons (re_var 2) (rk_cons (re_var 3) (rk_nil)))))) (rs_cons (rs_setA (fxw T.fx) (f := 43) (by decide) rfl (re_var 0) (re_tup (rl_cons (re_var 1) (rl_cons (re_var 2) (rl_cons (re_var 3) (rl_nil)))))) (rs_one (rs_setA (fxw T.fx) (f := 44) (by decide) rfl (re_var 0) (re_lst (rl_nil))))))))
theorem d_World_len (T : TX K mg w scr ns) (h1 : LV P w K mg base scr ns (n + 1) φ) (h2 : LV P w K mg base scr ns n φm) : FnOk P w K mg base (L2.CX P w) (n + 2) (He.fAd K ("World", some "__len__")) (fdAt K (He.fAd K ("World", some "__len__"))) P_World_len (spM (Gv K scr ns) 1 (runB 1 (b_World_len φ φm))) :=
  fn_okM T.d_World_len sc_World_len rfl rfl fun od cdv A outer s H E hr tk hp => rs_one (rs_ret (b_lenD (by rfl) T.n_len (rl_cons (re_attr (fxw T.fx) (f := 26) (by decide) rfl (re_var 0)) (rl_nil))))
theorem d_World_look_name (T : TX K mg w scr ns) (h1 : LV P w K mg base scr ns (n + 1) φ) (h2 : LV P w K mg base scr ns n φm) : FnOk P w K mg base (L2.CX P w) (n + 2) (He.fAd K ("World", some "look_name")) (fdAt K (He.fAd K ("World", some "look_name"))) P_World_look_name (spM (Gv K scr ns) 2 (runB 2 (b_World_look_name φ φm))) :=
  fn_okM T.d_World_look_name sc_World_look_name rfl rfl fun od cdv A outer s H E hr tk hp => rs_one (rs_if (rt_not (rt_val (c_call (calS h1.f_is_name (sh_is_name_0 T)) hr rfl T.g_is_name T.d_is_name.kp tk (rl_cons (re_var 1) (rl_nil)) (rk_nil)))) (rs_one (rs_bad)) (rs_nil))
theorem d_World_make (T : TX K mg w scr ns) (h1 : LV P w K mg base scr ns (n + 1) φ) (h2 : LV P w K mg base scr ns n φm) : FnOk P w K mg base (L2.CX P w) (n + 2) (He.fAd K ("World", some "make")) (fdAt K (He.fAd K ("World", some "make"))) P_World_make (spM (Gv K scr ns) 6 (runB 10 (b_World_make φ φm))) :=
  fn_okM T.d_World_make sc_World_make rfl rfl fun od cdv A outer s H E hr tk hp => rs_cons (rs_expr (c_meth (C := He.ga K "World") (calS h1.f_World_look_name (sh_World_look_name_0 T)) (nf_ (fl := fl) "look_name" (by decide +kernel) (by decide +kernel)) rfl (re_var 0) T.c_World T.m_World_look_name hr tk (rl_cons (re_var 1) (rl_nil)) (rk_nil))) (rs_cons (rs_if (PW.pt (rw_or (rt_not (rt_val (re_isi .str rfl rfl T.n_isinstance rfl T.n_str (by decide +kernel) (re_var 2)))) (rw_or1 (t_nin hr rfl (re_var 2) (re_globR (n := 2) (by show 2 < 4; decide) rfl T.g_FORMS))))) (rs_one (rs_bad)) (rs_nil)) (rs_cons (rs_if (PW.pt (rw_or (rt_not (rt_val (re_isi .tup rfl rfl T.n_isinstance rfl T.n_tuple (by decide +kernel) (re_var 3)))) (rw_or (t_gt (b_len (by rfl) (by rfl) (by rfl) T.n_len (rl_cons (re_var 3) (rl_nil))) (re_gi T.i_MOST_SLOTS rfl)) (rw_or1 (PW.pt (rw_and (t_eq hr rfl (re_var 2) (re_gs T.i_LEAF rfl)) (rw_and1 (t_ne hr rfl (re_var 3) (re_tup (rl_nil)))))))))) (rs_one (rs_bad)) (rs_nil)) (rs_cons (rs_for hp rfl (ri_any rfl (re_var 3)) (rg_name 6 sc_World_make.nd rfl (Or.inl rfl)) (rs_one (rs_if (t_isn (re_var 6) (re_non)) (rs_one (rs_expr (c_meth (C := He.ga K "World") (calS h1.f_Things_look_bound (sh_Things_look_bound_0 T)) (nf_ (fl := fl) "look_bound" (by decide +kernel) (by decide +kernel)) rfl (re_var 0) T.c_World T.m_World_look_bound hr tk (rl_cons (re_var 6) (rl_nil)) (rk_nil)))) (rs_nil)))) (rs_cons (rs_expr (c_call (calS h1.f_look_steps (sh_look_steps_0 T)) hr rfl T.g_look_steps T.d_look_steps.kp tk (rl_cons (re_var 4) (rl_cons (re_bl) (rl_nil))) (rk_nil))) (rs_cons (rs_if (PW.pt (rw_or (rt_not (rt_val (c_call (calS h1.f_is_number (sh_is_number_0 T)) hr rfl T.g_is_number T.d_is_number.kp tk (rl_cons (re_var 5) (rl_cons (re_int) (rl_cons (re_gi T.i_MOST_EXTRA rfl) (rl_nil)))) (rk_nil)))) (rw_or1 (PW.pt (rw_and (t_ne hr rfl (re_var 2) (re_gs T.i_LEAF rfl)) (rw_and1 (t_gt (re_var 5) (re_int)))))))) (rs_one (rs_bad)) (rs_nil)) (rs_cons (rs_set 7 sc_World_make.nd rfl (Or.inl rfl) (re_tupleOf rfl rfl T.n_tuple (re_lc [6] rfl sc_World_make.nd (ri_any rfl (re_var 3)) (blkOk_by (N := N_World_make) (sc := (defScope s_World_make)) (own := [("other", 6)]) (by decide +kernel)) rfl (by decide) (fun _ _ _ _ _ => pg_name (i := 6) sc_World_make.nd rfl (Or.inl rfl)) (fun _ _ _ _ _ => rts_nil) (fun _ _ _ _ _ => re_ifExp (t_is (re_var 6) (re_non)) (re_non) (re_dget (hu_of hr) (re_attr (fxw T.fx) (f := 27) (by decide) rfl (re_var 0)) (re_var 6)))))) (rs_cons (rs_setLc (i := 8) [6] rfl sc_World_make.nd rfl rfl (sw_true rfl rfl rfl (by decide +kernel)) (ri_any rfl (re_var 7)) (blkOk_by (N := N_World_make) (sc := (defScope s_World_make)) (own := [("other", 6)]) (by decide +kernel)) rfl (by decide) (fun _ _ _ _ _ => pg_name (i := 6) sc_World_make.nd rfl (Or.inl rfl)) (fun _ _ _ _ _ => rts_one (t_isn (re_var 6) (re_non))) (fun _ _ _ _ _ => re_var 6)) (rs_cons (rs_for hp rfl (ri_any rfl (re_var 8)) (rg_name 6 sc_World_make.nd rfl (Or.inl rfl)) (rs_one (rs_expr (c_meth (C := He.ga K "World") (calS h1.f_Dying_hold (sh_Dying_hold_0 T)) (nf_ (fl := fl) "hold" (by decide +kernel) (by decide +kernel)) rfl (re_var 0) T.c_World T.m_World_hold hr tk (rl_cons (re_var 6) (rl_nil)) (rk_nil))))) (rs_cons (rs_expr (c_meth (C := He.ga K "World") (calS h1.f_Collecting_count_new (sh_Collecting_count_new_0 T)) (nf_ (fl := fl) "count_new" (by decide +kernel) (by decide +kernel)) rfl (re_var 0) T.c_World T.m_World_count_new hr tk (rl_cons (re_var 2) (rl_nil)) (rk_nil))) (rs_cons (rs_set 9 sc_World_make.nd rfl (Or.inl rfl) (c_meth (C := He.ga K "World") (calS h1.f_Things_new_thing (sh_Things_new_thing_0 T)) (nf_ (fl := fl) "new_thing" (by decide +kernel) (by decide +kernel)) rfl (re_var 0) T.c_World T.m_World_new_thing hr tk (rl_cons (re_var 2) (rl_cons (re_var 7) (rl_cons (re_var 4) (rl_cons (re_var 5) (rl_nil))))) (rk_nil))) (rs_cons (rs_expr (c_meth (C := He.ga K "World") (calS h1.f_Dying_bind (sh_Dying_bind_0 T)) (nf_ (fl := fl) "bind" (by decide +kernel) (by decide +kernel)) rfl (re_var 0) T.c_World T.m_World_bind hr tk (rl_cons (re_var 1) (rl_cons (re_var 9) (rl_nil))) (rk_nil))) (rs_cons (rs_for hp rfl (ri_any rfl (re_var 8)) (rg_name 6 sc_World_make.nd rfl (Or.inl rfl)) (rs_one (rs_expr (c_meth (C := He.ga K "World") (calS h1.f_Dying_let_go (sh_Dying_let_go_0 T)) (nf_ (fl := fl) "let_go" (by decide +kernel) (by decide +kernel)) rfl (re_var 0) T.c_World T.m_World_let_go hr tk (rl_cons (re_var 6) (rl_nil)) (rk_nil))))) (rs_cons (rs_expr (re_lm rfl PySem.F.slot_list_append PySem.F.type_list_append mt_append cm_append (re_attr (fxw T.fx) (f := 44) (by decide) rfl (re_var 0)) (rl_cons (re_tup (rl_cons (re_str) (rl_cons (re_var 1) (rl_cons (re_var 2) (rl_cons (re_var 3) (rl_cons (re_var 4) (rl_cons (re_var 5) (rl_nil)))))))) (rl_nil)))) (rs_one (rs_ret (re_var 9))))))))))))))))
theorem d_World_forget (T : TX K mg w scr ns) (h1 : LV P w K mg base scr ns (n + 1) φ) (h2 : LV P w K mg base scr ns n φm) : FnOk P w K mg base (L2.CX P w) (n + 2) (He.fAd K ("World", some "forget")) (fdAt K (He.fAd K ("World", some "forget"))) P_World_forget (spM (Gv K scr ns) 2 (runB 3 (b_World_forget φ φm))) :=
  fn_okM T.d_World_forget sc_World_forget rfl rfl fun od cdv A outer s H E hr tk hp => rs_cons (rs_expr (c_meth (C := He.ga K "World") (calS h1.f_Things_look_bound (sh_Things_look_bound_0 T)) (nf_ (fl := fl) "look_bound" (by decide +kernel) (by decide +kernel)) rfl (re_var 0) T.c_World T.m_World_look_bound hr tk (rl_cons (re_var 1) (rl_nil)) (rk_nil))) (rs_cons (rs_set 2 sc_World_forget.nd rfl (Or.inl rfl) (re_attr (fxw T.fx) (f := 31) (by decide) rfl (re_var 0))) (rs_cons (rs_expr (c_meth (C := He.ga K "World") (calS h1.f_Dying_unbind (sh_Dying_unbind_0 T)) (nf_ (fl := fl) "unbind" (by decide +kernel) (by decide +kernel)) rfl (re_var 0) T.c_World T.m_World_unbind hr tk (rl_cons (re_var 1) (rl_nil)) (rk_nil))) (rs_cons (rs_expr (re_lm rfl PySem.F.slot_list_append PySem.F.type_list_append mt_append cm_append (re_attr (fxw T.fx) (f := 44) (by decide) rfl (re_var 0)) (rl_cons (re_tup (rl_cons (re_str) (rl_cons (re_var 1) (rl_nil)))) (rl_nil)))) (rs_one (rs_ret (re_sub (re_attr (fxw T.fx) (f := 31) (by decide) rfl (re_var 0)) (re_var 2)))))))
theorem d_World_look_row (T : TX K mg w scr ns) (h1 : LV P w K mg base scr ns (n + 1) φ) (h2 : LV P w K mg base scr ns n φm) : FnOk P w K mg base (L2.CX P w) (n + 2) (He.fAd K ("World", some "look_row")) (fdAt K (He.fAd K ("World", some "look_row"))) P_World_look_row (spM (Gv K scr ns) 2 (runB 3 (b_World_look_row φ φm))) :=
  fn_okM T.d_World_look_row sc_World_look_row rfl rfl fun od cdv A outer s H E hr tk hp => rs_cons (rs_set 2 sc_World_look_row.nd rfl (Or.inl rfl) (c_meth (C := He.ga K "World") (calS h1.f_Things_look_bound (sh_Things_look_bound_0 T)) (nf_ (fl := fl) "look_bound" (by decide +kernel) (by decide +kernel)) rfl (re_var 0) T.c_World T.m_World_look_bound hr tk (rl_cons (re_var 1) (rl_nil)) (rk_nil))) (rs_cons (rs_if (t_ne hr rfl (re_attr (fxw T.fx) (f := 16) (by decide) rfl (re_dget (hu_of hr) (re_attr (fxw T.fx) (f := 26) (by decide) rfl (re_var 0)) (re_var 2))) (re_gs T.i_ROW rfl)) (rs_one (rs_bad)) (rs_nil)) (rs_one (rs_ret (re_var 2))))
theorem d_World_look_slot (T : TX K mg w scr ns) (h1 : LV P w K mg base scr ns (n + 1) φ) (h2 : LV P w K mg base scr ns n φm) : FnOk P w K mg base (L2.CX P w) (n + 2) (He.fAd K ("World", some "look_slot")) (fdAt K (He.fAd K ("World", some "look_slot"))) P_World_look_slot (spM (Gv K scr ns) 3 (runB 4 (b_World_look_slot φ φm))) :=
  fn_okM T.d_World_look_slot sc_World_look_slot rfl rfl fun od cdv A outer s H E hr tk hp => rs_cons (rs_set 3 sc_World_look_slot.nd rfl (Or.inl rfl) (b_len (by rfl) (by rfl) (by rfl) T.n_len (rl_cons (re_attr (fxw T.fx) (f := 17) (by decide) rfl (re_dget (hu_of hr) (re_attr (fxw T.fx) (f := 26) (by decide) rfl (re_var 0)) (re_var 1))) (rl_nil)))) (rs_one (rs_if (rt_not (rt_val (c_call (calS h1.f_is_number (sh_is_number_0 T)) hr rfl T.g_is_number T.d_is_number.kp tk (rl_cons (re_var 2) (rl_cons (re_int) (rl_cons (re_sub (re_var 3) (re_int)) (rl_nil)))) (rk_nil)))) (rs_one (rs_bad)) (rs_nil)))
theorem d_World_put (T : TX K mg w scr ns) (h1 : LV P w K mg base scr ns (n + 1) φ) (h2 : LV P w K mg base scr ns n φm) : FnOk P w K mg base (L2.CX P w) (n + 2) (He.fAd K ("World", some "put")) (fdAt K (He.fAd K ("World", some "put"))) P_World_put (spM (Gv K scr ns) 4 (runB 8 (b_World_put φ φm))) :=
  fn_okM T.d_World_put sc_World_put rfl rfl fun od cdv A outer s H E hr tk hp => rs_cons (rs_set 4 sc_World_put.nd rfl (Or.inl rfl) (c_meth (C := He.ga K "World") (calS h1.f_World_look_row (sh_World_look_row_0 T)) (nf_ (fl := fl) "look_row" (by decide +kernel) (by decide +kernel)) rfl (re_var 0) T.c_World T.m_World_look_row hr tk (rl_cons (re_var 1) (rl_nil)) (rk_nil))) (rs_cons (rs_expr (c_meth (C := He.ga K "World") (calS h1.f_World_look_slot (sh_World_look_slot_0 T)) (nf_ (fl := fl) "look_slot" (by decide +kernel) (by decide +kernel)) rfl (re_var 0) T.c_World T.m_World_look_slot hr tk (rl_cons (re_var 4) (rl_cons (re_var 2) (rl_nil))) (rk_nil))) (rs_cons (rs_set 5 sc_World_put.nd rfl (Or.inl rfl) (re_ifExp (t_is (re_var 3) (re_non)) (re_non) (c_meth (C := He.ga K "World") (calS h1.f_Things_look_bound (sh_Things_look_bound_0 T)) (nf_ (fl := fl) "look_bound" (by decide +kernel) (by decide +kernel)) rfl (re_var 0) T.c_World T.m_World_look_bound hr tk (rl_cons (re_var 3) (rl_nil)) (rk_nil)))) (rs_cons (rs_par rfl sc_World_put.nd rfl rfl (by decide) rfl rfl (rl_cons (re_ix rfl (re_attr (fxw T.fx) (f := 17) (by decide) rfl (re_dget (hu_of hr) (re_attr (fxw T.fx) (f := 26) (by decide) rfl (re_var 0)) (re_var 4))) (re_var 2)) (rl_cons (re_attr (fxw T.fx) (f := 31) (by decide) rfl (re_var 0)) (rl_nil))) (by rfl)) (rs_cons (rs_if (t_isn (re_var 5) (re_non)) (rs_one (rs_expr (c_meth (C := He.ga K "World") (calS h1.f_Dying_hold (sh_Dying_hold_0 T)) (nf_ (fl := fl) "hold" (by decide +kernel) (by decide +kernel)) rfl (re_var 0) T.c_World T.m_World_hold hr tk (rl_cons (re_var 5) (rl_nil)) (rk_nil)))) (rs_nil)) (rs_cons (rs_asg (re_var 5) (rg_sub (re_attr (fxw T.fx) (f := 17) (by decide) rfl (re_dget (hu_of hr) (re_attr (fxw T.fx) (f := 26) (by decide) rfl (re_var 0)) (re_var 4))) (re_var 2))) (rs_cons (rs_if (t_isn (re_var 6) (re_non)) (rs_one (rs_expr (c_meth (C := He.ga K "World") (calS h1.f_Dying_let_go (sh_Dying_let_go_0 T)) (nf_ (fl := fl) "let_go" (by decide +kernel) (by decide +kernel)) rfl (re_var 0) T.c_World T.m_World_let_go hr tk (rl_cons (re_var 6) (rl_nil)) (rk_nil)))) (rs_nil)) (rs_cons (rs_expr (re_lm rfl PySem.F.slot_list_append PySem.F.type_list_append mt_append cm_append (re_attr (fxw T.fx) (f := 44) (by decide) rfl (re_var 0)) (rl_cons (re_tup (rl_cons (re_str) (rl_cons (re_var 1) (rl_cons (re_var 2) (rl_cons (re_var 3) (rl_nil)))))) (rl_nil)))) (rs_one (rs_ret (re_sub (re_attr (fxw T.fx) (f := 31) (by decide) rfl (re_var 0)) (re_var 7)))))))))))
theorem d_World_collect (T : TX K mg w scr ns) (h1 : LV P w K mg base scr ns (n + 1) φ) (h2 : LV P w K mg base scr ns n φm) : FnOk P w K mg base (L2.CX P w) (n + 2) (He.fAd K ("World", some "collect")) (fdAt K (He.fAd K ("World", some "collect"))) P_World_collect (spM (Gv K scr ns) 2 (runB 3 (b_World_collect φ φm))) :=
  fn_okM T.d_World_collect sc_World_collect rfl rfl fun od cdv A outer s H E hr tk hp => rs_cons (rs_expr (c_call (calS h1.f_look_number (sh_look_number_0 T)) hr rfl T.g_look_number T.d_look_number.kp tk (rl_cons (re_var 1) (rl_cons (re_int) (rl_cons (re_gi T.i_OLDEST rfl) (rl_nil)))) (rk_nil))) (rs_cons (rs_set 2 sc_World_collect.nd rfl (Or.inl rfl) (c_meth (C := He.ga K "World") (calS h1.f_Collecting_collect_at (sh_Collecting_collect_at_0 T)) (nf_ (fl := fl) "collect_at" (by decide +kernel) (by decide +kernel)) rfl (re_var 0) T.c_World T.m_World_collect_at hr tk (rl_cons (re_var 1) (rl_nil)) (rk_nil))) (rs_cons (rs_expr (re_lm rfl PySem.F.slot_list_append PySem.F.type_list_append mt_append cm_append (re_attr (fxw T.fx) (f := 44) (by decide) rfl (re_var 0)) (rl_cons (re_tup (rl_cons (re_str) (rl_cons (re_var 1) (rl_nil)))) (rl_nil)))) (rs_one (rs_ret (re_var 2)))))
theorem d_called (T : TX K mg w scr ns) (h1 : LV P w K mg base scr ns (n + 1) φ) (h2 : LV P w K mg base scr ns n φm) : FnOk P w K mg base (L2.CX P w) (n + 2) (He.fAd K ("called", none)) (fdAt K (He.fAd K ("called", none))) P_called (spM (Gv K scr ns) 1 (runB 2 (b_called φ φm))) :=
  fn_okM T.d_called sc_called rfl rfl fun od cdv A outer s H E hr tk hp => rs_one (rs_ret (b_sorted (by rfl) (by rfl) (by rfl) T.n_sorted (rl_cons (by exact re_lock fun od => re_lc [1] rfl sc_called.nd (ri_any rfl (re_attr (fxw (fxw T.fx)) (f := 27) (by decide) rfl (re_var 0))) (blkOk_by (N := N_called) (sc := (defScope s_called)) (own := [("name", 1)]) (by decide +kernel)) rfl (by decide) (fun _ _ _ _ _ => pg_name (i := 1) sc_called.nd rfl (Or.inl rfl)) (fun _ _ _ _ _ => rts_nil) (fun _ _ _ _ _ => re_tup (rl_cons (re_var 1) (rl_cons (re_dget (hu_of hr) (re_attr (fxw (fxw T.fx)) (f := 27) (by decide) rfl (re_var 0)) (re_var 1)) (rl_nil))))) (rl_nil))))
theorem d_past (T : TX K mg w scr ns) (h1 : LV P w K mg base scr ns (n + 1) φ) (h2 : LV P w K mg base scr ns n φm) : FnOk P w K mg base (L2.CX P w) (n + 2) (He.fAd K ("past", none)) (fdAt K (He.fAd K ("past", none))) P_past (spM (Gv K scr ns) 1 (runB 1 (b_past φ φm))) :=
  fn_okM T.d_past sc_past rfl rfl fun od cdv A outer s H E hr tk hp => rs_one (rs_ret (b_list (by rfl) (by rfl) (by rfl) T.n_list (rl_cons (re_attr (fxw T.fx) (f := 29) (by decide) rfl (re_var 0)) (rl_nil))))
theorem d_law_fell (T : TX K mg w scr ns) (h1 : LV P w K mg base scr ns (n + 1) φ) (h2 : LV P w K mg base scr ns n φm) : FnOk P w K mg base (L2.CX P w) (n + 2) (He.fAd K ("_law_fell", none)) (fdAt K (He.fAd K ("_law_fell", none))) P_law_fell (spM (Gv K scr ns) 2 (runB 4 (b_law_fell φ φm))) :=
  fn_okM T.d_law_fell sc_law_fell rfl rfl fun od cdv A outer s H E hr tk hp => rs_cons (rs_for hp rfl (ri_any rfl (re_tup (rl_cons (re_int) (rl_cons (re_int) (rl_nil))))) (rg_name 2 sc_law_fell.nd rfl (Or.inl rfl)) (rs_cons (rs_set 3 sc_law_fell.nd rfl (Or.inl rfl) (re_ix rfl (re_dget (hu_of hr) (re_dget (hu_of hr) (re_var 0) (re_str)) (re_var 1)) (re_var 2))) (rs_cons (rs_asg (re_non) (rg_sub (re_dget (hu_of hr) (re_dget (hu_of hr) (re_var 0) (re_str)) (re_var 1)) (re_var 2))) (rs_one (rs_if (t_isn (re_var 3) (re_non)) (rs_one (rs_expr (c_call (calS h1.f_law_let (sh_law_let_0 T)) hr rfl T.g__law_let T.d_law_let.kp tk (rl_cons (re_var 0) (rl_cons (re_var 3) (rl_nil))) (rk_nil)))) (rs_nil)))))) (rs_one (rs_expr (re_lm rfl PySem.F.slot_list_append PySem.F.type_list_append mt_append cm_append (re_dget (hu_of hr) (re_var 0) (re_str)) (rl_cons (re_tup (rl_cons (re_str) (rl_cons (re_var 1) (rl_nil)))) (rl_nil)))))
theorem d_law_let (T : TX K mg w scr ns) (h1 : LV P w K mg base scr ns (n + 1) φ) (h2 : LV P w K mg base scr ns n φm) : FnOk P w K mg base (L2.CX P w) (n + 2) (He.fAd K ("_law_let", none)) (fdAt K (He.fAd K ("_law_let", none))) P_law_let (spM (Gv K scr ns) 2 (runB 2 (b_law_let φ φm))) :=
  fn_okM T.d_law_let sc_law_let rfl rfl fun od cdv A outer s H E hr tk hp => rs_cons (rs_dput (hu_of hr) (re_dget (hu_of hr) (re_var 0) (re_str)) (re_var 1) (re_sub (re_dget (hu_of hr) (re_dget (hu_of hr) (re_var 0) (re_str)) (re_var 1)) (re_int))) (rs_one (rs_if (t_eq hr rfl (re_dget (hu_of hr) (re_dget (hu_of hr) (re_var 0) (re_str)) (re_var 1)) (re_int)) (rs_one (rs_expr (c_call (calS h1.f_law_fell (sh_law_fell_0 T)) hr rfl T.g__law_fell T.d_law_fell.kp tk (rl_cons (re_var 0) (rl_cons (re_var 1) (rl_nil))) (rk_nil)))) (rs_nil)))
theorem d_law (T : TX K mg w scr ns) (h1 : LV P w K mg base scr ns (n + 1) φ) (h2 : LV P w K mg base scr ns n φm) : FnOk P w K mg base (L2.CX P w) (n + 2) (He.fAd K ("law", none)) (fdAt K (He.fAd K ("law", none))) P_law (spM (Gv K scr ns) 1 (runB 11 (b_law φ φm))) :=
  fn_okM T.d_law sc_law rfl rfl fun od cdv A outer s H E hr tk hp => rs_cons (rs_par rfl sc_law.nd rfl rfl (by decide) rfl rfl (rl_cons (re_add rfl (re_int) (c_call (calS h1.f_law_pick (sh_law_pick_0 T)) hr rfl T.g__law_pick T.d_law_pick.kp tk (rl_cons (re_var 0) (rl_cons (re_int) (rl_cons (re_int) (rl_nil)))) (rk_nil))) (rl_cons (c_make0 (calS h2.f_World_init (sh_World_init_0 T)) rfl T.k_World hr rfl T.g_World tk (rk_nil)) (rl_nil))) (by rfl)) (rs_cons (rs_setLc (i := 3) [4] rfl sc_law.nd rfl rfl (sw_true rfl rfl rfl (by decide +kernel)) (ri_r1 rfl T.n_range (re_var 1)) (blkOk_by (N := N_law) (sc := (defScope s_law)) (own := [("_law_k", 4)]) (by decide +kernel)) rfl (by decide) (fun _ _ _ _ _ => pg_name (i := 4) sc_law.nd rfl (Or.inl rfl)) (fun _ _ _ _ _ => rts_nil) (fun _ _ _ _ _ => re_ix rfl (re_lst (rl_cons (re_str) (rl_cons (re_str) (rl_nil)))) (c_call (calS h1.f_law_pick (sh_law_pick_0 T)) hr rfl T.g__law_pick T.d_law_pick.kp takes0 (rl_cons (re_var 0) (rl_cons (re_add rfl (re_int) (re_var 4)) (rl_cons (re_int) (rl_nil)))) (rk_nil)))) (rs_cons (rs_asg (re_str) (rg_sub (re_var 3) (re_int))) (rs_cons (rs_set 5 sc_law.nd rfl (Or.inl rfl) (re_disp (.cons (re_str) (re_dk) (.cons (re_str) (re_dk) (.cons (re_str) (re_lst (rl_nil)) (.nil)))))) (rs_cons (rs_for hp rfl (ri_r1 rfl T.n_range (re_var 1)) (rg_name 4 sc_law.nd rfl (Or.inl rfl)) (rs_cons (rs_expr (c_meth (C := He.ga K "World") (calS h1.f_World_make (sh_World_make_1 T)) (nf_ (fl := fl) "make" (by decide +kernel) (by decide +kernel)) rfl (re_var 2) T.c_World T.m_World_make hr tk (rl_cons (re_add rfl (re_str) (re_ix rfl (re_str) (re_var 4))) (rl_cons (re_str) (rl_nil))) (rk_nil))) (rs_cons (rs_set 6 sc_law.nd rfl (Or.inl rfl) (re_ifExp (t_gt (re_var 4) (re_int)) (re_add rfl (re_str) (re_ix rfl (re_str) (re_sub (re_var 4) (re_int)))) (re_non))) (rs_cons (rs_set 7 sc_law.nd rfl (Or.inl rfl) (c_meth (C := He.ga K "World") (calS h1.f_World_make (sh_World_make_0 T)) (nf_ (fl := fl) "make" (by decide +kernel) (by decide +kernel)) rfl (re_var 2) T.c_World T.m_World_make hr tk (rl_cons (re_add rfl (re_str) (re_ix rfl (re_str) (re_var 4))) (rl_cons (re_ix rfl (re_var 3) (re_var 4)) (rl_nil))) (rk_cons (re_tup (rl_cons (re_add rfl (re_str) (re_ix rfl (re_str) (re_var 4))) (rl_cons (re_var 6) (rl_nil)))) (rk_nil)))) (rs_cons (rs_dput (hu_of hr) (re_dget (hu_of hr) (re_var 5) (re_str)) (re_var 7) (re_lst (rl_cons (re_sub (re_var 7) (re_int)) (rl_cons (re_ifExp (t_gt (re_var 4) (re_int)) (re_sub (re_var 7) (re_int)) (re_non)) (rl_nil))))) (rs_cons (rs_dput (hu_of hr) (re_dget (hu_of hr) (re_var 5) (re_str)) (re_sub (re_var 7) (re_int)) (re_lst (rl_cons (re_non) (rl_cons (re_non) (rl_nil))))) (rs_one (rs_asg (re_tup (rl_cons (re_int) (rl_cons (re_int) (rl_nil)))) (rg_tup rfl rfl (rg_cons (rg_dput (hu_of hr) (re_dget (hu_of hr) (re_var 5) (re_str)) (re_var 7)) (rg_cons (rg_dput (hu_of hr) (re_dget (hu_of hr) (re_var 5) (re_str)) (re_sub (re_var 7) (re_int))) (rg_nil)))))))))))) (rs_cons (rs_expr (c_meth (C := He.ga K "World") (calS h1.f_World_put (sh_World_put_0 T)) (nf_ (fl := fl) "put" (by decide +kernel) (by decide +kernel)) rfl (re_var 2) T.c_World T.m_World_put hr tk (rl_cons (re_str) (rl_cons (re_int) (rl_cons (re_add rfl (re_str) (re_ix rfl (re_str) (re_sub (re_var 1) (re_int)))) (rl_nil)))) (rk_nil))) (rs_cons (rs_asg (re_sub (re_mul (re_int) (re_var 1)) (re_int)) (rg_sub (re_dget (hu_of hr) (re_dget (hu_of hr) (re_var 5) (re_str)) (re_int)) (re_int))) (rs_cons (rs_for hp rfl (ri_any rfl (c_call (calS h1.f_called (sh_called_0 T)) hr rfl T.g_called T.d_called.kp tk (rl_cons (re_var 2) (rl_nil)) (rk_nil))) (rg_tup rfl rfl (rg_cons (rg_name 8 sc_law.nd rfl (Or.inl rfl)) (rg_cons (rg_name 7 sc_law.nd rfl (Or.inl rfl)) (rg_nil)))) (rs_one (rs_if (t_ne hr rfl (c_meth (C := He.ga K "World") (calS h1.f_World_forget (sh_World_forget_0 T)) (nf_ (fl := fl) "forget" (by decide +kernel) (by decide +kernel)) rfl (re_var 2) T.c_World T.m_World_forget hr tk (rl_cons (re_var 8) (rl_nil)) (rk_nil)) (re_int)) (rs_one (rs_ret (re_bl))) (rs_nil)))) (rs_cons (rs_for hp rfl (ri_r1 rfl T.n_range (re_var 1)) (rg_name 4 sc_law.nd rfl (Or.inl rfl)) (rs_cons (rs_set 7 sc_law.nd rfl (Or.inl rfl) (re_add rfl (re_mul (re_int) (re_var 4)) (re_int))) (rs_one (rs_if (PW.pt (rw_and (t_nin hr rfl (re_tup (rl_cons (re_str) (rl_cons (re_var 7) (rl_nil)))) (re_dget (hu_of hr) (re_var 5) (re_str))) (rw_and1 (t_eq hr rfl (re_ix rfl (re_var 3) (re_var 4)) (re_str))))) (rs_cons (rs_dput (hu_of hr) (re_dget (hu_of hr) (re_var 5) (re_str)) (re_var 7) (re_add rfl (re_dget (hu_of hr) (re_dget (hu_of hr) (re_var 5) (re_str)) (re_var 7)) (re_int))) (rs_cons (rs_for hp rfl (ri_any rfl (re_tup (rl_cons (re_int) (rl_cons (re_int) (rl_nil))))) (rg_name 9 sc_law.nd rfl (Or.inl rfl)) (rs_cons (rs_set 10 sc_law.nd rfl (Or.inl rfl) (re_ix rfl (re_dget (hu_of hr) (re_dget (hu_of hr) (re_var 5) (re_str)) (re_var 7)) (re_var 9))) (rs_cons (rs_asg (re_non) (rg_sub (re_dget (hu_of hr) (re_dget (hu_of hr) (re_var 5) (re_str)) (re_var 7)) (re_var 9))) (rs_one (rs_if (t_isn (re_var 10) (re_non)) (rs_one (rs_expr (c_call (calS h1.f_law_let (sh_law_let_0 T)) hr rfl T.g__law_let T.d_law_let.kp tk (rl_cons (re_var 5) (rl_cons (re_var 10) (rl_nil))) (rk_nil)))) (rs_nil)))))) (rs_one (rs_expr (c_call (calS h1.f_law_let (sh_law_let_0 T)) hr rfl T.g__law_let T.d_law_let.kp tk (rl_cons (re_var 5) (rl_cons (re_var 7) (rl_nil))) (rk_nil)))))) (rs_nil))))) (rs_cons (rs_if (PW.pt (rw_or (t_ne hr rfl (c_meth0 (C := He.ga K "World") (calS h1.f_World_collect (sh_World_collect_0 T)) (nf_ (fl := fl) "collect" (by decide +kernel) (by decide +kernel)) rfl (re_var 2) T.c_World T.m_World_collect hr tk (rk_nil)) (re_var 1)) (rw_or1 (t_ne hr rfl (c_call (calS h1.f_past (sh_past_0 T)) hr rfl T.g_past T.d_past.kp tk (rl_cons (re_var 2) (rl_nil)) (rk_nil)) (re_dget (hu_of hr) (re_var 5) (re_str)))))) (rs_one (rs_ret (re_bl))) (rs_nil)) (rs_one (rs_ret (re_and (e_eq hr rfl (re_lenW (calS h2.f_World_len (sh_World_len_0 T)) rfl T.len_World hr tk rfl T.n_len (re_var 2)) (re_int)) (re_one (e_eq hr rfl (b_len (by rfl) (by rfl) (by rfl) T.n_len (rl_cons (re_dget (hu_of hr) (re_var 5) (re_str)) (rl_nil))) (re_mul (re_int) (re_var 1))))))))))))))))
theorem bad_ok {k : Nat} : LV P w K mg base scr ns k FT.bad := ⟨bad_fn rfl, bad_fn rfl, bad_fn rfl, bad_fn rfl, bad_fn rfl, bad_fn rfl, bad_fn rfl, bad_fn rfl, bad_fn rfl, bad_fn rfl, bad_fn rfl, bad_fn rfl, bad_fn rfl, bad_fn rfl, bad_fn rfl, bad_fn rfl, bad_fn rfl, bad_fn rfl, bad_fn rfl, bad_fn rfl, bad_fn rfl, bad_fn rfl, bad_fn rfl, bad_fn rfl, bad_fn rfl, bad_fn rfl, bad_fn rfl, bad_fn rfl, bad_fn rfl, bad_fn rfl, bad_fn rfl, bad_fn rfl, bad_fn rfl, bad_fn rfl, bad_fn rfl, bad_fn rfl, bad_fn rfl, bad_fn rfl, bad_fn rfl, bad_fn rfl, bad_fn rfl, bad_fn rfl, bad_fn rfl, bad_fn rfl, bad_fn rfl, bad_fn rfl, bad_fn rfl, bad_fn rfl, bad_fn rfl, bad_fn rfl, bad_fn rfl, bad_fn rfl, bad_fn rfl, bad_fn rfl, bad_fn rfl, bad_fn rfl, bad_fn rfl, bad_fn rfl, bad_fn rfl, bad_fn rfl, bad_fn rfl, bad_fn rfl, bad_fn rfl, bad_fn rfl, bad_fn rfl, bad_fn rfl, bad_fn rfl, bad_fn rfl, bad_fn rfl, bad_fn rfl, bad_fn rfl, bad_fn rfl, bad_fn rfl, bad_fn rfl, bad_fn rfl, bad_fn rfl, bad_fn rfl, bad_fn rfl, bad_fn rfl, bad_fn rfl⟩
/-- a def of which the contract is shown by hand: at every level above nought -/
structure HC (P : Program) (w : World) (K : PySem.W.Frag) (mg : Str → Option Value) (base : Heap) (scr : Addr) (ns : List Int) (pk : Int → Int → Int) : Prop where
  f_law_pick : ∀ n, FnOk P w K mg base (L2.CX P w) (n + 2) (He.fAd K ("_law_pick", none)) (fdAt K (He.fAd K ("_law_pick", none))) ["_law_script", "_law_k", "_law_many"] (spM (Gv K scr ns) 3 (pickF pk))
theorem step_ok {pk : Int → Int → Int} (T : TX K mg w scr ns) (c : HC P w K mg base scr ns pk) (h1 : LV P w K mg base scr ns (n + 1) φ) (h2 : LV P w K mg base scr ns n φm) : LV P w K mg base scr ns (n + 2) (FT.step pk φ φm) :=
  ⟨d_Pool_init T h1 h2, d_Pool_is_full T h1 h2, d_Pool_draw T h1 h2, d_Pool_back T h1 h2, d_Arena_init T h1 h2, d_Arena_draw_pool T h1 h2, d_Arena_back_pool T h1 h2, d_is_number T h1 h2, d_look_number T h1 h2, d_is_name T h1 h2, d_is_pool_size T h1 h2, d_look_size T h1 h2, d_kind_in T h1 h2, d_room_of T h1 h2, d_blocks_in T h1 h2, d_Blocks_init T h1 h2, d_Blocks_new_arena T h1 h2, d_Blocks_new_pool T h1 h2, d_Blocks_take T h1 h2, d_Blocks_give T h1 h2, d_Blocks_give_small T h1 h2, d_Blocks_settle T h1 h2, d_is_place T h1 h2, d_left_over T h1 h2, d_sift T h1 h2, d_Thing_init T h1 h2, d_Things_init T h1 h2, d_Things_track T h1 h2, d_Things_untrack T h1 h2, d_Things_shift T h1 h2, d_Things_new_thing T h1 h2, d_Things_look_bound T h1 h2, d_Things_targets_of T h1 h2, d_Things_sifted T h1 h2, d_Dying_init T h1 h2, d_Dying_hold T h1 h2, d_Dying_let_go T h1 h2, d_Dying_bind T h1 h2, d_Dying_unbind T h1 h2, d_Dying_empty_slot T h1 h2, d_Dying_die T h1 h2, d_Dying_end_aside T h1 h2, d_Dying_end T h1 h2, d_Dying_gone T h1 h2, d_Dying_ask_last T h1 h2, d_Dying_do_steps T h1 h2, d_Dying_do_step T h1 h2, d_Dying_unwatch T h1 h2, d_Dying_call T h1 h2, d_Dying_call_all T h1 h2, d_Dying_forget_weakly T h1 h2, d_Collecting_init T h1 h2, d_Collecting_collect_within T h1 h2, d_Collecting_collect_at T h1 h2, d_Collecting_tour T h1 h2, d_Collecting_may_track T h1 h2, d_Collecting_keep T h1 h2, d_Collecting_forget_lost T h1 h2, d_Collecting_ask_lost T h1 h2, d_Collecting_break_up T h1 h2, d_Collecting_may_collect T h1 h2, d_Collecting_count_new T h1 h2, d_is_step T h1 h2, d_are_steps T h1 h2, d_look_steps T h1 h2, d_World_init T h1 h2, d_World_len T h1 h2, d_World_look_name T h1 h2, d_World_make T h1 h2, d_World_forget T h1 h2, d_World_look_row T h1 h2, d_World_look_slot T h1 h2, d_World_put T h1 h2, d_World_collect T h1 h2, d_called T h1 h2, d_past T h1 h2, c.f_law_pick n, d_law_fell T h1 h2, d_law_let T h1 h2, d_law T h1 h2⟩
theorem lev_ok {pk : Int → Int → Int} (T : TX K mg w scr ns) (c : HC P w K mg base scr ns pk) : ∀ n, LV P w K mg base scr ns (n + 1) (lev pk n).1 ∧ LV P w K mg base scr ns n (lev pk n).2
  | 0 => ⟨bad_ok, bad_ok⟩
  | n + 1 => ⟨step_ok T c (lev_ok T c n).1 (lev_ok T c n).2, (lev_ok T c n).1⟩
end
section
variable {P : Program} {w : World} {K : PySem.W.Frag} {mg : Str → Option Value} {base : Heap} {scr : Addr} {ns : List Int}
abbrev N_law_pick : List Str := ["_law_script", "_law_k", "_law_many", "_law_cell", "_law_rest", "_law_turn", "_law_drawn"]
theorem sc_law_pick : FnScope N_law_pick ["_law_script", "_law_k", "_law_many"] (defScope s_law_pick) := ⟨rfl, rfl, rfl, by decide +kernel, rfl, by decide +kernel, by decide +kernel⟩
theorem pick_ok (T : TX K mg w scr ns) (n : Nat) (hl : ns.length < 1000) : FnOk P w K mg base (L2.CX P w) (n + 2) (He.fAd K ("_law_pick", none)) (fdAt K (He.fAd K ("_law_pick", none))) ["_law_script", "_law_k", "_law_many"] (spM (Gv K scr ns) 3 (pickF (pkF ns))) := by
  have F := T.d_law_pick
  refine F.ok sc_law_pick (spM_len rfl) fun cdv A outer s H vs Q E hr hs => ?_
  have nd := sc_law_pick.nd
  obtain ⟨od, ρ, M, args, R, rfl, ok, l, p⟩ := hs
  obtain ⟨k, m, rfl, hk, hm, q⟩ : ∃ k m, args = [.opq, .int k, .int m] ∧ 0 ≤ k ∧ 0 < m ∧ ∀ H', (∀ b o, H b = some o → H' b = some o) → Q (.int (pkF ns k m)) H' := by
    unfold pickF at p
    match args, p with
    | [.opq, .int k, .int m], p =>
      obtain ⟨g, p⟩ := guardF_inv p
      obtain ⟨g1, g2⟩ := Bool.and_eq_true_iff.mp g
      exact ⟨k, m, rfl, of_decide_eq_true g1, of_decide_eq_true g2, fun H' e => p ρ H' Ex.refl (R.ext e) trivial⟩
  have hR : ∃ t, PSs (cxOf (L2.CX P w) P w K mg base N_law_pick "_law_pick" (defScope s_law_pick) (He.fAd K ("_law_pick", none)) cdv A outer s H E) ((defBody s_law_pick).drop 1) t ∧
      ∀ H1, (∀ b o, H b = some o → H1 b = some o) → t { nx := fun _ H' => Q .non H', rt := Q } ((start N_law_pick [.ref scr, .int k, .int m]).set 3 (some (.int (cellF ns k)))) H1 := by
    refine ⟨_, pss_cons (ps_par (i := 4) (j := 5) rfl nd rfl rfl (by decide) rfl rfl (pa_cons (pe_op op_fdivW (pv 3) (pe_op op_pow pe_int pe_int)) (pa_cons (pe_op op_fdivW (pv 1) (pe_callB (call_max2 rfl) (by rfl) T.n_max boot_max (pa_cons (pe_callB call_len_seq (by rfl) T.n_len PySem.boot_len (pa_cons (pv 0) pa_nil)) (pa_cons pe_int pa_nil)))) pa_nil)) (by rfl))
    (pss_cons (ps_while (passes_of rfl) (pw_and (pt_cmpR op_gt (pv 4) pe_int (nomark _)) (pw_and1 (pt_cmpR op_gt (pv 5) pe_int (nomark _)))).pt
      (pss_one (ps_par (i := 4) (j := 5) rfl nd rfl rfl (by decide) rfl rfl (pa_cons (pe_op op_fdiv (pv 4) pe_int) (pa_cons (pe_op op_sub (pv 5) pe_int) pa_nil)) (by rfl))))
    (pss_cons (ps_if (pt_cmpR op_gt (pv 4) pe_int (nomark _)) (pss_one (ps_ret (pe_op op_mod (pe_op op_mod (pv 4) pe_int) (pv 2)))) pss_nil)
    (pss_cons (ps_set (i := 6) nd rfl (Or.inl rfl) (pe_op op_mod (pe_op op_mul (pe_op op_add (pe_op op_mul (pv 3) pe_int) (pe_op op_mul pe_int (pe_op op_add (pv 1) pe_int))) pe_int) pe_int))
    (pss_one (ps_ret (pe_op op_mod (pe_op op_mod (pe_op op_add (pe_op op_mul (pv 6) (pv 6)) (pe_op op_fdiv (pv 6) pe_int)) pe_int) (pv 2))))))), fun H1 e1 => ?_⟩
    have hS : SqL K H1 scr (ns.map V.int) := (R.ext e1).s.l
    have hmx : (0 : Int) < (if (1 : Int) > ((ns.map V.int).length : Int) then 1 else ((ns.map V.int).length : Int)) := by
      split <;> omega
    have hml : (if (1 : Int) > ((ns.map V.int).length : Int) then (1 : Int) else ((ns.map V.int).length : Int)).natAbs.log2 < 9000 := by
      have h1 : (if (1 : Int) > ((ns.map V.int).length : Int) then (1 : Int) else ((ns.map V.int).length : Int)).natAbs < 2 ^ 10 := by
        rw [List.length_map]
        split <;> omega
      exact Nat.lt_of_lt_of_le ((Nat.log2_lt (by omega)).mpr h1) (by decide)
    refine ⟨_, rfl, _, _, rfl, rfl, ⟨by decide, by decide, by decide⟩, _, _, rfl, rfl, ⟨by decide, by decide +kernel⟩, _, rfl, _, rfl, _, _, rfl, .inl hS, _, _, rfl, _, _, rfl, rfl, ⟨hmx, hml⟩, _, _, rfl, ?_⟩
    refine while_by (fun σ' H' => ∃ (t r : Int), σ' = ((((start N_law_pick [.ref scr, .int k, .int m]).set 3 (some (.int (cellF ns k)))).set 4 (some (.int r))).set 5 (some (.int t))) ∧ 0 ≤ t ∧ H' = H1 ∧ spin t.toNat r = spin (k / (if (1 : Int) > (ns.length : Int) then 1 else (ns.length : Int))).toNat (cellF ns k / (10 ^ 18)))
      (fun σ' _ => turnOf σ') ?_ ?_ ?_
    · refine ⟨_, _, rfl, Int.ediv_nonneg hk (Int.le_of_lt hmx), rfl, ?_⟩
      simp only [List.length_map]
      rfl
    · rintro σ' H' ⟨t, r, rfl, ht, rfl, hsp⟩
      refine ⟨_, rfl, _, _, rfl, rfl, _, rfl, ?_⟩
      by_cases h4 : 0 < r
      · rw [decide_eq_true h4]
        dsimp only
        rw [if_pos rfl]
        refine ⟨_, rfl, _, _, rfl, rfl, _, rfl, ?_⟩
        by_cases h5 : 0 < t
        · rw [decide_eq_true h5]
          dsimp only
          rw [if_pos rfl]
          refine ⟨_, rfl, _, _, rfl, rfl, ⟨by decide, by decide⟩, _, rfl, _, _, rfl, rfl, _, _, rfl, ⟨t - 1, r / 840, rfl, by omega, rfl, by rw [← hsp, spin_go h4 h5]⟩, ?_⟩
          show (t - 1).toNat < t.toNat
          omega
        · rw [decide_eq_false h5]
          dsimp only
          rw [if_neg (by decide)]
          have e0 : t.toNat = 0 := by omega
          rw [e0] at hsp
          have hsp : r = _ := hsp
          refine ⟨_, rfl, _, _, rfl, rfl, _, rfl, ?_⟩
          by_cases h6 : 0 < r
          · rw [decide_eq_true h6]
            dsimp only
            rw [if_pos rfl]
            refine ⟨_, rfl, _, _, rfl, rfl, (by decide : (0 : Int) < 840), _, rfl, _, _, rfl, rfl, hm, ?_⟩
            have z := q _ e1
            rw [pkF_go (by rw [← hsp]; exact h6), ← hsp] at z
            exact z
          · rw [decide_eq_false h6]
            dsimp only
            rw [if_neg (by decide)]
            refine ⟨_, rfl, _, _, rfl, rfl, .inr ⟨by decide, by decide⟩, _, rfl, _, _, rfl, rfl, _, _, rfl, rfl, .inl ⟨by decide, by decide⟩, _, _, rfl, rfl, _, _, rfl, rfl, .inr ⟨by decide, by decide⟩, _, _, rfl, rfl, (by decide : (0 : Int) < 2147483399), ?_⟩
            have hd := pick_d (cellF ns k) k
            refine ⟨_, rfl, _, rfl, _, _, rfl, rfl, .inl ⟨by omega, by omega⟩, _, rfl, _, _, rfl, rfl, ⟨by decide, by decide⟩, _, _, rfl, rfl, _, _, rfl, rfl, (by decide : (0 : Int) < 2147483629), _, rfl, _, _, rfl, rfl, hm, ?_⟩
            have z := q _ e1
            rw [pkF_stop (by rw [← hsp]; exact h6)] at z
            exact z
      · rw [decide_eq_false h4]
        dsimp only
        rw [if_neg (by decide), if_neg (by decide)]
        rw [spin_stop h4] at hsp
        refine ⟨_, rfl, _, _, rfl, rfl, _, rfl, ?_⟩
        by_cases h6 : 0 < r
        · rw [decide_eq_true h6]
          dsimp only
          rw [if_pos rfl]
          refine ⟨_, rfl, _, _, rfl, rfl, (by decide : (0 : Int) < 840), _, rfl, _, _, rfl, rfl, hm, ?_⟩
          have z := q _ e1
          rw [pkF_go (by rw [← hsp]; exact h6), ← hsp] at z
          exact z
        · rw [decide_eq_false h6]
          dsimp only
          rw [if_neg (by decide)]
          refine ⟨_, rfl, _, _, rfl, rfl, .inr ⟨by decide, by decide⟩, _, rfl, _, _, rfl, rfl, _, _, rfl, rfl, .inl ⟨by decide, by decide⟩, _, _, rfl, rfl, _, _, rfl, rfl, .inr ⟨by decide, by decide⟩, _, _, rfl, rfl, (by decide : (0 : Int) < 2147483399), ?_⟩
          have hd := pick_d (cellF ns k) k
          refine ⟨_, rfl, _, rfl, _, _, rfl, rfl, .inl ⟨by omega, by omega⟩, _, rfl, _, _, rfl, rfl, ⟨by decide, by decide⟩, _, _, rfl, rfl, _, _, rfl, rfl, (by decide : (0 : Int) < 2147483629), _, rfl, _, _, rfl, rfl, hm, ?_⟩
          have z := q _ e1
          rw [pkF_stop (by rw [← hsp]; exact h6)] at z
          exact z
    · intro σ' H' Q1 Q2 hq
      rintro ⟨v, ev, i1, j1, e2, e3, b1, e4, hc⟩
      refine ⟨v, ev, i1, j1, e2, e3, b1, e4, ?_⟩
      cases b1 with
      | true =>
        rw [if_pos rfl] at hc ⊢
        obtain ⟨v2, ev2, i2, j2, e5, e6, b2, e7, hc⟩ := hc
        exact ⟨v2, ev2, i2, j2, e5, e6, b2, e7, hq _ _ hc⟩
      | false =>
        rw [if_neg (by decide)] at hc ⊢
        exact hq _ _ hc
  obtain ⟨t, ht, hread⟩ := hR
  refine ⟨_, pss_cons (ps_set (i := 3) nd rfl (Or.inl rfl) (pe_ifExp (pt_cmpR (op_neD hr.units) (pv 0) (pe_lst pa_nil) (nomark _))
      (pe_ix ix_list (pv 0) (pe_op op_mod (pv 1) (pe_callB call_len_seq (by rfl) T.n_len PySem.boot_len (pa_cons (pv 0) pa_nil))) (fun _ _ => rfl)) pe_int)) ht, ?_⟩
  refine ⟨_, rfl, Nat.zero_le _, fun p hp => ?_⟩
  have e1 : ∀ b o, H b = some o → upd H p (.lst []) b = some o := fun b o eb => by rw [upd_ne (ne_of_none eb hp)]; exact eb
  have hS1 : SqL K (upd H p (.lst [])) scr (ns.map V.int) := (R.ext e1).s.l
  obtain ⟨d1, d2, d3⟩ := dp_ints (K := K) (H := upd H p (.lst [])) ns
  refine ⟨.list (ns.map .int), .list [], .lst hS1 d1, .lst (SqL.of upd_same) .nil, ?_, by decide, _, rfl, ?_⟩
  · refine Bool.and_eq_true_iff.mpr ⟨d2, decide_eq_true ?_⟩
    show PyData.depthAll (ns.map .int) + 1 ≤ 64
    omega
  · cases ns with
    | nil => exact hread _ e1
    | cons i r =>
      have hlen : (0 : Int) < (((i :: r).map V.int).length : Int) := by
        rw [List.length_map]
        simp
      refine ⟨_, rfl, _, rfl, _, rfl, _, _, rfl, .inl hS1, _, _, rfl, rfl, hlen, ?_⟩
      have hk2 := Int.emod_nonneg k (show (((i :: r).map V.int).length : Int) ≠ 0 by omega)
      have hk3 := Int.emod_lt_of_pos k hlen
      refine ⟨_, _, _, _, rfl, rfl, hS1, ?_, hread _ e1⟩
      rw [← Int.toNat_of_nonneg hk2]
      refine atI_nat ?_
      have hlt : (k % (((i :: r).map V.int).length : Int)).toNat < (i :: r).length := by
        rw [List.length_map] at hk2 hk3 ⊢
        omega
      rw [List.getElem?_map, List.getElem?_eq_getElem hlt]
      show some (V.int _) = some (V.int (cellF (i :: r) k))
      unfold cellF
      rw [if_neg (List.cons_ne_nil _ _), List.getD_eq_getElem?_getD, List.getElem?_eq_getElem (by rw [List.length_map] at hlt; exact hlt)]
      simp only [List.length_map]
      rfl
theorem hc_of (T : TX K mg w scr ns) (hl : ns.length < 1000) : HC P w K mg base scr ns (pkF ns) := ⟨fun n => pick_ok T n hl⟩
end
end LW
end
noncomputable section
namespace LW
open PySem PySem.Spec PyProof.Rows L2 PM
open He (fAd)
/-! ### the head -/
def kv_HEADS : List (Str × He.Dv) := [("leaf", .int 16), ("row", .int 56), ("fixed", .int 40), ("weak", .int 72)]
theorem hdm_HEADS : ∀ s i, hd_HEADS s = some i → (s, He.Dv.int i) ∈ kv_HEADS := by
  intro s i h
  unfold hd_HEADS at h
  repeat' (split at h; · cases h; rename_i e; subst e; simp [kv_HEADS])
  cases h
def fa_ : List He.Fa := ([.cls "World", .cls "Thing", .cls "Blocks", .cls "Arena", .cls "Pool", .glo "Arena", .glo "BOUNDS", .glo "Blocks"] : List He.Fa) ++ ([.glo "Collecting", .glo "Dying", .glo "FORMS", .glo "HEADS", .glo "Pool", .glo "Thing", .glo "Things", .glo "World"] : List He.Fa) ++ ([.glo "_law_fell", .glo "_law_let", .glo "_law_pick", .glo "are_steps", .glo "blocks_in", .glo "called", .glo "is_name", .glo "is_number"] : List He.Fa) ++ ([.glo "is_place", .glo "is_pool_size", .glo "is_step", .glo "kind_in", .glo "left_over", .glo "look_number", .glo "look_size", .glo "look_steps"] : List He.Fa) ++ ([.glo "past", .glo "room_of", .glo "sift", .free "all", .free "any", .free "bool", .free "dict", .free "enumerate"] : List He.Fa) ++ ([.free "int", .free "isinstance", .free "len", .free "list", .free "max", .free "min", .free "range", .free "reversed"] : List He.Fa) ++ ([.free "sorted", .free "str", .free "tuple", .str "CLEAR" "clear", .str "COLLECT" "collect", .str "FAIL" "fail", .str "FIXED" "fixed", .str "FORGET" "forget"] : List He.Fa) ++ ([.str "GREAT" "great", .int "HEAD" 48, .str "LEAF" "leaf", .int "LEAST_POOL" 1072, .int "LONGEST_NAME" 6, .int "MOST_EXTRA" 2000, .int "MOST_POOL" 4096, .int "MOST_POOLS" 64] : List He.Fa) ++ ([.int "MOST_SIZE" 9999, .int "MOST_SLOTS" 8, .int "MOST_SMALL" 512, .int "MOST_STEPS" 3, .int "NEST" 50, .int "OLDEST" 2, .int "PLACES" 5, .str "ROW" "row"] : List He.Fa) ++ ([.str "SAVE" "save", .int "SHARE" 4, .str "SMALL" "abcdefghijklmnopqrstuvwxyz", .int "STEP" 16, .int "WAITING" 4, .str "WEAK" "weak", .meth "Arena" "back_pool", .meth "Arena" "draw_pool"] : List He.Fa) ++ ([.meth "Blocks" "give", .meth "Blocks" "give_small", .meth "Blocks" "new_arena", .meth "Blocks" "new_pool", .meth "Blocks" "settle", .meth "Blocks" "take", .meth "Pool" "back", .meth "Pool" "draw"] : List He.Fa) ++ ([.meth "Pool" "is_full", .meth "World" "ask_last", .meth "World" "ask_lost", .meth "World" "bind", .meth "World" "break_up", .meth "World" "call", .meth "World" "call_all", .meth "World" "collect"] : List He.Fa) ++ ([.meth "World" "collect_at", .meth "World" "collect_within", .meth "World" "count_new", .meth "World" "die", .meth "World" "do_steps", .meth "World" "empty_slot", .meth "World" "end", .meth "World" "end_aside"] : List He.Fa) ++ ([.meth "World" "forget", .meth "World" "forget_lost", .meth "World" "forget_weakly", .meth "World" "gone", .meth "World" "hold", .meth "World" "keep", .meth "World" "let_go", .meth "World" "look_bound"] : List He.Fa) ++ ([.meth "World" "look_name", .meth "World" "look_row", .meth "World" "look_slot", .meth "World" "make", .meth "World" "may_collect", .meth "World" "may_track", .meth "World" "new_thing", .meth "World" "put"] : List He.Fa) ++ ([.meth "World" "shift", .meth "World" "sifted", .meth "World" "targets_of", .meth "World" "tour", .meth "World" "track", .meth "World" "unbind", .meth "World" "untrack", .meth "World" "unwatch"] : List He.Fa) ++ ([.mkr "Arena", .mkr "Blocks", .mkr "Pool", .mkr "Thing", .mkr "World", .glo "law"] : List He.Fa)
def dd_Pool_init : He.DefD := ⟨("Pool", some "__init__"), "__init__", "Pool.__init__", defArgs s_Pool_init, defBody s_Pool_init, defScope s_Pool_init, [], []⟩
def dd_Pool_is_full : He.DefD := ⟨("Pool", some "is_full"), "is_full", "Pool.is_full", defArgs s_Pool_is_full, defBody s_Pool_is_full, defScope s_Pool_is_full, [], []⟩
def dd_Pool_draw : He.DefD := ⟨("Pool", some "draw"), "draw", "Pool.draw", defArgs s_Pool_draw, defBody s_Pool_draw, defScope s_Pool_draw, [], []⟩
def dd_Pool_back : He.DefD := ⟨("Pool", some "back"), "back", "Pool.back", defArgs s_Pool_back, defBody s_Pool_back, defScope s_Pool_back, [], []⟩
def dd_Arena_init : He.DefD := ⟨("Arena", some "__init__"), "__init__", "Arena.__init__", defArgs s_Arena_init, defBody s_Arena_init, defScope s_Arena_init, [], []⟩
def dd_Arena_draw_pool : He.DefD := ⟨("Arena", some "draw_pool"), "draw_pool", "Arena.draw_pool", defArgs s_Arena_draw_pool, defBody s_Arena_draw_pool, defScope s_Arena_draw_pool, [], []⟩
def dd_Arena_back_pool : He.DefD := ⟨("Arena", some "back_pool"), "back_pool", "Arena.back_pool", defArgs s_Arena_back_pool, defBody s_Arena_back_pool, defScope s_Arena_back_pool, [], []⟩
def dd_is_number : He.DefD := ⟨("is_number", none), "is_number", "is_number", defArgs s_is_number, defBody s_is_number, defScope s_is_number, [], []⟩
def dd_look_number : He.DefD := ⟨("look_number", none), "look_number", "look_number", defArgs s_look_number, defBody s_look_number, defScope s_look_number, [], []⟩
def dd_is_name : He.DefD := ⟨("is_name", none), "is_name", "is_name", defArgs s_is_name, defBody s_is_name, defScope s_is_name, [], []⟩
def dd_is_pool_size : He.DefD := ⟨("is_pool_size", none), "is_pool_size", "is_pool_size", defArgs s_is_pool_size, defBody s_is_pool_size, defScope s_is_pool_size, [], []⟩
def dd_look_size : He.DefD := ⟨("look_size", none), "look_size", "look_size", defArgs s_look_size, defBody s_look_size, defScope s_look_size, [], []⟩
def dd_kind_in : He.DefD := ⟨("kind_in", none), "kind_in", "kind_in", defArgs s_kind_in, defBody s_kind_in, defScope s_kind_in, [], []⟩
def dd_room_of : He.DefD := ⟨("room_of", none), "room_of", "room_of", defArgs s_room_of, defBody s_room_of, defScope s_room_of, [], []⟩
def dd_blocks_in : He.DefD := ⟨("blocks_in", none), "blocks_in", "blocks_in", defArgs s_blocks_in, defBody s_blocks_in, defScope s_blocks_in, [], []⟩
def dd_Blocks_init : He.DefD := ⟨("Blocks", some "__init__"), "__init__", "Blocks.__init__", defArgs s_Blocks_init, defBody s_Blocks_init, defScope s_Blocks_init, [], [("pool_bytes", .int (4096)), ("pool_count", .int (16))]⟩
def dd_Blocks_new_arena : He.DefD := ⟨("Blocks", some "new_arena"), "new_arena", "Blocks.new_arena", defArgs s_Blocks_new_arena, defBody s_Blocks_new_arena, defScope s_Blocks_new_arena, [], []⟩
def dd_Blocks_new_pool : He.DefD := ⟨("Blocks", some "new_pool"), "new_pool", "Blocks.new_pool", defArgs s_Blocks_new_pool, defBody s_Blocks_new_pool, defScope s_Blocks_new_pool, [], []⟩
def dd_Blocks_take : He.DefD := ⟨("Blocks", some "take"), "take", "Blocks.take", defArgs s_Blocks_take, defBody s_Blocks_take, defScope s_Blocks_take, [], []⟩
def dd_Blocks_give : He.DefD := ⟨("Blocks", some "give"), "give", "Blocks.give", defArgs s_Blocks_give, defBody s_Blocks_give, defScope s_Blocks_give, [], []⟩
def dd_Blocks_give_small : He.DefD := ⟨("Blocks", some "give_small"), "give_small", "Blocks.give_small", defArgs s_Blocks_give_small, defBody s_Blocks_give_small, defScope s_Blocks_give_small, [], []⟩
def dd_Blocks_settle : He.DefD := ⟨("Blocks", some "settle"), "settle", "Blocks.settle", defArgs s_Blocks_settle, defBody s_Blocks_settle, defScope s_Blocks_settle, [], []⟩
def dd_is_place : He.DefD := ⟨("is_place", none), "is_place", "is_place", defArgs s_is_place, defBody s_is_place, defScope s_is_place, [], []⟩
def dd_left_over : He.DefD := ⟨("left_over", none), "left_over", "left_over", defArgs s_left_over, defBody s_left_over, defScope s_left_over, [], []⟩
def dd_sift : He.DefD := ⟨("sift", none), "sift", "sift", defArgs s_sift, defBody s_sift, defScope s_sift, [], []⟩
def dd_Thing_init : He.DefD := ⟨("Thing", some "__init__"), "__init__", "Thing.__init__", defArgs s_Thing_init, defBody s_Thing_init, defScope s_Thing_init, [], []⟩
def dd_Things_init : He.DefD := ⟨("Things", some "__init__"), "__init__", "Things.__init__", defArgs s_Things_init, defBody s_Things_init, defScope s_Things_init, [], []⟩
def dd_Things_track : He.DefD := ⟨("World", some "track"), "track", "Things.track", defArgs s_Things_track, defBody s_Things_track, defScope s_Things_track, [.int (0)], []⟩
def dd_Things_untrack : He.DefD := ⟨("World", some "untrack"), "untrack", "Things.untrack", defArgs s_Things_untrack, defBody s_Things_untrack, defScope s_Things_untrack, [], []⟩
def dd_Things_shift : He.DefD := ⟨("World", some "shift"), "shift", "Things.shift", defArgs s_Things_shift, defBody s_Things_shift, defScope s_Things_shift, [], []⟩
def dd_Things_new_thing : He.DefD := ⟨("World", some "new_thing"), "new_thing", "Things.new_thing", defArgs s_Things_new_thing, defBody s_Things_new_thing, defScope s_Things_new_thing, [], []⟩
def dd_Things_look_bound : He.DefD := ⟨("World", some "look_bound"), "look_bound", "Things.look_bound", defArgs s_Things_look_bound, defBody s_Things_look_bound, defScope s_Things_look_bound, [], []⟩
def dd_Things_targets_of : He.DefD := ⟨("World", some "targets_of"), "targets_of", "Things.targets_of", defArgs s_Things_targets_of, defBody s_Things_targets_of, defScope s_Things_targets_of, [], []⟩
def dd_Things_sifted : He.DefD := ⟨("World", some "sifted"), "sifted", "Things.sifted", defArgs s_Things_sifted, defBody s_Things_sifted, defScope s_Things_sifted, [], []⟩
def dd_Dying_init : He.DefD := ⟨("Dying", some "__init__"), "__init__", "Dying.__init__", defArgs s_Dying_init, defBody s_Dying_init, defScope s_Dying_init, [], []⟩
def dd_Dying_hold : He.DefD := ⟨("World", some "hold"), "hold", "Dying.hold", defArgs s_Dying_hold, defBody s_Dying_hold, defScope s_Dying_hold, [], []⟩
def dd_Dying_let_go : He.DefD := ⟨("World", some "let_go"), "let_go", "Dying.let_go", defArgs s_Dying_let_go, defBody s_Dying_let_go, defScope s_Dying_let_go, [], []⟩
def dd_Dying_bind : He.DefD := ⟨("World", some "bind"), "bind", "Dying.bind", defArgs s_Dying_bind, defBody s_Dying_bind, defScope s_Dying_bind, [], []⟩
def dd_Dying_unbind : He.DefD := ⟨("World", some "unbind"), "unbind", "Dying.unbind", defArgs s_Dying_unbind, defBody s_Dying_unbind, defScope s_Dying_unbind, [], []⟩
def dd_Dying_empty_slot : He.DefD := ⟨("World", some "empty_slot"), "empty_slot", "Dying.empty_slot", defArgs s_Dying_empty_slot, defBody s_Dying_empty_slot, defScope s_Dying_empty_slot, [], []⟩
def dd_Dying_die : He.DefD := ⟨("World", some "die"), "die", "Dying.die", defArgs s_Dying_die, defBody s_Dying_die, defScope s_Dying_die, [], []⟩
def dd_Dying_end_aside : He.DefD := ⟨("World", some "end_aside"), "end_aside", "Dying.end_aside", defArgs s_Dying_end_aside, defBody s_Dying_end_aside, defScope s_Dying_end_aside, [], []⟩
def dd_Dying_end : He.DefD := ⟨("World", some "end"), "end", "Dying.end", defArgs s_Dying_end, defBody s_Dying_end, defScope s_Dying_end, [], []⟩
def dd_Dying_gone : He.DefD := ⟨("World", some "gone"), "gone", "Dying.gone", defArgs s_Dying_gone, defBody s_Dying_gone, defScope s_Dying_gone, [], []⟩
def dd_Dying_ask_last : He.DefD := ⟨("World", some "ask_last"), "ask_last", "Dying.ask_last", defArgs s_Dying_ask_last, defBody s_Dying_ask_last, defScope s_Dying_ask_last, [], []⟩
def dd_Dying_do_steps : He.DefD := ⟨("World", some "do_steps"), "do_steps", "Dying.do_steps", defArgs s_Dying_do_steps, defBody s_Dying_do_steps, defScope s_Dying_do_steps, [], []⟩
def dd_Dying_do_step : He.DefD := ⟨("World", some "do_step"), "do_step", "Dying.do_step", defArgs s_Dying_do_step, defBody s_Dying_do_step, defScope s_Dying_do_step, [], []⟩
def dd_Dying_unwatch : He.DefD := ⟨("World", some "unwatch"), "unwatch", "Dying.unwatch", defArgs s_Dying_unwatch, defBody s_Dying_unwatch, defScope s_Dying_unwatch, [], []⟩
def dd_Dying_call : He.DefD := ⟨("World", some "call"), "call", "Dying.call", defArgs s_Dying_call, defBody s_Dying_call, defScope s_Dying_call, [], []⟩
def dd_Dying_call_all : He.DefD := ⟨("World", some "call_all"), "call_all", "Dying.call_all", defArgs s_Dying_call_all, defBody s_Dying_call_all, defScope s_Dying_call_all, [], []⟩
def dd_Dying_forget_weakly : He.DefD := ⟨("World", some "forget_weakly"), "forget_weakly", "Dying.forget_weakly", defArgs s_Dying_forget_weakly, defBody s_Dying_forget_weakly, defScope s_Dying_forget_weakly, [], []⟩
def dd_Collecting_init : He.DefD := ⟨("Collecting", some "__init__"), "__init__", "Collecting.__init__", defArgs s_Collecting_init, defBody s_Collecting_init, defScope s_Collecting_init, [], []⟩
def dd_Collecting_collect_within : He.DefD := ⟨("World", some "collect_within"), "collect_within", "Collecting.collect_within", defArgs s_Collecting_collect_within, defBody s_Collecting_collect_within, defScope s_Collecting_collect_within, [], []⟩
def dd_Collecting_collect_at : He.DefD := ⟨("World", some "collect_at"), "collect_at", "Collecting.collect_at", defArgs s_Collecting_collect_at, defBody s_Collecting_collect_at, defScope s_Collecting_collect_at, [], []⟩
def dd_Collecting_tour : He.DefD := ⟨("World", some "tour"), "tour", "Collecting.tour", defArgs s_Collecting_tour, defBody s_Collecting_tour, defScope s_Collecting_tour, [], []⟩
def dd_Collecting_may_track : He.DefD := ⟨("World", some "may_track"), "may_track", "Collecting.may_track", defArgs s_Collecting_may_track, defBody s_Collecting_may_track, defScope s_Collecting_may_track, [], []⟩
def dd_Collecting_keep : He.DefD := ⟨("World", some "keep"), "keep", "Collecting.keep", defArgs s_Collecting_keep, defBody s_Collecting_keep, defScope s_Collecting_keep, [], []⟩
def dd_Collecting_forget_lost : He.DefD := ⟨("World", some "forget_lost"), "forget_lost", "Collecting.forget_lost", defArgs s_Collecting_forget_lost, defBody s_Collecting_forget_lost, defScope s_Collecting_forget_lost, [], []⟩
def dd_Collecting_ask_lost : He.DefD := ⟨("World", some "ask_lost"), "ask_lost", "Collecting.ask_lost", defArgs s_Collecting_ask_lost, defBody s_Collecting_ask_lost, defScope s_Collecting_ask_lost, [], []⟩
def dd_Collecting_break_up : He.DefD := ⟨("World", some "break_up"), "break_up", "Collecting.break_up", defArgs s_Collecting_break_up, defBody s_Collecting_break_up, defScope s_Collecting_break_up, [], []⟩
def dd_Collecting_may_collect : He.DefD := ⟨("World", some "may_collect"), "may_collect", "Collecting.may_collect", defArgs s_Collecting_may_collect, defBody s_Collecting_may_collect, defScope s_Collecting_may_collect, [], []⟩
def dd_Collecting_count_new : He.DefD := ⟨("World", some "count_new"), "count_new", "Collecting.count_new", defArgs s_Collecting_count_new, defBody s_Collecting_count_new, defScope s_Collecting_count_new, [], []⟩
def dd_is_step : He.DefD := ⟨("is_step", none), "is_step", "is_step", defArgs s_is_step, defBody s_is_step, defScope s_is_step, [], []⟩
def dd_are_steps : He.DefD := ⟨("are_steps", none), "are_steps", "are_steps", defArgs s_are_steps, defBody s_are_steps, defScope s_are_steps, [], []⟩
def dd_look_steps : He.DefD := ⟨("look_steps", none), "look_steps", "look_steps", defArgs s_look_steps, defBody s_look_steps, defScope s_look_steps, [], []⟩
def dd_World_init : He.DefD := ⟨("World", some "__init__"), "__init__", "World.__init__", defArgs s_World_init, defBody s_World_init, defScope s_World_init, [], [("pool_bytes", .int (4096)), ("pool_count", .int (16)), ("nesting", .int (50))]⟩
def dd_World_len : He.DefD := ⟨("World", some "__len__"), "__len__", "World.__len__", defArgs s_World_len, defBody s_World_len, defScope s_World_len, [], []⟩
def dd_World_look_name : He.DefD := ⟨("World", some "look_name"), "look_name", "World.look_name", defArgs s_World_look_name, defBody s_World_look_name, defScope s_World_look_name, [], []⟩
def dd_World_make : He.DefD := ⟨("World", some "make"), "make", "World.make", defArgs s_World_make, defBody s_World_make, defScope s_World_make, [], [("holding", .adr (fun K => kwAt K (fAd K ("World", some "make")) "holding")), ("stepping", .adr (fun K => kwAt K (fAd K ("World", some "make")) "stepping")), ("extra", .int (0))]⟩
def dd_World_forget : He.DefD := ⟨("World", some "forget"), "forget", "World.forget", defArgs s_World_forget, defBody s_World_forget, defScope s_World_forget, [], []⟩
def dd_World_look_row : He.DefD := ⟨("World", some "look_row"), "look_row", "World.look_row", defArgs s_World_look_row, defBody s_World_look_row, defScope s_World_look_row, [], []⟩
def dd_World_look_slot : He.DefD := ⟨("World", some "look_slot"), "look_slot", "World.look_slot", defArgs s_World_look_slot, defBody s_World_look_slot, defScope s_World_look_slot, [], []⟩
def dd_World_put : He.DefD := ⟨("World", some "put"), "put", "World.put", defArgs s_World_put, defBody s_World_put, defScope s_World_put, [], []⟩
def dd_World_collect : He.DefD := ⟨("World", some "collect"), "collect", "World.collect", defArgs s_World_collect, defBody s_World_collect, defScope s_World_collect, [.int (2)], []⟩
def dd_called : He.DefD := ⟨("called", none), "called", "called", defArgs s_called, defBody s_called, defScope s_called, [], []⟩
def dd_past : He.DefD := ⟨("past", none), "past", "past", defArgs s_past, defBody s_past, defScope s_past, [], []⟩
def dd_law_pick : He.DefD := ⟨("_law_pick", none), "_law_pick", "_law_pick", defArgs s_law_pick, defBody s_law_pick, defScope s_law_pick, [], []⟩
def dd_law_fell : He.DefD := ⟨("_law_fell", none), "_law_fell", "_law_fell", defArgs s_law_fell, defBody s_law_fell, defScope s_law_fell, [], []⟩
def dd_law_let : He.DefD := ⟨("_law_let", none), "_law_let", "_law_let", defArgs s_law_let, defBody s_law_let, defScope s_law_let, [], []⟩
def dd_law : He.DefD := ⟨("law", none), "law", "law", defArgs s_law, defBody s_law, defScope s_law, [], []⟩
def fn_ : List He.DefD := ([dd_Pool_init, dd_Pool_is_full, dd_Pool_draw, dd_Pool_back, dd_Arena_init, dd_Arena_draw_pool, dd_Arena_back_pool, dd_is_number] : List He.DefD) ++ ([dd_look_number, dd_is_name, dd_is_pool_size, dd_look_size, dd_kind_in, dd_room_of, dd_blocks_in, dd_Blocks_init] : List He.DefD) ++ ([dd_Blocks_new_arena, dd_Blocks_new_pool, dd_Blocks_take, dd_Blocks_give, dd_Blocks_give_small, dd_Blocks_settle, dd_is_place, dd_left_over] : List He.DefD) ++ ([dd_sift, dd_Thing_init, dd_Things_init, dd_Things_track, dd_Things_untrack, dd_Things_shift, dd_Things_new_thing, dd_Things_look_bound] : List He.DefD) ++ ([dd_Things_targets_of, dd_Things_sifted, dd_Dying_init, dd_Dying_hold, dd_Dying_let_go, dd_Dying_bind, dd_Dying_unbind, dd_Dying_empty_slot] : List He.DefD) ++ ([dd_Dying_die, dd_Dying_end_aside, dd_Dying_end, dd_Dying_gone, dd_Dying_ask_last, dd_Dying_do_steps, dd_Dying_do_step, dd_Dying_unwatch] : List He.DefD) ++ ([dd_Dying_call, dd_Dying_call_all, dd_Dying_forget_weakly, dd_Collecting_init, dd_Collecting_collect_within, dd_Collecting_collect_at, dd_Collecting_tour, dd_Collecting_may_track] : List He.DefD) ++ ([dd_Collecting_keep, dd_Collecting_forget_lost, dd_Collecting_ask_lost, dd_Collecting_break_up, dd_Collecting_may_collect, dd_Collecting_count_new, dd_is_step, dd_are_steps] : List He.DefD) ++ ([dd_look_steps, dd_World_init, dd_World_len, dd_World_look_name, dd_World_make, dd_World_forget, dd_World_look_row, dd_World_look_slot] : List He.DefD) ++ ([dd_World_put, dd_World_collect, dd_called, dd_past, dd_law_pick, dd_law_fell, dd_law_let, dd_law] : List He.DefD)
def ts_ : List He.Tab := [(fun K => He.ga K "HEADS", ["leaf", "row", "fixed", "weak"])]
def exs (K : PySem.W.Frag) : List Bool := ([cfB K (He.ga K "Collecting") "__init__" (He.fAd K ("Collecting", some "__init__")), cfB K (He.ga K "Dying") "__init__" (He.fAd K ("Dying", some "__init__")), cfB K (He.ga K "Things") "__init__" (He.fAd K ("Things", some "__init__")), He.valsB K (He.ga K "HEADS") kv_HEADS] : List Bool) ++ ([lenB K (He.ga K "World") (He.fAd K ("World", some "__len__")), tupAB K ((kwAt K (fAd K ("World", some "make")) "holding")) [], tupAB K ((kwAt K (fAd K ("World", some "make")) "stepping")) [], tupAB K (He.ga K "FORMS") [.str "leaf", .str "row", .str "fixed"]] : List Bool) ++ ([tupAB K (He.ga K "BOUNDS") [.int 700, .int 10, .int 10]] : List Bool)
def ex_ (K : PySem.W.Frag) : Bool := ((List.range 5).all fun c => fl.all fun x => He.eqO (PySem.W.findIn K (.ref (clsA K c)) x) (some none)) && (exs K).all id
theorem clsx {K : PySem.W.Frag} (D : He.SaysD fa_ fn_ K) : ∀ c, c < NCL → L2.Cls K (clsA K c)
  | 0, _ => He.cls_ok (D.fact 0 rfl)
  | 1, _ => He.cls_ok (D.fact 1 rfl)
  | 2, _ => He.cls_ok (D.fact 2 rfl)
  | 3, _ => He.cls_ok (D.fact 3 rfl)
  | 4, _ => He.cls_ok (D.fact 4 rfl)
  | n + 5, h => absurd h (by show ¬ n + 5 < 5; omega)
theorem tx_of {w : World} {K : PySem.W.Frag} {h : Heap} {mg : Str → Option Value} {scr : Addr} {ns : List Int} (X : K.In h) (G : h.Ns mainGlobals mg) (c : SaysP fa_ fn_ ts_ ex_ w K) (ht : TauOk (Gv K scr ns) 0) : TX K mg w scr ns := by
  have D := c.t.d
  obtain ⟨x1, x0⟩ := He.ba c.more
  have x2 : ∀ i b, (exs K)[i]? = some b → b = true := fun i b e => List.all_eq_true.mp x0 b (List.mem_of_getElem? e)
  exact {
    fx := ⟨rfl, clsx D, no_of x1⟩, tau := ht,
    c_World := He.cls_ok (D.fact 0 rfl),
    c_Thing := He.cls_ok (D.fact 1 rfl),
    c_Blocks := He.cls_ok (D.fact 2 rfl),
    c_Arena := He.cls_ok (D.fact 3 rfl),
    c_Pool := He.cls_ok (D.fact 4 rfl),
    g_Arena := He.glo_ok X G (D.fact 5 rfl),
    g_BOUNDS := He.glo_ok X G (D.fact 6 rfl),
    g_Blocks := He.glo_ok X G (D.fact 7 rfl),
    g_Collecting := He.glo_ok X G (D.fact 8 rfl),
    g_Dying := He.glo_ok X G (D.fact 9 rfl),
    g_FORMS := He.glo_ok X G (D.fact 10 rfl),
    g_HEADS := He.glo_ok X G (D.fact 11 rfl),
    g_Pool := He.glo_ok X G (D.fact 12 rfl),
    g_Thing := He.glo_ok X G (D.fact 13 rfl),
    g_Things := He.glo_ok X G (D.fact 14 rfl),
    g_World := He.glo_ok X G (D.fact 15 rfl),
    g__law_fell := He.glo_ok X G (D.fact 16 rfl),
    g__law_let := He.glo_ok X G (D.fact 17 rfl),
    g__law_pick := He.glo_ok X G (D.fact 18 rfl),
    g_are_steps := He.glo_ok X G (D.fact 19 rfl),
    g_blocks_in := He.glo_ok X G (D.fact 20 rfl),
    g_called := He.glo_ok X G (D.fact 21 rfl),
    g_is_name := He.glo_ok X G (D.fact 22 rfl),
    g_is_number := He.glo_ok X G (D.fact 23 rfl),
    g_is_place := He.glo_ok X G (D.fact 24 rfl),
    g_is_pool_size := He.glo_ok X G (D.fact 25 rfl),
    g_is_step := He.glo_ok X G (D.fact 26 rfl),
    g_kind_in := He.glo_ok X G (D.fact 27 rfl),
    g_left_over := He.glo_ok X G (D.fact 28 rfl),
    g_look_number := He.glo_ok X G (D.fact 29 rfl),
    g_look_size := He.glo_ok X G (D.fact 30 rfl),
    g_look_steps := He.glo_ok X G (D.fact 31 rfl),
    g_past := He.glo_ok X G (D.fact 32 rfl),
    g_room_of := He.glo_ok X G (D.fact 33 rfl),
    g_sift := He.glo_ok X G (D.fact 34 rfl),
    n_all := He.free_ok X G (D.fact 35 rfl),
    n_any := He.free_ok X G (D.fact 36 rfl),
    n_bool := He.free_ok X G (D.fact 37 rfl),
    n_dict := He.free_ok X G (D.fact 38 rfl),
    n_enumerate := He.free_ok X G (D.fact 39 rfl),
    n_int := He.free_ok X G (D.fact 40 rfl),
    n_isinstance := He.free_ok X G (D.fact 41 rfl),
    n_len := He.free_ok X G (D.fact 42 rfl),
    n_list := He.free_ok X G (D.fact 43 rfl),
    n_max := He.free_ok X G (D.fact 44 rfl),
    n_min := He.free_ok X G (D.fact 45 rfl),
    n_range := He.free_ok X G (D.fact 46 rfl),
    n_reversed := He.free_ok X G (D.fact 47 rfl),
    n_sorted := He.free_ok X G (D.fact 48 rfl),
    n_str := He.free_ok X G (D.fact 49 rfl),
    n_tuple := He.free_ok X G (D.fact 50 rfl),
    i_CLEAR := He.str_ok X G (D.fact 51 rfl),
    i_COLLECT := He.str_ok X G (D.fact 52 rfl),
    i_FAIL := He.str_ok X G (D.fact 53 rfl),
    i_FIXED := He.str_ok X G (D.fact 54 rfl),
    i_FORGET := He.str_ok X G (D.fact 55 rfl),
    i_GREAT := He.str_ok X G (D.fact 56 rfl),
    i_HEAD := He.int_ok X G (D.fact 57 rfl),
    i_LEAF := He.str_ok X G (D.fact 58 rfl),
    i_LEAST_POOL := He.int_ok X G (D.fact 59 rfl),
    i_LONGEST_NAME := He.int_ok X G (D.fact 60 rfl),
    i_MOST_EXTRA := He.int_ok X G (D.fact 61 rfl),
    i_MOST_POOL := He.int_ok X G (D.fact 62 rfl),
    i_MOST_POOLS := He.int_ok X G (D.fact 63 rfl),
    i_MOST_SIZE := He.int_ok X G (D.fact 64 rfl),
    i_MOST_SLOTS := He.int_ok X G (D.fact 65 rfl),
    i_MOST_SMALL := He.int_ok X G (D.fact 66 rfl),
    i_MOST_STEPS := He.int_ok X G (D.fact 67 rfl),
    i_NEST := He.int_ok X G (D.fact 68 rfl),
    i_OLDEST := He.int_ok X G (D.fact 69 rfl),
    i_PLACES := He.int_ok X G (D.fact 70 rfl),
    i_ROW := He.str_ok X G (D.fact 71 rfl),
    i_SAVE := He.str_ok X G (D.fact 72 rfl),
    i_SHARE := He.int_ok X G (D.fact 73 rfl),
    i_SMALL := He.str_ok X G (D.fact 74 rfl),
    i_STEP := He.int_ok X G (D.fact 75 rfl),
    i_WAITING := He.int_ok X G (D.fact 76 rfl),
    i_WEAK := He.str_ok X G (D.fact 77 rfl),
    m_Arena_back_pool := He.meth_ok (D.fact 78 rfl),
    m_Arena_draw_pool := He.meth_ok (D.fact 79 rfl),
    m_Blocks_give := He.meth_ok (D.fact 80 rfl),
    m_Blocks_give_small := He.meth_ok (D.fact 81 rfl),
    m_Blocks_new_arena := He.meth_ok (D.fact 82 rfl),
    m_Blocks_new_pool := He.meth_ok (D.fact 83 rfl),
    m_Blocks_settle := He.meth_ok (D.fact 84 rfl),
    m_Blocks_take := He.meth_ok (D.fact 85 rfl),
    m_Pool_back := He.meth_ok (D.fact 86 rfl),
    m_Pool_draw := He.meth_ok (D.fact 87 rfl),
    m_Pool_is_full := He.meth_ok (D.fact 88 rfl),
    m_World_ask_last := He.meth_ok (D.fact 89 rfl),
    m_World_ask_lost := He.meth_ok (D.fact 90 rfl),
    m_World_bind := He.meth_ok (D.fact 91 rfl),
    m_World_break_up := He.meth_ok (D.fact 92 rfl),
    m_World_call := He.meth_ok (D.fact 93 rfl),
    m_World_call_all := He.meth_ok (D.fact 94 rfl),
    m_World_collect := He.meth_ok (D.fact 95 rfl),
    m_World_collect_at := He.meth_ok (D.fact 96 rfl),
    m_World_collect_within := He.meth_ok (D.fact 97 rfl),
    m_World_count_new := He.meth_ok (D.fact 98 rfl),
    m_World_die := He.meth_ok (D.fact 99 rfl),
    m_World_do_steps := He.meth_ok (D.fact 100 rfl),
    m_World_empty_slot := He.meth_ok (D.fact 101 rfl),
    m_World_end := He.meth_ok (D.fact 102 rfl),
    m_World_end_aside := He.meth_ok (D.fact 103 rfl),
    m_World_forget := He.meth_ok (D.fact 104 rfl),
    m_World_forget_lost := He.meth_ok (D.fact 105 rfl),
    m_World_forget_weakly := He.meth_ok (D.fact 106 rfl),
    m_World_gone := He.meth_ok (D.fact 107 rfl),
    m_World_hold := He.meth_ok (D.fact 108 rfl),
    m_World_keep := He.meth_ok (D.fact 109 rfl),
    m_World_let_go := He.meth_ok (D.fact 110 rfl),
    m_World_look_bound := He.meth_ok (D.fact 111 rfl),
    m_World_look_name := He.meth_ok (D.fact 112 rfl),
    m_World_look_row := He.meth_ok (D.fact 113 rfl),
    m_World_look_slot := He.meth_ok (D.fact 114 rfl),
    m_World_make := He.meth_ok (D.fact 115 rfl),
    m_World_may_collect := He.meth_ok (D.fact 116 rfl),
    m_World_may_track := He.meth_ok (D.fact 117 rfl),
    m_World_new_thing := He.meth_ok (D.fact 118 rfl),
    m_World_put := He.meth_ok (D.fact 119 rfl),
    m_World_shift := He.meth_ok (D.fact 120 rfl),
    m_World_sifted := He.meth_ok (D.fact 121 rfl),
    m_World_targets_of := He.meth_ok (D.fact 122 rfl),
    m_World_tour := He.meth_ok (D.fact 123 rfl),
    m_World_track := He.meth_ok (D.fact 124 rfl),
    m_World_unbind := He.meth_ok (D.fact 125 rfl),
    m_World_untrack := He.meth_ok (D.fact 126 rfl),
    m_World_unwatch := He.meth_ok (D.fact 127 rfl),
    k_Arena := He.mkr_ok (D.fact 128 rfl),
    k_Blocks := He.mkr_ok (D.fact 129 rfl),
    k_Pool := He.mkr_ok (D.fact 130 rfl),
    k_Thing := He.mkr_ok (D.fact 131 rfl),
    k_World := He.mkr_ok (D.fact 132 rfl),
    cf_Collecting := cfB_ok (x2 0 _ rfl),
    cf_Dying := cfB_ok (x2 1 _ rfl),
    cf_Things := cfB_ok (x2 2 _ rfl),
    hd_HEADS := hd_of (c.t.tab 0 rfl) (x2 3 _ rfl) hdm_HEADS,
    len_World := lenB_ok (x2 4 _ rfl),
    d_Pool_init := let ⟨_, F⟩ := D.def_ 0 (d := dd_Pool_init) rfl; fd_at F,
    d_Pool_is_full := let ⟨_, F⟩ := D.def_ 1 (d := dd_Pool_is_full) rfl; fd_at F,
    d_Pool_draw := let ⟨_, F⟩ := D.def_ 2 (d := dd_Pool_draw) rfl; fd_at F,
    d_Pool_back := let ⟨_, F⟩ := D.def_ 3 (d := dd_Pool_back) rfl; fd_at F,
    d_Arena_init := let ⟨_, F⟩ := D.def_ 4 (d := dd_Arena_init) rfl; fd_at F,
    d_Arena_draw_pool := let ⟨_, F⟩ := D.def_ 5 (d := dd_Arena_draw_pool) rfl; fd_at F,
    d_Arena_back_pool := let ⟨_, F⟩ := D.def_ 6 (d := dd_Arena_back_pool) rfl; fd_at F,
    d_is_number := let ⟨_, F⟩ := D.def_ 7 (d := dd_is_number) rfl; fd_at F,
    d_look_number := let ⟨_, F⟩ := D.def_ 8 (d := dd_look_number) rfl; fd_at F,
    d_is_name := let ⟨_, F⟩ := D.def_ 9 (d := dd_is_name) rfl; fd_at F,
    d_is_pool_size := let ⟨_, F⟩ := D.def_ 10 (d := dd_is_pool_size) rfl; fd_at F,
    d_look_size := let ⟨_, F⟩ := D.def_ 11 (d := dd_look_size) rfl; fd_at F,
    d_kind_in := let ⟨_, F⟩ := D.def_ 12 (d := dd_kind_in) rfl; fd_at F,
    d_room_of := let ⟨_, F⟩ := D.def_ 13 (d := dd_room_of) rfl; fd_at F,
    d_blocks_in := let ⟨_, F⟩ := D.def_ 14 (d := dd_blocks_in) rfl; fd_at F,
    d_Blocks_init := let ⟨_, F⟩ := D.def_ 15 (d := dd_Blocks_init) rfl; fd_at F,
    d_Blocks_new_arena := let ⟨_, F⟩ := D.def_ 16 (d := dd_Blocks_new_arena) rfl; fd_at F,
    d_Blocks_new_pool := let ⟨_, F⟩ := D.def_ 17 (d := dd_Blocks_new_pool) rfl; fd_at F,
    d_Blocks_take := let ⟨_, F⟩ := D.def_ 18 (d := dd_Blocks_take) rfl; fd_at F,
    d_Blocks_give := let ⟨_, F⟩ := D.def_ 19 (d := dd_Blocks_give) rfl; fd_at F,
    d_Blocks_give_small := let ⟨_, F⟩ := D.def_ 20 (d := dd_Blocks_give_small) rfl; fd_at F,
    d_Blocks_settle := let ⟨_, F⟩ := D.def_ 21 (d := dd_Blocks_settle) rfl; fd_at F,
    d_is_place := let ⟨_, F⟩ := D.def_ 22 (d := dd_is_place) rfl; fd_at F,
    d_left_over := let ⟨_, F⟩ := D.def_ 23 (d := dd_left_over) rfl; fd_at F,
    d_sift := let ⟨_, F⟩ := D.def_ 24 (d := dd_sift) rfl; fd_at F,
    d_Thing_init := let ⟨_, F⟩ := D.def_ 25 (d := dd_Thing_init) rfl; fd_at F,
    d_Things_init := let ⟨_, F⟩ := D.def_ 26 (d := dd_Things_init) rfl; fd_at F,
    d_Things_track := let ⟨_, F⟩ := D.def_ 27 (d := dd_Things_track) rfl; fd_at F,
    d_Things_untrack := let ⟨_, F⟩ := D.def_ 28 (d := dd_Things_untrack) rfl; fd_at F,
    d_Things_shift := let ⟨_, F⟩ := D.def_ 29 (d := dd_Things_shift) rfl; fd_at F,
    d_Things_new_thing := let ⟨_, F⟩ := D.def_ 30 (d := dd_Things_new_thing) rfl; fd_at F,
    d_Things_look_bound := let ⟨_, F⟩ := D.def_ 31 (d := dd_Things_look_bound) rfl; fd_at F,
    d_Things_targets_of := let ⟨_, F⟩ := D.def_ 32 (d := dd_Things_targets_of) rfl; fd_at F,
    d_Things_sifted := let ⟨_, F⟩ := D.def_ 33 (d := dd_Things_sifted) rfl; fd_at F,
    d_Dying_init := let ⟨_, F⟩ := D.def_ 34 (d := dd_Dying_init) rfl; fd_at F,
    d_Dying_hold := let ⟨_, F⟩ := D.def_ 35 (d := dd_Dying_hold) rfl; fd_at F,
    d_Dying_let_go := let ⟨_, F⟩ := D.def_ 36 (d := dd_Dying_let_go) rfl; fd_at F,
    d_Dying_bind := let ⟨_, F⟩ := D.def_ 37 (d := dd_Dying_bind) rfl; fd_at F,
    d_Dying_unbind := let ⟨_, F⟩ := D.def_ 38 (d := dd_Dying_unbind) rfl; fd_at F,
    d_Dying_empty_slot := let ⟨_, F⟩ := D.def_ 39 (d := dd_Dying_empty_slot) rfl; fd_at F,
    d_Dying_die := let ⟨_, F⟩ := D.def_ 40 (d := dd_Dying_die) rfl; fd_at F,
    d_Dying_end_aside := let ⟨_, F⟩ := D.def_ 41 (d := dd_Dying_end_aside) rfl; fd_at F,
    d_Dying_end := let ⟨_, F⟩ := D.def_ 42 (d := dd_Dying_end) rfl; fd_at F,
    d_Dying_gone := let ⟨_, F⟩ := D.def_ 43 (d := dd_Dying_gone) rfl; fd_at F,
    d_Dying_ask_last := let ⟨_, F⟩ := D.def_ 44 (d := dd_Dying_ask_last) rfl; fd_at F,
    d_Dying_do_steps := let ⟨_, F⟩ := D.def_ 45 (d := dd_Dying_do_steps) rfl; fd_at F,
    d_Dying_do_step := let ⟨_, F⟩ := D.def_ 46 (d := dd_Dying_do_step) rfl; fd_at F,
    d_Dying_unwatch := let ⟨_, F⟩ := D.def_ 47 (d := dd_Dying_unwatch) rfl; fd_at F,
    d_Dying_call := let ⟨_, F⟩ := D.def_ 48 (d := dd_Dying_call) rfl; fd_at F,
    d_Dying_call_all := let ⟨_, F⟩ := D.def_ 49 (d := dd_Dying_call_all) rfl; fd_at F,
    d_Dying_forget_weakly := let ⟨_, F⟩ := D.def_ 50 (d := dd_Dying_forget_weakly) rfl; fd_at F,
    d_Collecting_init := let ⟨_, F⟩ := D.def_ 51 (d := dd_Collecting_init) rfl; fd_at F,
    d_Collecting_collect_within := let ⟨_, F⟩ := D.def_ 52 (d := dd_Collecting_collect_within) rfl; fd_at F,
    d_Collecting_collect_at := let ⟨_, F⟩ := D.def_ 53 (d := dd_Collecting_collect_at) rfl; fd_at F,
    d_Collecting_tour := let ⟨_, F⟩ := D.def_ 54 (d := dd_Collecting_tour) rfl; fd_at F,
    d_Collecting_may_track := let ⟨_, F⟩ := D.def_ 55 (d := dd_Collecting_may_track) rfl; fd_at F,
    d_Collecting_keep := let ⟨_, F⟩ := D.def_ 56 (d := dd_Collecting_keep) rfl; fd_at F,
    d_Collecting_forget_lost := let ⟨_, F⟩ := D.def_ 57 (d := dd_Collecting_forget_lost) rfl; fd_at F,
    d_Collecting_ask_lost := let ⟨_, F⟩ := D.def_ 58 (d := dd_Collecting_ask_lost) rfl; fd_at F,
    d_Collecting_break_up := let ⟨_, F⟩ := D.def_ 59 (d := dd_Collecting_break_up) rfl; fd_at F,
    d_Collecting_may_collect := let ⟨_, F⟩ := D.def_ 60 (d := dd_Collecting_may_collect) rfl; fd_at F,
    d_Collecting_count_new := let ⟨_, F⟩ := D.def_ 61 (d := dd_Collecting_count_new) rfl; fd_at F,
    d_is_step := let ⟨_, F⟩ := D.def_ 62 (d := dd_is_step) rfl; fd_at F,
    d_are_steps := let ⟨_, F⟩ := D.def_ 63 (d := dd_are_steps) rfl; fd_at F,
    d_look_steps := let ⟨_, F⟩ := D.def_ 64 (d := dd_look_steps) rfl; fd_at F,
    d_World_init := let ⟨_, F⟩ := D.def_ 65 (d := dd_World_init) rfl; fd_at F,
    d_World_len := let ⟨_, F⟩ := D.def_ 66 (d := dd_World_len) rfl; fd_at F,
    d_World_look_name := let ⟨_, F⟩ := D.def_ 67 (d := dd_World_look_name) rfl; fd_at F,
    d_World_make := let ⟨_, F⟩ := D.def_ 68 (d := dd_World_make) rfl; fd_at F,
    d_World_forget := let ⟨_, F⟩ := D.def_ 69 (d := dd_World_forget) rfl; fd_at F,
    d_World_look_row := let ⟨_, F⟩ := D.def_ 70 (d := dd_World_look_row) rfl; fd_at F,
    d_World_look_slot := let ⟨_, F⟩ := D.def_ 71 (d := dd_World_look_slot) rfl; fd_at F,
    d_World_put := let ⟨_, F⟩ := D.def_ 72 (d := dd_World_put) rfl; fd_at F,
    d_World_collect := let ⟨_, F⟩ := D.def_ 73 (d := dd_World_collect) rfl; fd_at F,
    d_called := let ⟨_, F⟩ := D.def_ 74 (d := dd_called) rfl; fd_at F,
    d_past := let ⟨_, F⟩ := D.def_ 75 (d := dd_past) rfl; fd_at F,
    d_law_pick := let ⟨_, F⟩ := D.def_ 76 (d := dd_law_pick) rfl; fd_at F,
    d_law_fell := let ⟨_, F⟩ := D.def_ 77 (d := dd_law_fell) rfl; fd_at F,
    d_law_let := let ⟨_, F⟩ := D.def_ 78 (d := dd_law_let) rfl; fd_at F,
    d_law := let ⟨_, F⟩ := D.def_ 79 (d := dd_law) rfl; fd_at F }
theorem sq_of {K : PySem.W.Frag} (c : ex_ K = true) (H : Hp) : SqT K H (raA K 0) (([] : List He.Dv).map (He.Dv.v K)) ∧ SqT K H (raA K 1) (([] : List He.Dv).map (He.Dv.v K)) ∧ SqT K H (raA K 2) (([.str "leaf", .str "row", .str "fixed"] : List He.Dv).map (He.Dv.v K)) ∧ SqT K H (raA K 3) (([.int 700, .int 10, .int 10] : List He.Dv).map (He.Dv.v K)) := by
  obtain ⟨x1, x0⟩ := He.ba c
  have x2 : ∀ i b, (exs K)[i]? = some b → b = true := fun i b e => List.all_eq_true.mp x0 b (List.mem_of_getElem? e)
  exact ⟨tupAB_ok (x2 5 _ rfl) H, tupAB_ok (x2 6 _ rfl) H, tupAB_ok (x2 7 _ rfl) H, tupAB_ok (x2 8 _ rfl) H⟩
def names_ : List Str := (["_wall", "HeapError", "NoSize", "NoNumber", "NoName", "NoBlock", "NoThing", "NoForm", "NoSteps", "NoSlot"] : List Str) ++ (["NoRow", "Bare", "StepFailed", "Pool", "Arena", "SMALL", "LONGEST_NAME", "STEP", "MOST_SMALL", "HEAD"] : List Str) ++ (["LEAST_POOL", "MOST_POOL", "MOST_SIZE", "is_number", "look_number", "is_name", "is_pool_size", "look_size", "kind_in", "room_of"] : List Str) ++ (["blocks_in", "MOST_POOLS", "GREAT", "Blocks", "is_place", "left_over", "sift", "LEAF", "ROW", "FIXED"] : List Str) ++ (["WEAK", "FORMS", "HEADS", "YOUNGEST", "OLDEST", "WAITING", "PLACES", "Thing", "Things", "SAVE"] : List Str) ++ (["FORGET", "CLEAR", "FAIL", "COLLECT", "Dying", "BOUNDS", "SHARE", "Collecting", "MOST_SLOTS", "MOST_STEPS"] : List Str) ++ (["MOST_EXTRA", "POOL_SIZE", "POOLS", "NEST", "is_step", "are_steps", "look_steps", "World", "called", "past"] : List Str) ++ (["_law_pick", "_law_fell", "_law_let"] : List Str)
end LW
end
noncomputable section
namespace LW
open PySem PySem.Spec PyProof.Rows L2 PM
open He (fAd)
abbrev RR : PySem.W.OpenRow := PySem.W.OpenLaw.row PySem.Challenge.rw_pyheap_k65_whole_broken_up
abbrev qv : Program := PySem.W.view RR.prog [84]
def lawIx : Nat := 84
abbrev lawFact : Nat := 133
def as_ : (Addr → Option Obj) → List Addr := pathA (([("World", ["__init__", "__len__", "look_name", "make", "forget", "look_row", "look_slot", "put", "collect"]), ("Collecting", ["__init__", "collect_within", "collect_at", "tour", "may_track", "keep", "forget_lost", "ask_lost", "break_up", "may_collect", "count_new"]), ("Dying", ["__init__", "hold", "let_go", "bind", "unbind", "empty_slot", "die", "end_aside", "end", "gone", "ask_last", "do_steps", "do_step", "unwatch", "call", "call_all", "forget_weakly"]), ("Things", ["__init__", "track", "untrack", "shift", "new_thing", "look_bound", "targets_of", "sifted"])] : List (Str × List Str)) ++ ([("Thing", ["__init__"]), ("Blocks", ["__init__", "new_arena", "new_pool", "take", "give", "give_small", "settle"]), ("Arena", ["__init__", "draw_pool", "back_pool"]), ("Pool", ["__init__", "is_full", "draw", "back"])] : List (Str × List Str))) ((["is_number", "look_number", "is_name", "is_pool_size", "look_size", "kind_in", "room_of", "blocks_in", "is_place", "left_over"] : List Str) ++ (["sift", "is_step", "are_steps", "look_steps", "called", "past", "_law_pick", "_law_fell", "_law_let", "law"] : List Str) ++ (["FORMS", "BOUNDS", "HEADS"] : List Str)) (([("Blocks", some "__init__"), ("Things", some "track"), ("World", some "__init__"), ("World", some "make")] : List (Str × Option Str)) ++ ([("World", some "collect")] : List (Str × Option Str)))
abbrev hk : PySem.W.Hook := hookP as_ fa_ fn_ ts_ ex_
def ob (s : PySem.W.SharedT) : He.AlX := obsP as_ fa_ fn_ ts_ ex_ (HandSHeadRun.getT s)
theorem ob_eq (s : PySem.W.SharedT) : ob s = hk.obs s.abs := obsP_eq (HandSHeadRun.getT_eq s)
theorem run_f (w : World) : HandSHeadRun.RunEq RR qv hk ob 14000 names_ (w.withFollow "special-get-raises" false) := by
  intro os
  kernel_rfl
theorem run_t (w : World) : HandSHeadRun.RunEq RR qv hk ob 14000 names_ (w.withFollow "special-get-raises" true) := by
  intro os
  kernel_rfl
theorem run_ (w : World) : HandSHeadRun.RunEq RR qv hk ob 14000 names_ w := PySem.W.byRow2 "special-get-raises" run_f run_t w
end LW
end
noncomputable section
namespace LW
open PySem PySem.Spec PyProof.Rows L2 PM
open He (fAd)
/-! ### the start -/
theorem m0_get (n : Nat) : M0.get n = if n = 3 then some (.ktup [.int (700), .int (10), .int (10)]) else if n = 2 then some (.ktup [.str "leaf", .str "row", .str "fixed"]) else if n = 1 then some (.ktup []) else if n = 0 then some (.ktup []) else none := by
  show T.get (T.set (T.set (T.set (T.set T.nil 0 (.ktup [])) 1 (.ktup [])) 2 (.ktup [.str "leaf", .str "row", .str "fixed"])) 3 (.ktup [.int (700), .int (10), .int (10)])) n = _
  rw [T.get_set _ _ _ rfl, T.get_set _ _ _ rfl, T.get_set _ _ _ rfl, T.get_set _ _ _ rfl]
  simp only [T.nil_get]
theorem rl0 {K : PySem.W.Frag} {H : Hp} {a : Addr} {ns : List Int} {od : Addr → Obj} (c : ex_ K = true) (hO : Only H) (h : SqL K H a (ns.map V.int)) : Rl ((Gv K a ns).wod od) (raA K) M0 H := by
  obtain ⟨q0, q1, q2, q3⟩ := sq_of c H
  refine ⟨fun n ob e => ?_, fun n m ob ob' e _ hm _ _ => ?_, sqf_only hO h, ⟨Nat.le_refl _, fun n _ => rfl⟩, fun n hn => ?_⟩
  · rw [m0_get] at e
    by_cases z3 : n = 3
    · rw [if_pos z3] at e
      subst z3
      cases e
      exact ⟨by decide, fun x hx => (by simp at hx; try (rcases hx with rfl | rfl | rfl <;> trivial)), q3⟩
    rw [if_neg z3] at e
    by_cases z2 : n = 2
    · rw [if_pos z2] at e
      subst z2
      cases e
      exact ⟨by decide, fun x hx => (by simp at hx; try (rcases hx with rfl | rfl | rfl <;> trivial)), q2⟩
    rw [if_neg z2] at e
    by_cases z1 : n = 1
    · rw [if_pos z1] at e
      subst z1
      cases e
      exact ⟨by decide, fun x hx => (by simp at hx; try (rcases hx with rfl <;> trivial)), q1⟩
    rw [if_neg z1] at e
    by_cases z0 : n = 0
    · rw [if_pos z0] at e
      subst z0
      cases e
      exact ⟨by decide, fun x hx => (by simp at hx; try (rcases hx with rfl <;> trivial)), q0⟩
    rw [if_neg z0] at e
    cases e
  · rw [m0_get] at e
    by_cases z3 : n = 3
    · rw [if_pos z3] at e
      cases e
      cases hm
    rw [if_neg z3] at e
    by_cases z2 : n = 2
    · rw [if_pos z2] at e
      cases e
      cases hm
    rw [if_neg z2] at e
    by_cases z1 : n = 1
    · rw [if_pos z1] at e
      cases e
      cases hm
    rw [if_neg z1] at e
    by_cases z0 : n = 0
    · rw [if_pos z0] at e
      cases e
      cases hm
    rw [if_neg z0] at e
    cases e
  · have hn : n < 4 := hn
    rw [m0_get]
    repeat' split
    all_goals first | rfl | omega
/-! ### the end -/
def pkT (t : List (Nat × Nat × Nat)) (pk : Int → Int → Int) (k m : Int) : Int := match t with
  | [] => pk k m
  | p :: r => if k = Int.ofNat p.1 ∧ m = Int.ofNat p.2.1 then Int.ofNat p.2.2 else pkT r pk k m
theorem pkT_one {pk : Int → Int → Int} {a b v : Nat} {t : List (Nat × Nat × Nat)} (h : pk (Int.ofNat a) (Int.ofNat b) = Int.ofNat v) (e : pkT t pk = pk) : pkT ((a, b, v) :: t) pk = pk := by
  funext k m
  show (if k = Int.ofNat a ∧ m = Int.ofNat b then Int.ofNat v else pkT t pk k m) = _
  by_cases z : k = Int.ofNat a ∧ m = Int.ofNat b
  · rw [if_pos z, z.1, z.2]
    exact h.symm
  · rw [if_neg z, e]
theorem pkT_nil {pk : Int → Int → Int} : pkT [] pk = pk := rfl
def good (o : Out MV) : Bool := match o with
  | .ok (.bl true) _ => true
  | _ => false
def LVL : Nat := 80
def run (pk : Int → Int → Int) : Bool := good ((lev pk LVL).1.f_law [.opq] M0)
theorem run_of {pk : Int → Int → Int} {t : List (Nat × Nat × Nat)} (e : pkT t pk = pk) (h : run (pkT t pk) = true) : run pk = true := by
  rw [e] at h
  exact h
theorem nat_below {pk : Int → Int → Int} (hp : ∀ k m, 0 < m → 0 ≤ pk k m ∧ pk k m < m) (k m : Nat) (hm : 0 < m) : ∃ v : Nat, v < m ∧ pk (Int.ofNat k) (Int.ofNat m) = Int.ofNat v := by
  obtain ⟨h1, h2⟩ := hp (Int.ofNat k) (Int.ofNat m) (by exact Int.ofNat_lt.mpr hm)
  refine ⟨(pk (Int.ofNat k) (Int.ofNat m)).toNat, ?_, ?_⟩
  · have : ((m : Nat) : Int) = Int.ofNat m := rfl
    omega
  · exact (Int.toNat_of_nonneg h1).symm
theorem ev_0 (pk : Int → Int → Int) : run (pkT [(0, 5, 0), (1, 2, 0), (2, 2, 0)] pk) = true := by kernel_rfl
theorem ev_1 (pk : Int → Int → Int) : run (pkT [(0, 5, 0), (1, 2, 0), (2, 2, 1)] pk) = true := by kernel_rfl
theorem ev_2 (pk : Int → Int → Int) : run (pkT [(0, 5, 0), (1, 2, 1), (2, 2, 0)] pk) = true := by kernel_rfl
theorem ev_3 (pk : Int → Int → Int) : run (pkT [(0, 5, 0), (1, 2, 1), (2, 2, 1)] pk) = true := by kernel_rfl
theorem ga_0 (pk : Int → Int → Int) (h : pk (Int.ofNat 0) (Int.ofNat 5) = Int.ofNat 0) (v0 v1 : Nat) (l0 : v0 < 2) (l1 : v1 < 2) (h0 : pk (Int.ofNat 1) (Int.ofNat 2) = Int.ofNat v0) (h1 : pk (Int.ofNat 2) (Int.ofNat 2) = Int.ofNat v1) : run pk = true := by
  match v0, l0, h0 with
  | 0, _, h0 =>
    match v1, l1, h1 with
    | 0, _, h1 =>
      exact run_of (pkT_one h (pkT_one h0 (pkT_one h1 (pkT_nil)))) (ev_0 pk)
    | 1, _, h1 =>
      exact run_of (pkT_one h (pkT_one h0 (pkT_one h1 (pkT_nil)))) (ev_1 pk)
  | 1, _, h0 =>
    match v1, l1, h1 with
    | 0, _, h1 =>
      exact run_of (pkT_one h (pkT_one h0 (pkT_one h1 (pkT_nil)))) (ev_2 pk)
    | 1, _, h1 =>
      exact run_of (pkT_one h (pkT_one h0 (pkT_one h1 (pkT_nil)))) (ev_3 pk)
theorem ev_4 (pk : Int → Int → Int) : run (pkT [(0, 5, 1), (1, 2, 0), (2, 2, 0), (3, 2, 0)] pk) = true := by kernel_rfl
theorem ev_5 (pk : Int → Int → Int) : run (pkT [(0, 5, 1), (1, 2, 0), (2, 2, 0), (3, 2, 1)] pk) = true := by kernel_rfl
theorem ev_6 (pk : Int → Int → Int) : run (pkT [(0, 5, 1), (1, 2, 0), (2, 2, 1), (3, 2, 0)] pk) = true := by kernel_rfl
theorem ev_7 (pk : Int → Int → Int) : run (pkT [(0, 5, 1), (1, 2, 0), (2, 2, 1), (3, 2, 1)] pk) = true := by kernel_rfl
theorem ev_8 (pk : Int → Int → Int) : run (pkT [(0, 5, 1), (1, 2, 1), (2, 2, 0), (3, 2, 0)] pk) = true := by kernel_rfl
theorem ev_9 (pk : Int → Int → Int) : run (pkT [(0, 5, 1), (1, 2, 1), (2, 2, 0), (3, 2, 1)] pk) = true := by kernel_rfl
theorem ev_10 (pk : Int → Int → Int) : run (pkT [(0, 5, 1), (1, 2, 1), (2, 2, 1), (3, 2, 0)] pk) = true := by kernel_rfl
theorem ev_11 (pk : Int → Int → Int) : run (pkT [(0, 5, 1), (1, 2, 1), (2, 2, 1), (3, 2, 1)] pk) = true := by kernel_rfl
theorem ga_1 (pk : Int → Int → Int) (h : pk (Int.ofNat 0) (Int.ofNat 5) = Int.ofNat 1) (v0 v1 v2 : Nat) (l0 : v0 < 2) (l1 : v1 < 2) (l2 : v2 < 2) (h0 : pk (Int.ofNat 1) (Int.ofNat 2) = Int.ofNat v0) (h1 : pk (Int.ofNat 2) (Int.ofNat 2) = Int.ofNat v1) (h2 : pk (Int.ofNat 3) (Int.ofNat 2) = Int.ofNat v2) : run pk = true := by
  match v0, l0, h0 with
  | 0, _, h0 =>
    match v1, l1, h1 with
    | 0, _, h1 =>
      match v2, l2, h2 with
      | 0, _, h2 =>
        exact run_of (pkT_one h (pkT_one h0 (pkT_one h1 (pkT_one h2 (pkT_nil))))) (ev_4 pk)
      | 1, _, h2 =>
        exact run_of (pkT_one h (pkT_one h0 (pkT_one h1 (pkT_one h2 (pkT_nil))))) (ev_5 pk)
    | 1, _, h1 =>
      match v2, l2, h2 with
      | 0, _, h2 =>
        exact run_of (pkT_one h (pkT_one h0 (pkT_one h1 (pkT_one h2 (pkT_nil))))) (ev_6 pk)
      | 1, _, h2 =>
        exact run_of (pkT_one h (pkT_one h0 (pkT_one h1 (pkT_one h2 (pkT_nil))))) (ev_7 pk)
  | 1, _, h0 =>
    match v1, l1, h1 with
    | 0, _, h1 =>
      match v2, l2, h2 with
      | 0, _, h2 =>
        exact run_of (pkT_one h (pkT_one h0 (pkT_one h1 (pkT_one h2 (pkT_nil))))) (ev_8 pk)
      | 1, _, h2 =>
        exact run_of (pkT_one h (pkT_one h0 (pkT_one h1 (pkT_one h2 (pkT_nil))))) (ev_9 pk)
    | 1, _, h1 =>
      match v2, l2, h2 with
      | 0, _, h2 =>
        exact run_of (pkT_one h (pkT_one h0 (pkT_one h1 (pkT_one h2 (pkT_nil))))) (ev_10 pk)
      | 1, _, h2 =>
        exact run_of (pkT_one h (pkT_one h0 (pkT_one h1 (pkT_one h2 (pkT_nil))))) (ev_11 pk)
theorem ev_12 (pk : Int → Int → Int) : run (pkT [(0, 5, 2), (1, 2, 0), (2, 2, 0), (3, 2, 0), (4, 2, 0)] pk) = true := by kernel_rfl
theorem ev_13 (pk : Int → Int → Int) : run (pkT [(0, 5, 2), (1, 2, 0), (2, 2, 0), (3, 2, 0), (4, 2, 1)] pk) = true := by kernel_rfl
theorem ev_14 (pk : Int → Int → Int) : run (pkT [(0, 5, 2), (1, 2, 0), (2, 2, 0), (3, 2, 1), (4, 2, 0)] pk) = true := by kernel_rfl
theorem ev_15 (pk : Int → Int → Int) : run (pkT [(0, 5, 2), (1, 2, 0), (2, 2, 0), (3, 2, 1), (4, 2, 1)] pk) = true := by kernel_rfl
theorem ev_16 (pk : Int → Int → Int) : run (pkT [(0, 5, 2), (1, 2, 0), (2, 2, 1), (3, 2, 0), (4, 2, 0)] pk) = true := by kernel_rfl
theorem ev_17 (pk : Int → Int → Int) : run (pkT [(0, 5, 2), (1, 2, 0), (2, 2, 1), (3, 2, 0), (4, 2, 1)] pk) = true := by kernel_rfl
theorem ev_18 (pk : Int → Int → Int) : run (pkT [(0, 5, 2), (1, 2, 0), (2, 2, 1), (3, 2, 1), (4, 2, 0)] pk) = true := by kernel_rfl
theorem ev_19 (pk : Int → Int → Int) : run (pkT [(0, 5, 2), (1, 2, 0), (2, 2, 1), (3, 2, 1), (4, 2, 1)] pk) = true := by kernel_rfl
theorem ev_20 (pk : Int → Int → Int) : run (pkT [(0, 5, 2), (1, 2, 1), (2, 2, 0), (3, 2, 0), (4, 2, 0)] pk) = true := by kernel_rfl
theorem ev_21 (pk : Int → Int → Int) : run (pkT [(0, 5, 2), (1, 2, 1), (2, 2, 0), (3, 2, 0), (4, 2, 1)] pk) = true := by kernel_rfl
theorem ev_22 (pk : Int → Int → Int) : run (pkT [(0, 5, 2), (1, 2, 1), (2, 2, 0), (3, 2, 1), (4, 2, 0)] pk) = true := by kernel_rfl
theorem ev_23 (pk : Int → Int → Int) : run (pkT [(0, 5, 2), (1, 2, 1), (2, 2, 0), (3, 2, 1), (4, 2, 1)] pk) = true := by kernel_rfl
theorem ev_24 (pk : Int → Int → Int) : run (pkT [(0, 5, 2), (1, 2, 1), (2, 2, 1), (3, 2, 0), (4, 2, 0)] pk) = true := by kernel_rfl
theorem ev_25 (pk : Int → Int → Int) : run (pkT [(0, 5, 2), (1, 2, 1), (2, 2, 1), (3, 2, 0), (4, 2, 1)] pk) = true := by kernel_rfl
theorem ev_26 (pk : Int → Int → Int) : run (pkT [(0, 5, 2), (1, 2, 1), (2, 2, 1), (3, 2, 1), (4, 2, 0)] pk) = true := by kernel_rfl
theorem ev_27 (pk : Int → Int → Int) : run (pkT [(0, 5, 2), (1, 2, 1), (2, 2, 1), (3, 2, 1), (4, 2, 1)] pk) = true := by kernel_rfl
theorem ga_2 (pk : Int → Int → Int) (h : pk (Int.ofNat 0) (Int.ofNat 5) = Int.ofNat 2) (v0 v1 v2 v3 : Nat) (l0 : v0 < 2) (l1 : v1 < 2) (l2 : v2 < 2) (l3 : v3 < 2) (h0 : pk (Int.ofNat 1) (Int.ofNat 2) = Int.ofNat v0) (h1 : pk (Int.ofNat 2) (Int.ofNat 2) = Int.ofNat v1) (h2 : pk (Int.ofNat 3) (Int.ofNat 2) = Int.ofNat v2) (h3 : pk (Int.ofNat 4) (Int.ofNat 2) = Int.ofNat v3) : run pk = true := by
  match v0, l0, h0 with
  | 0, _, h0 =>
    match v1, l1, h1 with
    | 0, _, h1 =>
      match v2, l2, h2 with
      | 0, _, h2 =>
        match v3, l3, h3 with
        | 0, _, h3 =>
          exact run_of (pkT_one h (pkT_one h0 (pkT_one h1 (pkT_one h2 (pkT_one h3 (pkT_nil)))))) (ev_12 pk)
        | 1, _, h3 =>
          exact run_of (pkT_one h (pkT_one h0 (pkT_one h1 (pkT_one h2 (pkT_one h3 (pkT_nil)))))) (ev_13 pk)
      | 1, _, h2 =>
        match v3, l3, h3 with
        | 0, _, h3 =>
          exact run_of (pkT_one h (pkT_one h0 (pkT_one h1 (pkT_one h2 (pkT_one h3 (pkT_nil)))))) (ev_14 pk)
        | 1, _, h3 =>
          exact run_of (pkT_one h (pkT_one h0 (pkT_one h1 (pkT_one h2 (pkT_one h3 (pkT_nil)))))) (ev_15 pk)
    | 1, _, h1 =>
      match v2, l2, h2 with
      | 0, _, h2 =>
        match v3, l3, h3 with
        | 0, _, h3 =>
          exact run_of (pkT_one h (pkT_one h0 (pkT_one h1 (pkT_one h2 (pkT_one h3 (pkT_nil)))))) (ev_16 pk)
        | 1, _, h3 =>
          exact run_of (pkT_one h (pkT_one h0 (pkT_one h1 (pkT_one h2 (pkT_one h3 (pkT_nil)))))) (ev_17 pk)
      | 1, _, h2 =>
        match v3, l3, h3 with
        | 0, _, h3 =>
          exact run_of (pkT_one h (pkT_one h0 (pkT_one h1 (pkT_one h2 (pkT_one h3 (pkT_nil)))))) (ev_18 pk)
        | 1, _, h3 =>
          exact run_of (pkT_one h (pkT_one h0 (pkT_one h1 (pkT_one h2 (pkT_one h3 (pkT_nil)))))) (ev_19 pk)
  | 1, _, h0 =>
    match v1, l1, h1 with
    | 0, _, h1 =>
      match v2, l2, h2 with
      | 0, _, h2 =>
        match v3, l3, h3 with
        | 0, _, h3 =>
          exact run_of (pkT_one h (pkT_one h0 (pkT_one h1 (pkT_one h2 (pkT_one h3 (pkT_nil)))))) (ev_20 pk)
        | 1, _, h3 =>
          exact run_of (pkT_one h (pkT_one h0 (pkT_one h1 (pkT_one h2 (pkT_one h3 (pkT_nil)))))) (ev_21 pk)
      | 1, _, h2 =>
        match v3, l3, h3 with
        | 0, _, h3 =>
          exact run_of (pkT_one h (pkT_one h0 (pkT_one h1 (pkT_one h2 (pkT_one h3 (pkT_nil)))))) (ev_22 pk)
        | 1, _, h3 =>
          exact run_of (pkT_one h (pkT_one h0 (pkT_one h1 (pkT_one h2 (pkT_one h3 (pkT_nil)))))) (ev_23 pk)
    | 1, _, h1 =>
      match v2, l2, h2 with
      | 0, _, h2 =>
        match v3, l3, h3 with
        | 0, _, h3 =>
          exact run_of (pkT_one h (pkT_one h0 (pkT_one h1 (pkT_one h2 (pkT_one h3 (pkT_nil)))))) (ev_24 pk)
        | 1, _, h3 =>
          exact run_of (pkT_one h (pkT_one h0 (pkT_one h1 (pkT_one h2 (pkT_one h3 (pkT_nil)))))) (ev_25 pk)
      | 1, _, h2 =>
        match v3, l3, h3 with
        | 0, _, h3 =>
          exact run_of (pkT_one h (pkT_one h0 (pkT_one h1 (pkT_one h2 (pkT_one h3 (pkT_nil)))))) (ev_26 pk)
        | 1, _, h3 =>
          exact run_of (pkT_one h (pkT_one h0 (pkT_one h1 (pkT_one h2 (pkT_one h3 (pkT_nil)))))) (ev_27 pk)
theorem ev_28 (pk : Int → Int → Int) : run (pkT [(0, 5, 3), (1, 2, 0), (2, 2, 0), (3, 2, 0), (4, 2, 0), (5, 2, 0)] pk) = true := by kernel_rfl
theorem ev_29 (pk : Int → Int → Int) : run (pkT [(0, 5, 3), (1, 2, 0), (2, 2, 0), (3, 2, 0), (4, 2, 0), (5, 2, 1)] pk) = true := by kernel_rfl
theorem ev_30 (pk : Int → Int → Int) : run (pkT [(0, 5, 3), (1, 2, 0), (2, 2, 0), (3, 2, 0), (4, 2, 1), (5, 2, 0)] pk) = true := by kernel_rfl
theorem ev_31 (pk : Int → Int → Int) : run (pkT [(0, 5, 3), (1, 2, 0), (2, 2, 0), (3, 2, 0), (4, 2, 1), (5, 2, 1)] pk) = true := by kernel_rfl
theorem ev_32 (pk : Int → Int → Int) : run (pkT [(0, 5, 3), (1, 2, 0), (2, 2, 0), (3, 2, 1), (4, 2, 0), (5, 2, 0)] pk) = true := by kernel_rfl
theorem ev_33 (pk : Int → Int → Int) : run (pkT [(0, 5, 3), (1, 2, 0), (2, 2, 0), (3, 2, 1), (4, 2, 0), (5, 2, 1)] pk) = true := by kernel_rfl
theorem ev_34 (pk : Int → Int → Int) : run (pkT [(0, 5, 3), (1, 2, 0), (2, 2, 0), (3, 2, 1), (4, 2, 1), (5, 2, 0)] pk) = true := by kernel_rfl
theorem ev_35 (pk : Int → Int → Int) : run (pkT [(0, 5, 3), (1, 2, 0), (2, 2, 0), (3, 2, 1), (4, 2, 1), (5, 2, 1)] pk) = true := by kernel_rfl
theorem ev_36 (pk : Int → Int → Int) : run (pkT [(0, 5, 3), (1, 2, 0), (2, 2, 1), (3, 2, 0), (4, 2, 0), (5, 2, 0)] pk) = true := by kernel_rfl
theorem ev_37 (pk : Int → Int → Int) : run (pkT [(0, 5, 3), (1, 2, 0), (2, 2, 1), (3, 2, 0), (4, 2, 0), (5, 2, 1)] pk) = true := by kernel_rfl
theorem ev_38 (pk : Int → Int → Int) : run (pkT [(0, 5, 3), (1, 2, 0), (2, 2, 1), (3, 2, 0), (4, 2, 1), (5, 2, 0)] pk) = true := by kernel_rfl
theorem ev_39 (pk : Int → Int → Int) : run (pkT [(0, 5, 3), (1, 2, 0), (2, 2, 1), (3, 2, 0), (4, 2, 1), (5, 2, 1)] pk) = true := by kernel_rfl
theorem ev_40 (pk : Int → Int → Int) : run (pkT [(0, 5, 3), (1, 2, 0), (2, 2, 1), (3, 2, 1), (4, 2, 0), (5, 2, 0)] pk) = true := by kernel_rfl
theorem ev_41 (pk : Int → Int → Int) : run (pkT [(0, 5, 3), (1, 2, 0), (2, 2, 1), (3, 2, 1), (4, 2, 0), (5, 2, 1)] pk) = true := by kernel_rfl
theorem ev_42 (pk : Int → Int → Int) : run (pkT [(0, 5, 3), (1, 2, 0), (2, 2, 1), (3, 2, 1), (4, 2, 1), (5, 2, 0)] pk) = true := by kernel_rfl
theorem ev_43 (pk : Int → Int → Int) : run (pkT [(0, 5, 3), (1, 2, 0), (2, 2, 1), (3, 2, 1), (4, 2, 1), (5, 2, 1)] pk) = true := by kernel_rfl
theorem ev_44 (pk : Int → Int → Int) : run (pkT [(0, 5, 3), (1, 2, 1), (2, 2, 0), (3, 2, 0), (4, 2, 0), (5, 2, 0)] pk) = true := by kernel_rfl
theorem ev_45 (pk : Int → Int → Int) : run (pkT [(0, 5, 3), (1, 2, 1), (2, 2, 0), (3, 2, 0), (4, 2, 0), (5, 2, 1)] pk) = true := by kernel_rfl
theorem ev_46 (pk : Int → Int → Int) : run (pkT [(0, 5, 3), (1, 2, 1), (2, 2, 0), (3, 2, 0), (4, 2, 1), (5, 2, 0)] pk) = true := by kernel_rfl
theorem ev_47 (pk : Int → Int → Int) : run (pkT [(0, 5, 3), (1, 2, 1), (2, 2, 0), (3, 2, 0), (4, 2, 1), (5, 2, 1)] pk) = true := by kernel_rfl
theorem ev_48 (pk : Int → Int → Int) : run (pkT [(0, 5, 3), (1, 2, 1), (2, 2, 0), (3, 2, 1), (4, 2, 0), (5, 2, 0)] pk) = true := by kernel_rfl
theorem ev_49 (pk : Int → Int → Int) : run (pkT [(0, 5, 3), (1, 2, 1), (2, 2, 0), (3, 2, 1), (4, 2, 0), (5, 2, 1)] pk) = true := by kernel_rfl
theorem ev_50 (pk : Int → Int → Int) : run (pkT [(0, 5, 3), (1, 2, 1), (2, 2, 0), (3, 2, 1), (4, 2, 1), (5, 2, 0)] pk) = true := by kernel_rfl
theorem ev_51 (pk : Int → Int → Int) : run (pkT [(0, 5, 3), (1, 2, 1), (2, 2, 0), (3, 2, 1), (4, 2, 1), (5, 2, 1)] pk) = true := by kernel_rfl
theorem ev_52 (pk : Int → Int → Int) : run (pkT [(0, 5, 3), (1, 2, 1), (2, 2, 1), (3, 2, 0), (4, 2, 0), (5, 2, 0)] pk) = true := by kernel_rfl
theorem ev_53 (pk : Int → Int → Int) : run (pkT [(0, 5, 3), (1, 2, 1), (2, 2, 1), (3, 2, 0), (4, 2, 0), (5, 2, 1)] pk) = true := by kernel_rfl
theorem ev_54 (pk : Int → Int → Int) : run (pkT [(0, 5, 3), (1, 2, 1), (2, 2, 1), (3, 2, 0), (4, 2, 1), (5, 2, 0)] pk) = true := by kernel_rfl
theorem ev_55 (pk : Int → Int → Int) : run (pkT [(0, 5, 3), (1, 2, 1), (2, 2, 1), (3, 2, 0), (4, 2, 1), (5, 2, 1)] pk) = true := by kernel_rfl
theorem ev_56 (pk : Int → Int → Int) : run (pkT [(0, 5, 3), (1, 2, 1), (2, 2, 1), (3, 2, 1), (4, 2, 0), (5, 2, 0)] pk) = true := by kernel_rfl
theorem ev_57 (pk : Int → Int → Int) : run (pkT [(0, 5, 3), (1, 2, 1), (2, 2, 1), (3, 2, 1), (4, 2, 0), (5, 2, 1)] pk) = true := by kernel_rfl
theorem ev_58 (pk : Int → Int → Int) : run (pkT [(0, 5, 3), (1, 2, 1), (2, 2, 1), (3, 2, 1), (4, 2, 1), (5, 2, 0)] pk) = true := by kernel_rfl
theorem ev_59 (pk : Int → Int → Int) : run (pkT [(0, 5, 3), (1, 2, 1), (2, 2, 1), (3, 2, 1), (4, 2, 1), (5, 2, 1)] pk) = true := by kernel_rfl
theorem ga_3 (pk : Int → Int → Int) (h : pk (Int.ofNat 0) (Int.ofNat 5) = Int.ofNat 3) (v0 v1 v2 v3 v4 : Nat) (l0 : v0 < 2) (l1 : v1 < 2) (l2 : v2 < 2) (l3 : v3 < 2) (l4 : v4 < 2) (h0 : pk (Int.ofNat 1) (Int.ofNat 2) = Int.ofNat v0) (h1 : pk (Int.ofNat 2) (Int.ofNat 2) = Int.ofNat v1) (h2 : pk (Int.ofNat 3) (Int.ofNat 2) = Int.ofNat v2) (h3 : pk (Int.ofNat 4) (Int.ofNat 2) = Int.ofNat v3) (h4 : pk (Int.ofNat 5) (Int.ofNat 2) = Int.ofNat v4) : run pk = true := by
  match v0, l0, h0 with
  | 0, _, h0 =>
    match v1, l1, h1 with
    | 0, _, h1 =>
      match v2, l2, h2 with
      | 0, _, h2 =>
        match v3, l3, h3 with
        | 0, _, h3 =>
          match v4, l4, h4 with
          | 0, _, h4 =>
            exact run_of (pkT_one h (pkT_one h0 (pkT_one h1 (pkT_one h2 (pkT_one h3 (pkT_one h4 (pkT_nil))))))) (ev_28 pk)
          | 1, _, h4 =>
            exact run_of (pkT_one h (pkT_one h0 (pkT_one h1 (pkT_one h2 (pkT_one h3 (pkT_one h4 (pkT_nil))))))) (ev_29 pk)
        | 1, _, h3 =>
          match v4, l4, h4 with
          | 0, _, h4 =>
            exact run_of (pkT_one h (pkT_one h0 (pkT_one h1 (pkT_one h2 (pkT_one h3 (pkT_one h4 (pkT_nil))))))) (ev_30 pk)
          | 1, _, h4 =>
            exact run_of (pkT_one h (pkT_one h0 (pkT_one h1 (pkT_one h2 (pkT_one h3 (pkT_one h4 (pkT_nil))))))) (ev_31 pk)
      | 1, _, h2 =>
        match v3, l3, h3 with
        | 0, _, h3 =>
          match v4, l4, h4 with
          | 0, _, h4 =>
            exact run_of (pkT_one h (pkT_one h0 (pkT_one h1 (pkT_one h2 (pkT_one h3 (pkT_one h4 (pkT_nil))))))) (ev_32 pk)
          | 1, _, h4 =>
            exact run_of (pkT_one h (pkT_one h0 (pkT_one h1 (pkT_one h2 (pkT_one h3 (pkT_one h4 (pkT_nil))))))) (ev_33 pk)
        | 1, _, h3 =>
          match v4, l4, h4 with
          | 0, _, h4 =>
            exact run_of (pkT_one h (pkT_one h0 (pkT_one h1 (pkT_one h2 (pkT_one h3 (pkT_one h4 (pkT_nil))))))) (ev_34 pk)
          | 1, _, h4 =>
            exact run_of (pkT_one h (pkT_one h0 (pkT_one h1 (pkT_one h2 (pkT_one h3 (pkT_one h4 (pkT_nil))))))) (ev_35 pk)
    | 1, _, h1 =>
      match v2, l2, h2 with
      | 0, _, h2 =>
        match v3, l3, h3 with
        | 0, _, h3 =>
          match v4, l4, h4 with
          | 0, _, h4 =>
            exact run_of (pkT_one h (pkT_one h0 (pkT_one h1 (pkT_one h2 (pkT_one h3 (pkT_one h4 (pkT_nil))))))) (ev_36 pk)
          | 1, _, h4 =>
            exact run_of (pkT_one h (pkT_one h0 (pkT_one h1 (pkT_one h2 (pkT_one h3 (pkT_one h4 (pkT_nil))))))) (ev_37 pk)
        | 1, _, h3 =>
          match v4, l4, h4 with
          | 0, _, h4 =>
            exact run_of (pkT_one h (pkT_one h0 (pkT_one h1 (pkT_one h2 (pkT_one h3 (pkT_one h4 (pkT_nil))))))) (ev_38 pk)
          | 1, _, h4 =>
            exact run_of (pkT_one h (pkT_one h0 (pkT_one h1 (pkT_one h2 (pkT_one h3 (pkT_one h4 (pkT_nil))))))) (ev_39 pk)
      | 1, _, h2 =>
        match v3, l3, h3 with
        | 0, _, h3 =>
          match v4, l4, h4 with
          | 0, _, h4 =>
            exact run_of (pkT_one h (pkT_one h0 (pkT_one h1 (pkT_one h2 (pkT_one h3 (pkT_one h4 (pkT_nil))))))) (ev_40 pk)
          | 1, _, h4 =>
            exact run_of (pkT_one h (pkT_one h0 (pkT_one h1 (pkT_one h2 (pkT_one h3 (pkT_one h4 (pkT_nil))))))) (ev_41 pk)
        | 1, _, h3 =>
          match v4, l4, h4 with
          | 0, _, h4 =>
            exact run_of (pkT_one h (pkT_one h0 (pkT_one h1 (pkT_one h2 (pkT_one h3 (pkT_one h4 (pkT_nil))))))) (ev_42 pk)
          | 1, _, h4 =>
            exact run_of (pkT_one h (pkT_one h0 (pkT_one h1 (pkT_one h2 (pkT_one h3 (pkT_one h4 (pkT_nil))))))) (ev_43 pk)
  | 1, _, h0 =>
    match v1, l1, h1 with
    | 0, _, h1 =>
      match v2, l2, h2 with
      | 0, _, h2 =>
        match v3, l3, h3 with
        | 0, _, h3 =>
          match v4, l4, h4 with
          | 0, _, h4 =>
            exact run_of (pkT_one h (pkT_one h0 (pkT_one h1 (pkT_one h2 (pkT_one h3 (pkT_one h4 (pkT_nil))))))) (ev_44 pk)
          | 1, _, h4 =>
            exact run_of (pkT_one h (pkT_one h0 (pkT_one h1 (pkT_one h2 (pkT_one h3 (pkT_one h4 (pkT_nil))))))) (ev_45 pk)
        | 1, _, h3 =>
          match v4, l4, h4 with
          | 0, _, h4 =>
            exact run_of (pkT_one h (pkT_one h0 (pkT_one h1 (pkT_one h2 (pkT_one h3 (pkT_one h4 (pkT_nil))))))) (ev_46 pk)
          | 1, _, h4 =>
            exact run_of (pkT_one h (pkT_one h0 (pkT_one h1 (pkT_one h2 (pkT_one h3 (pkT_one h4 (pkT_nil))))))) (ev_47 pk)
      | 1, _, h2 =>
        match v3, l3, h3 with
        | 0, _, h3 =>
          match v4, l4, h4 with
          | 0, _, h4 =>
            exact run_of (pkT_one h (pkT_one h0 (pkT_one h1 (pkT_one h2 (pkT_one h3 (pkT_one h4 (pkT_nil))))))) (ev_48 pk)
          | 1, _, h4 =>
            exact run_of (pkT_one h (pkT_one h0 (pkT_one h1 (pkT_one h2 (pkT_one h3 (pkT_one h4 (pkT_nil))))))) (ev_49 pk)
        | 1, _, h3 =>
          match v4, l4, h4 with
          | 0, _, h4 =>
            exact run_of (pkT_one h (pkT_one h0 (pkT_one h1 (pkT_one h2 (pkT_one h3 (pkT_one h4 (pkT_nil))))))) (ev_50 pk)
          | 1, _, h4 =>
            exact run_of (pkT_one h (pkT_one h0 (pkT_one h1 (pkT_one h2 (pkT_one h3 (pkT_one h4 (pkT_nil))))))) (ev_51 pk)
    | 1, _, h1 =>
      match v2, l2, h2 with
      | 0, _, h2 =>
        match v3, l3, h3 with
        | 0, _, h3 =>
          match v4, l4, h4 with
          | 0, _, h4 =>
            exact run_of (pkT_one h (pkT_one h0 (pkT_one h1 (pkT_one h2 (pkT_one h3 (pkT_one h4 (pkT_nil))))))) (ev_52 pk)
          | 1, _, h4 =>
            exact run_of (pkT_one h (pkT_one h0 (pkT_one h1 (pkT_one h2 (pkT_one h3 (pkT_one h4 (pkT_nil))))))) (ev_53 pk)
        | 1, _, h3 =>
          match v4, l4, h4 with
          | 0, _, h4 =>
            exact run_of (pkT_one h (pkT_one h0 (pkT_one h1 (pkT_one h2 (pkT_one h3 (pkT_one h4 (pkT_nil))))))) (ev_54 pk)
          | 1, _, h4 =>
            exact run_of (pkT_one h (pkT_one h0 (pkT_one h1 (pkT_one h2 (pkT_one h3 (pkT_one h4 (pkT_nil))))))) (ev_55 pk)
      | 1, _, h2 =>
        match v3, l3, h3 with
        | 0, _, h3 =>
          match v4, l4, h4 with
          | 0, _, h4 =>
            exact run_of (pkT_one h (pkT_one h0 (pkT_one h1 (pkT_one h2 (pkT_one h3 (pkT_one h4 (pkT_nil))))))) (ev_56 pk)
          | 1, _, h4 =>
            exact run_of (pkT_one h (pkT_one h0 (pkT_one h1 (pkT_one h2 (pkT_one h3 (pkT_one h4 (pkT_nil))))))) (ev_57 pk)
        | 1, _, h3 =>
          match v4, l4, h4 with
          | 0, _, h4 =>
            exact run_of (pkT_one h (pkT_one h0 (pkT_one h1 (pkT_one h2 (pkT_one h3 (pkT_one h4 (pkT_nil))))))) (ev_58 pk)
          | 1, _, h4 =>
            exact run_of (pkT_one h (pkT_one h0 (pkT_one h1 (pkT_one h2 (pkT_one h3 (pkT_one h4 (pkT_nil))))))) (ev_59 pk)
theorem ev_60 (pk : Int → Int → Int) : run (pkT [(0, 5, 4), (1, 2, 0), (2, 2, 0), (3, 2, 0), (4, 2, 0), (5, 2, 0), (6, 2, 0)] pk) = true := by kernel_rfl
theorem ev_61 (pk : Int → Int → Int) : run (pkT [(0, 5, 4), (1, 2, 0), (2, 2, 0), (3, 2, 0), (4, 2, 0), (5, 2, 0), (6, 2, 1)] pk) = true := by kernel_rfl
theorem ev_62 (pk : Int → Int → Int) : run (pkT [(0, 5, 4), (1, 2, 0), (2, 2, 0), (3, 2, 0), (4, 2, 0), (5, 2, 1), (6, 2, 0)] pk) = true := by kernel_rfl
theorem ev_63 (pk : Int → Int → Int) : run (pkT [(0, 5, 4), (1, 2, 0), (2, 2, 0), (3, 2, 0), (4, 2, 0), (5, 2, 1), (6, 2, 1)] pk) = true := by kernel_rfl
theorem ev_64 (pk : Int → Int → Int) : run (pkT [(0, 5, 4), (1, 2, 0), (2, 2, 0), (3, 2, 0), (4, 2, 1), (5, 2, 0), (6, 2, 0)] pk) = true := by kernel_rfl
theorem ev_65 (pk : Int → Int → Int) : run (pkT [(0, 5, 4), (1, 2, 0), (2, 2, 0), (3, 2, 0), (4, 2, 1), (5, 2, 0), (6, 2, 1)] pk) = true := by kernel_rfl
theorem ev_66 (pk : Int → Int → Int) : run (pkT [(0, 5, 4), (1, 2, 0), (2, 2, 0), (3, 2, 0), (4, 2, 1), (5, 2, 1), (6, 2, 0)] pk) = true := by kernel_rfl
theorem ev_67 (pk : Int → Int → Int) : run (pkT [(0, 5, 4), (1, 2, 0), (2, 2, 0), (3, 2, 0), (4, 2, 1), (5, 2, 1), (6, 2, 1)] pk) = true := by kernel_rfl
theorem ev_68 (pk : Int → Int → Int) : run (pkT [(0, 5, 4), (1, 2, 0), (2, 2, 0), (3, 2, 1), (4, 2, 0), (5, 2, 0), (6, 2, 0)] pk) = true := by kernel_rfl
theorem ev_69 (pk : Int → Int → Int) : run (pkT [(0, 5, 4), (1, 2, 0), (2, 2, 0), (3, 2, 1), (4, 2, 0), (5, 2, 0), (6, 2, 1)] pk) = true := by kernel_rfl
theorem ev_70 (pk : Int → Int → Int) : run (pkT [(0, 5, 4), (1, 2, 0), (2, 2, 0), (3, 2, 1), (4, 2, 0), (5, 2, 1), (6, 2, 0)] pk) = true := by kernel_rfl
theorem ev_71 (pk : Int → Int → Int) : run (pkT [(0, 5, 4), (1, 2, 0), (2, 2, 0), (3, 2, 1), (4, 2, 0), (5, 2, 1), (6, 2, 1)] pk) = true := by kernel_rfl
theorem ev_72 (pk : Int → Int → Int) : run (pkT [(0, 5, 4), (1, 2, 0), (2, 2, 0), (3, 2, 1), (4, 2, 1), (5, 2, 0), (6, 2, 0)] pk) = true := by kernel_rfl
theorem ev_73 (pk : Int → Int → Int) : run (pkT [(0, 5, 4), (1, 2, 0), (2, 2, 0), (3, 2, 1), (4, 2, 1), (5, 2, 0), (6, 2, 1)] pk) = true := by kernel_rfl
theorem ev_74 (pk : Int → Int → Int) : run (pkT [(0, 5, 4), (1, 2, 0), (2, 2, 0), (3, 2, 1), (4, 2, 1), (5, 2, 1), (6, 2, 0)] pk) = true := by kernel_rfl
theorem ev_75 (pk : Int → Int → Int) : run (pkT [(0, 5, 4), (1, 2, 0), (2, 2, 0), (3, 2, 1), (4, 2, 1), (5, 2, 1), (6, 2, 1)] pk) = true := by kernel_rfl
theorem ev_76 (pk : Int → Int → Int) : run (pkT [(0, 5, 4), (1, 2, 0), (2, 2, 1), (3, 2, 0), (4, 2, 0), (5, 2, 0), (6, 2, 0)] pk) = true := by kernel_rfl
theorem ev_77 (pk : Int → Int → Int) : run (pkT [(0, 5, 4), (1, 2, 0), (2, 2, 1), (3, 2, 0), (4, 2, 0), (5, 2, 0), (6, 2, 1)] pk) = true := by kernel_rfl
theorem ev_78 (pk : Int → Int → Int) : run (pkT [(0, 5, 4), (1, 2, 0), (2, 2, 1), (3, 2, 0), (4, 2, 0), (5, 2, 1), (6, 2, 0)] pk) = true := by kernel_rfl
theorem ev_79 (pk : Int → Int → Int) : run (pkT [(0, 5, 4), (1, 2, 0), (2, 2, 1), (3, 2, 0), (4, 2, 0), (5, 2, 1), (6, 2, 1)] pk) = true := by kernel_rfl
theorem ev_80 (pk : Int → Int → Int) : run (pkT [(0, 5, 4), (1, 2, 0), (2, 2, 1), (3, 2, 0), (4, 2, 1), (5, 2, 0), (6, 2, 0)] pk) = true := by kernel_rfl
theorem ev_81 (pk : Int → Int → Int) : run (pkT [(0, 5, 4), (1, 2, 0), (2, 2, 1), (3, 2, 0), (4, 2, 1), (5, 2, 0), (6, 2, 1)] pk) = true := by kernel_rfl
theorem ev_82 (pk : Int → Int → Int) : run (pkT [(0, 5, 4), (1, 2, 0), (2, 2, 1), (3, 2, 0), (4, 2, 1), (5, 2, 1), (6, 2, 0)] pk) = true := by kernel_rfl
theorem ev_83 (pk : Int → Int → Int) : run (pkT [(0, 5, 4), (1, 2, 0), (2, 2, 1), (3, 2, 0), (4, 2, 1), (5, 2, 1), (6, 2, 1)] pk) = true := by kernel_rfl
theorem ev_84 (pk : Int → Int → Int) : run (pkT [(0, 5, 4), (1, 2, 0), (2, 2, 1), (3, 2, 1), (4, 2, 0), (5, 2, 0), (6, 2, 0)] pk) = true := by kernel_rfl
theorem ev_85 (pk : Int → Int → Int) : run (pkT [(0, 5, 4), (1, 2, 0), (2, 2, 1), (3, 2, 1), (4, 2, 0), (5, 2, 0), (6, 2, 1)] pk) = true := by kernel_rfl
theorem ev_86 (pk : Int → Int → Int) : run (pkT [(0, 5, 4), (1, 2, 0), (2, 2, 1), (3, 2, 1), (4, 2, 0), (5, 2, 1), (6, 2, 0)] pk) = true := by kernel_rfl
theorem ev_87 (pk : Int → Int → Int) : run (pkT [(0, 5, 4), (1, 2, 0), (2, 2, 1), (3, 2, 1), (4, 2, 0), (5, 2, 1), (6, 2, 1)] pk) = true := by kernel_rfl
theorem ev_88 (pk : Int → Int → Int) : run (pkT [(0, 5, 4), (1, 2, 0), (2, 2, 1), (3, 2, 1), (4, 2, 1), (5, 2, 0), (6, 2, 0)] pk) = true := by kernel_rfl
theorem ev_89 (pk : Int → Int → Int) : run (pkT [(0, 5, 4), (1, 2, 0), (2, 2, 1), (3, 2, 1), (4, 2, 1), (5, 2, 0), (6, 2, 1)] pk) = true := by kernel_rfl
theorem ev_90 (pk : Int → Int → Int) : run (pkT [(0, 5, 4), (1, 2, 0), (2, 2, 1), (3, 2, 1), (4, 2, 1), (5, 2, 1), (6, 2, 0)] pk) = true := by kernel_rfl
theorem ev_91 (pk : Int → Int → Int) : run (pkT [(0, 5, 4), (1, 2, 0), (2, 2, 1), (3, 2, 1), (4, 2, 1), (5, 2, 1), (6, 2, 1)] pk) = true := by kernel_rfl
theorem ev_92 (pk : Int → Int → Int) : run (pkT [(0, 5, 4), (1, 2, 1), (2, 2, 0), (3, 2, 0), (4, 2, 0), (5, 2, 0), (6, 2, 0)] pk) = true := by kernel_rfl
theorem ev_93 (pk : Int → Int → Int) : run (pkT [(0, 5, 4), (1, 2, 1), (2, 2, 0), (3, 2, 0), (4, 2, 0), (5, 2, 0), (6, 2, 1)] pk) = true := by kernel_rfl
theorem ev_94 (pk : Int → Int → Int) : run (pkT [(0, 5, 4), (1, 2, 1), (2, 2, 0), (3, 2, 0), (4, 2, 0), (5, 2, 1), (6, 2, 0)] pk) = true := by kernel_rfl
theorem ev_95 (pk : Int → Int → Int) : run (pkT [(0, 5, 4), (1, 2, 1), (2, 2, 0), (3, 2, 0), (4, 2, 0), (5, 2, 1), (6, 2, 1)] pk) = true := by kernel_rfl
theorem ev_96 (pk : Int → Int → Int) : run (pkT [(0, 5, 4), (1, 2, 1), (2, 2, 0), (3, 2, 0), (4, 2, 1), (5, 2, 0), (6, 2, 0)] pk) = true := by kernel_rfl
theorem ev_97 (pk : Int → Int → Int) : run (pkT [(0, 5, 4), (1, 2, 1), (2, 2, 0), (3, 2, 0), (4, 2, 1), (5, 2, 0), (6, 2, 1)] pk) = true := by kernel_rfl
theorem ev_98 (pk : Int → Int → Int) : run (pkT [(0, 5, 4), (1, 2, 1), (2, 2, 0), (3, 2, 0), (4, 2, 1), (5, 2, 1), (6, 2, 0)] pk) = true := by kernel_rfl
theorem ev_99 (pk : Int → Int → Int) : run (pkT [(0, 5, 4), (1, 2, 1), (2, 2, 0), (3, 2, 0), (4, 2, 1), (5, 2, 1), (6, 2, 1)] pk) = true := by kernel_rfl
theorem ev_100 (pk : Int → Int → Int) : run (pkT [(0, 5, 4), (1, 2, 1), (2, 2, 0), (3, 2, 1), (4, 2, 0), (5, 2, 0), (6, 2, 0)] pk) = true := by kernel_rfl
theorem ev_101 (pk : Int → Int → Int) : run (pkT [(0, 5, 4), (1, 2, 1), (2, 2, 0), (3, 2, 1), (4, 2, 0), (5, 2, 0), (6, 2, 1)] pk) = true := by kernel_rfl
theorem ev_102 (pk : Int → Int → Int) : run (pkT [(0, 5, 4), (1, 2, 1), (2, 2, 0), (3, 2, 1), (4, 2, 0), (5, 2, 1), (6, 2, 0)] pk) = true := by kernel_rfl
theorem ev_103 (pk : Int → Int → Int) : run (pkT [(0, 5, 4), (1, 2, 1), (2, 2, 0), (3, 2, 1), (4, 2, 0), (5, 2, 1), (6, 2, 1)] pk) = true := by kernel_rfl
theorem ev_104 (pk : Int → Int → Int) : run (pkT [(0, 5, 4), (1, 2, 1), (2, 2, 0), (3, 2, 1), (4, 2, 1), (5, 2, 0), (6, 2, 0)] pk) = true := by kernel_rfl
theorem ev_105 (pk : Int → Int → Int) : run (pkT [(0, 5, 4), (1, 2, 1), (2, 2, 0), (3, 2, 1), (4, 2, 1), (5, 2, 0), (6, 2, 1)] pk) = true := by kernel_rfl
theorem ev_106 (pk : Int → Int → Int) : run (pkT [(0, 5, 4), (1, 2, 1), (2, 2, 0), (3, 2, 1), (4, 2, 1), (5, 2, 1), (6, 2, 0)] pk) = true := by kernel_rfl
theorem ev_107 (pk : Int → Int → Int) : run (pkT [(0, 5, 4), (1, 2, 1), (2, 2, 0), (3, 2, 1), (4, 2, 1), (5, 2, 1), (6, 2, 1)] pk) = true := by kernel_rfl
theorem ev_108 (pk : Int → Int → Int) : run (pkT [(0, 5, 4), (1, 2, 1), (2, 2, 1), (3, 2, 0), (4, 2, 0), (5, 2, 0), (6, 2, 0)] pk) = true := by kernel_rfl
theorem ev_109 (pk : Int → Int → Int) : run (pkT [(0, 5, 4), (1, 2, 1), (2, 2, 1), (3, 2, 0), (4, 2, 0), (5, 2, 0), (6, 2, 1)] pk) = true := by kernel_rfl
theorem ev_110 (pk : Int → Int → Int) : run (pkT [(0, 5, 4), (1, 2, 1), (2, 2, 1), (3, 2, 0), (4, 2, 0), (5, 2, 1), (6, 2, 0)] pk) = true := by kernel_rfl
theorem ev_111 (pk : Int → Int → Int) : run (pkT [(0, 5, 4), (1, 2, 1), (2, 2, 1), (3, 2, 0), (4, 2, 0), (5, 2, 1), (6, 2, 1)] pk) = true := by kernel_rfl
theorem ev_112 (pk : Int → Int → Int) : run (pkT [(0, 5, 4), (1, 2, 1), (2, 2, 1), (3, 2, 0), (4, 2, 1), (5, 2, 0), (6, 2, 0)] pk) = true := by kernel_rfl
theorem ev_113 (pk : Int → Int → Int) : run (pkT [(0, 5, 4), (1, 2, 1), (2, 2, 1), (3, 2, 0), (4, 2, 1), (5, 2, 0), (6, 2, 1)] pk) = true := by kernel_rfl
theorem ev_114 (pk : Int → Int → Int) : run (pkT [(0, 5, 4), (1, 2, 1), (2, 2, 1), (3, 2, 0), (4, 2, 1), (5, 2, 1), (6, 2, 0)] pk) = true := by kernel_rfl
theorem ev_115 (pk : Int → Int → Int) : run (pkT [(0, 5, 4), (1, 2, 1), (2, 2, 1), (3, 2, 0), (4, 2, 1), (5, 2, 1), (6, 2, 1)] pk) = true := by kernel_rfl
theorem ev_116 (pk : Int → Int → Int) : run (pkT [(0, 5, 4), (1, 2, 1), (2, 2, 1), (3, 2, 1), (4, 2, 0), (5, 2, 0), (6, 2, 0)] pk) = true := by kernel_rfl
theorem ev_117 (pk : Int → Int → Int) : run (pkT [(0, 5, 4), (1, 2, 1), (2, 2, 1), (3, 2, 1), (4, 2, 0), (5, 2, 0), (6, 2, 1)] pk) = true := by kernel_rfl
theorem ev_118 (pk : Int → Int → Int) : run (pkT [(0, 5, 4), (1, 2, 1), (2, 2, 1), (3, 2, 1), (4, 2, 0), (5, 2, 1), (6, 2, 0)] pk) = true := by kernel_rfl
theorem ev_119 (pk : Int → Int → Int) : run (pkT [(0, 5, 4), (1, 2, 1), (2, 2, 1), (3, 2, 1), (4, 2, 0), (5, 2, 1), (6, 2, 1)] pk) = true := by kernel_rfl
theorem ev_120 (pk : Int → Int → Int) : run (pkT [(0, 5, 4), (1, 2, 1), (2, 2, 1), (3, 2, 1), (4, 2, 1), (5, 2, 0), (6, 2, 0)] pk) = true := by kernel_rfl
theorem ev_121 (pk : Int → Int → Int) : run (pkT [(0, 5, 4), (1, 2, 1), (2, 2, 1), (3, 2, 1), (4, 2, 1), (5, 2, 0), (6, 2, 1)] pk) = true := by kernel_rfl
theorem ev_122 (pk : Int → Int → Int) : run (pkT [(0, 5, 4), (1, 2, 1), (2, 2, 1), (3, 2, 1), (4, 2, 1), (5, 2, 1), (6, 2, 0)] pk) = true := by kernel_rfl
theorem ev_123 (pk : Int → Int → Int) : run (pkT [(0, 5, 4), (1, 2, 1), (2, 2, 1), (3, 2, 1), (4, 2, 1), (5, 2, 1), (6, 2, 1)] pk) = true := by kernel_rfl
theorem ga_4 (pk : Int → Int → Int) (h : pk (Int.ofNat 0) (Int.ofNat 5) = Int.ofNat 4) (v0 v1 v2 v3 v4 v5 : Nat) (l0 : v0 < 2) (l1 : v1 < 2) (l2 : v2 < 2) (l3 : v3 < 2) (l4 : v4 < 2) (l5 : v5 < 2) (h0 : pk (Int.ofNat 1) (Int.ofNat 2) = Int.ofNat v0) (h1 : pk (Int.ofNat 2) (Int.ofNat 2) = Int.ofNat v1) (h2 : pk (Int.ofNat 3) (Int.ofNat 2) = Int.ofNat v2) (h3 : pk (Int.ofNat 4) (Int.ofNat 2) = Int.ofNat v3) (h4 : pk (Int.ofNat 5) (Int.ofNat 2) = Int.ofNat v4) (h5 : pk (Int.ofNat 6) (Int.ofNat 2) = Int.ofNat v5) : run pk = true := by
  match v0, l0, h0 with
  | 0, _, h0 =>
    match v1, l1, h1 with
    | 0, _, h1 =>
      match v2, l2, h2 with
      | 0, _, h2 =>
        match v3, l3, h3 with
        | 0, _, h3 =>
          match v4, l4, h4 with
          | 0, _, h4 =>
            match v5, l5, h5 with
            | 0, _, h5 =>
              exact run_of (pkT_one h (pkT_one h0 (pkT_one h1 (pkT_one h2 (pkT_one h3 (pkT_one h4 (pkT_one h5 (pkT_nil)))))))) (ev_60 pk)
            | 1, _, h5 =>
              exact run_of (pkT_one h (pkT_one h0 (pkT_one h1 (pkT_one h2 (pkT_one h3 (pkT_one h4 (pkT_one h5 (pkT_nil)))))))) (ev_61 pk)
          | 1, _, h4 =>
            match v5, l5, h5 with
            | 0, _, h5 =>
              exact run_of (pkT_one h (pkT_one h0 (pkT_one h1 (pkT_one h2 (pkT_one h3 (pkT_one h4 (pkT_one h5 (pkT_nil)))))))) (ev_62 pk)
            | 1, _, h5 =>
              exact run_of (pkT_one h (pkT_one h0 (pkT_one h1 (pkT_one h2 (pkT_one h3 (pkT_one h4 (pkT_one h5 (pkT_nil)))))))) (ev_63 pk)
        | 1, _, h3 =>
          match v4, l4, h4 with
          | 0, _, h4 =>
            match v5, l5, h5 with
            | 0, _, h5 =>
              exact run_of (pkT_one h (pkT_one h0 (pkT_one h1 (pkT_one h2 (pkT_one h3 (pkT_one h4 (pkT_one h5 (pkT_nil)))))))) (ev_64 pk)
            | 1, _, h5 =>
              exact run_of (pkT_one h (pkT_one h0 (pkT_one h1 (pkT_one h2 (pkT_one h3 (pkT_one h4 (pkT_one h5 (pkT_nil)))))))) (ev_65 pk)
          | 1, _, h4 =>
            match v5, l5, h5 with
            | 0, _, h5 =>
              exact run_of (pkT_one h (pkT_one h0 (pkT_one h1 (pkT_one h2 (pkT_one h3 (pkT_one h4 (pkT_one h5 (pkT_nil)))))))) (ev_66 pk)
            | 1, _, h5 =>
              exact run_of (pkT_one h (pkT_one h0 (pkT_one h1 (pkT_one h2 (pkT_one h3 (pkT_one h4 (pkT_one h5 (pkT_nil)))))))) (ev_67 pk)
      | 1, _, h2 =>
        match v3, l3, h3 with
        | 0, _, h3 =>
          match v4, l4, h4 with
          | 0, _, h4 =>
            match v5, l5, h5 with
            | 0, _, h5 =>
              exact run_of (pkT_one h (pkT_one h0 (pkT_one h1 (pkT_one h2 (pkT_one h3 (pkT_one h4 (pkT_one h5 (pkT_nil)))))))) (ev_68 pk)
            | 1, _, h5 =>
              exact run_of (pkT_one h (pkT_one h0 (pkT_one h1 (pkT_one h2 (pkT_one h3 (pkT_one h4 (pkT_one h5 (pkT_nil)))))))) (ev_69 pk)
          | 1, _, h4 =>
            match v5, l5, h5 with
            | 0, _, h5 =>
              exact run_of (pkT_one h (pkT_one h0 (pkT_one h1 (pkT_one h2 (pkT_one h3 (pkT_one h4 (pkT_one h5 (pkT_nil)))))))) (ev_70 pk)
            | 1, _, h5 =>
              exact run_of (pkT_one h (pkT_one h0 (pkT_one h1 (pkT_one h2 (pkT_one h3 (pkT_one h4 (pkT_one h5 (pkT_nil)))))))) (ev_71 pk)
        | 1, _, h3 =>
          match v4, l4, h4 with
          | 0, _, h4 =>
            match v5, l5, h5 with
            | 0, _, h5 =>
              exact run_of (pkT_one h (pkT_one h0 (pkT_one h1 (pkT_one h2 (pkT_one h3 (pkT_one h4 (pkT_one h5 (pkT_nil)))))))) (ev_72 pk)
            | 1, _, h5 =>
              exact run_of (pkT_one h (pkT_one h0 (pkT_one h1 (pkT_one h2 (pkT_one h3 (pkT_one h4 (pkT_one h5 (pkT_nil)))))))) (ev_73 pk)
          | 1, _, h4 =>
            match v5, l5, h5 with
            | 0, _, h5 =>
              exact run_of (pkT_one h (pkT_one h0 (pkT_one h1 (pkT_one h2 (pkT_one h3 (pkT_one h4 (pkT_one h5 (pkT_nil)))))))) (ev_74 pk)
            | 1, _, h5 =>
              exact run_of (pkT_one h (pkT_one h0 (pkT_one h1 (pkT_one h2 (pkT_one h3 (pkT_one h4 (pkT_one h5 (pkT_nil)))))))) (ev_75 pk)
    | 1, _, h1 =>
      match v2, l2, h2 with
      | 0, _, h2 =>
        match v3, l3, h3 with
        | 0, _, h3 =>
          match v4, l4, h4 with
          | 0, _, h4 =>
            match v5, l5, h5 with
            | 0, _, h5 =>
              exact run_of (pkT_one h (pkT_one h0 (pkT_one h1 (pkT_one h2 (pkT_one h3 (pkT_one h4 (pkT_one h5 (pkT_nil)))))))) (ev_76 pk)
            | 1, _, h5 =>
              exact run_of (pkT_one h (pkT_one h0 (pkT_one h1 (pkT_one h2 (pkT_one h3 (pkT_one h4 (pkT_one h5 (pkT_nil)))))))) (ev_77 pk)
          | 1, _, h4 =>
            match v5, l5, h5 with
            | 0, _, h5 =>
              exact run_of (pkT_one h (pkT_one h0 (pkT_one h1 (pkT_one h2 (pkT_one h3 (pkT_one h4 (pkT_one h5 (pkT_nil)))))))) (ev_78 pk)
            | 1, _, h5 =>
              exact run_of (pkT_one h (pkT_one h0 (pkT_one h1 (pkT_one h2 (pkT_one h3 (pkT_one h4 (pkT_one h5 (pkT_nil)))))))) (ev_79 pk)
        | 1, _, h3 =>
          match v4, l4, h4 with
          | 0, _, h4 =>
            match v5, l5, h5 with
            | 0, _, h5 =>
              exact run_of (pkT_one h (pkT_one h0 (pkT_one h1 (pkT_one h2 (pkT_one h3 (pkT_one h4 (pkT_one h5 (pkT_nil)))))))) (ev_80 pk)
            | 1, _, h5 =>
              exact run_of (pkT_one h (pkT_one h0 (pkT_one h1 (pkT_one h2 (pkT_one h3 (pkT_one h4 (pkT_one h5 (pkT_nil)))))))) (ev_81 pk)
          | 1, _, h4 =>
            match v5, l5, h5 with
            | 0, _, h5 =>
              exact run_of (pkT_one h (pkT_one h0 (pkT_one h1 (pkT_one h2 (pkT_one h3 (pkT_one h4 (pkT_one h5 (pkT_nil)))))))) (ev_82 pk)
            | 1, _, h5 =>
              exact run_of (pkT_one h (pkT_one h0 (pkT_one h1 (pkT_one h2 (pkT_one h3 (pkT_one h4 (pkT_one h5 (pkT_nil)))))))) (ev_83 pk)
      | 1, _, h2 =>
        match v3, l3, h3 with
        | 0, _, h3 =>
          match v4, l4, h4 with
          | 0, _, h4 =>
            match v5, l5, h5 with
            | 0, _, h5 =>
              exact run_of (pkT_one h (pkT_one h0 (pkT_one h1 (pkT_one h2 (pkT_one h3 (pkT_one h4 (pkT_one h5 (pkT_nil)))))))) (ev_84 pk)
            | 1, _, h5 =>
              exact run_of (pkT_one h (pkT_one h0 (pkT_one h1 (pkT_one h2 (pkT_one h3 (pkT_one h4 (pkT_one h5 (pkT_nil)))))))) (ev_85 pk)
          | 1, _, h4 =>
            match v5, l5, h5 with
            | 0, _, h5 =>
              exact run_of (pkT_one h (pkT_one h0 (pkT_one h1 (pkT_one h2 (pkT_one h3 (pkT_one h4 (pkT_one h5 (pkT_nil)))))))) (ev_86 pk)
            | 1, _, h5 =>
              exact run_of (pkT_one h (pkT_one h0 (pkT_one h1 (pkT_one h2 (pkT_one h3 (pkT_one h4 (pkT_one h5 (pkT_nil)))))))) (ev_87 pk)
        | 1, _, h3 =>
          match v4, l4, h4 with
          | 0, _, h4 =>
            match v5, l5, h5 with
            | 0, _, h5 =>
              exact run_of (pkT_one h (pkT_one h0 (pkT_one h1 (pkT_one h2 (pkT_one h3 (pkT_one h4 (pkT_one h5 (pkT_nil)))))))) (ev_88 pk)
            | 1, _, h5 =>
              exact run_of (pkT_one h (pkT_one h0 (pkT_one h1 (pkT_one h2 (pkT_one h3 (pkT_one h4 (pkT_one h5 (pkT_nil)))))))) (ev_89 pk)
          | 1, _, h4 =>
            match v5, l5, h5 with
            | 0, _, h5 =>
              exact run_of (pkT_one h (pkT_one h0 (pkT_one h1 (pkT_one h2 (pkT_one h3 (pkT_one h4 (pkT_one h5 (pkT_nil)))))))) (ev_90 pk)
            | 1, _, h5 =>
              exact run_of (pkT_one h (pkT_one h0 (pkT_one h1 (pkT_one h2 (pkT_one h3 (pkT_one h4 (pkT_one h5 (pkT_nil)))))))) (ev_91 pk)
  | 1, _, h0 =>
    match v1, l1, h1 with
    | 0, _, h1 =>
      match v2, l2, h2 with
      | 0, _, h2 =>
        match v3, l3, h3 with
        | 0, _, h3 =>
          match v4, l4, h4 with
          | 0, _, h4 =>
            match v5, l5, h5 with
            | 0, _, h5 =>
              exact run_of (pkT_one h (pkT_one h0 (pkT_one h1 (pkT_one h2 (pkT_one h3 (pkT_one h4 (pkT_one h5 (pkT_nil)))))))) (ev_92 pk)
            | 1, _, h5 =>
              exact run_of (pkT_one h (pkT_one h0 (pkT_one h1 (pkT_one h2 (pkT_one h3 (pkT_one h4 (pkT_one h5 (pkT_nil)))))))) (ev_93 pk)
          | 1, _, h4 =>
            match v5, l5, h5 with
            | 0, _, h5 =>
              exact run_of (pkT_one h (pkT_one h0 (pkT_one h1 (pkT_one h2 (pkT_one h3 (pkT_one h4 (pkT_one h5 (pkT_nil)))))))) (ev_94 pk)
            | 1, _, h5 =>
              exact run_of (pkT_one h (pkT_one h0 (pkT_one h1 (pkT_one h2 (pkT_one h3 (pkT_one h4 (pkT_one h5 (pkT_nil)))))))) (ev_95 pk)
        | 1, _, h3 =>
          match v4, l4, h4 with
          | 0, _, h4 =>
            match v5, l5, h5 with
            | 0, _, h5 =>
              exact run_of (pkT_one h (pkT_one h0 (pkT_one h1 (pkT_one h2 (pkT_one h3 (pkT_one h4 (pkT_one h5 (pkT_nil)))))))) (ev_96 pk)
            | 1, _, h5 =>
              exact run_of (pkT_one h (pkT_one h0 (pkT_one h1 (pkT_one h2 (pkT_one h3 (pkT_one h4 (pkT_one h5 (pkT_nil)))))))) (ev_97 pk)
          | 1, _, h4 =>
            match v5, l5, h5 with
            | 0, _, h5 =>
              exact run_of (pkT_one h (pkT_one h0 (pkT_one h1 (pkT_one h2 (pkT_one h3 (pkT_one h4 (pkT_one h5 (pkT_nil)))))))) (ev_98 pk)
            | 1, _, h5 =>
              exact run_of (pkT_one h (pkT_one h0 (pkT_one h1 (pkT_one h2 (pkT_one h3 (pkT_one h4 (pkT_one h5 (pkT_nil)))))))) (ev_99 pk)
      | 1, _, h2 =>
        match v3, l3, h3 with
        | 0, _, h3 =>
          match v4, l4, h4 with
          | 0, _, h4 =>
            match v5, l5, h5 with
            | 0, _, h5 =>
              exact run_of (pkT_one h (pkT_one h0 (pkT_one h1 (pkT_one h2 (pkT_one h3 (pkT_one h4 (pkT_one h5 (pkT_nil)))))))) (ev_100 pk)
            | 1, _, h5 =>
              exact run_of (pkT_one h (pkT_one h0 (pkT_one h1 (pkT_one h2 (pkT_one h3 (pkT_one h4 (pkT_one h5 (pkT_nil)))))))) (ev_101 pk)
          | 1, _, h4 =>
            match v5, l5, h5 with
            | 0, _, h5 =>
              exact run_of (pkT_one h (pkT_one h0 (pkT_one h1 (pkT_one h2 (pkT_one h3 (pkT_one h4 (pkT_one h5 (pkT_nil)))))))) (ev_102 pk)
            | 1, _, h5 =>
              exact run_of (pkT_one h (pkT_one h0 (pkT_one h1 (pkT_one h2 (pkT_one h3 (pkT_one h4 (pkT_one h5 (pkT_nil)))))))) (ev_103 pk)
        | 1, _, h3 =>
          match v4, l4, h4 with
          | 0, _, h4 =>
            match v5, l5, h5 with
            | 0, _, h5 =>
              exact run_of (pkT_one h (pkT_one h0 (pkT_one h1 (pkT_one h2 (pkT_one h3 (pkT_one h4 (pkT_one h5 (pkT_nil)))))))) (ev_104 pk)
            | 1, _, h5 =>
              exact run_of (pkT_one h (pkT_one h0 (pkT_one h1 (pkT_one h2 (pkT_one h3 (pkT_one h4 (pkT_one h5 (pkT_nil)))))))) (ev_105 pk)
          | 1, _, h4 =>
            match v5, l5, h5 with
            | 0, _, h5 =>
              exact run_of (pkT_one h (pkT_one h0 (pkT_one h1 (pkT_one h2 (pkT_one h3 (pkT_one h4 (pkT_one h5 (pkT_nil)))))))) (ev_106 pk)
            | 1, _, h5 =>
              exact run_of (pkT_one h (pkT_one h0 (pkT_one h1 (pkT_one h2 (pkT_one h3 (pkT_one h4 (pkT_one h5 (pkT_nil)))))))) (ev_107 pk)
    | 1, _, h1 =>
      match v2, l2, h2 with
      | 0, _, h2 =>
        match v3, l3, h3 with
        | 0, _, h3 =>
          match v4, l4, h4 with
          | 0, _, h4 =>
            match v5, l5, h5 with
            | 0, _, h5 =>
              exact run_of (pkT_one h (pkT_one h0 (pkT_one h1 (pkT_one h2 (pkT_one h3 (pkT_one h4 (pkT_one h5 (pkT_nil)))))))) (ev_108 pk)
            | 1, _, h5 =>
              exact run_of (pkT_one h (pkT_one h0 (pkT_one h1 (pkT_one h2 (pkT_one h3 (pkT_one h4 (pkT_one h5 (pkT_nil)))))))) (ev_109 pk)
          | 1, _, h4 =>
            match v5, l5, h5 with
            | 0, _, h5 =>
              exact run_of (pkT_one h (pkT_one h0 (pkT_one h1 (pkT_one h2 (pkT_one h3 (pkT_one h4 (pkT_one h5 (pkT_nil)))))))) (ev_110 pk)
            | 1, _, h5 =>
              exact run_of (pkT_one h (pkT_one h0 (pkT_one h1 (pkT_one h2 (pkT_one h3 (pkT_one h4 (pkT_one h5 (pkT_nil)))))))) (ev_111 pk)
        | 1, _, h3 =>
          match v4, l4, h4 with
          | 0, _, h4 =>
            match v5, l5, h5 with
            | 0, _, h5 =>
              exact run_of (pkT_one h (pkT_one h0 (pkT_one h1 (pkT_one h2 (pkT_one h3 (pkT_one h4 (pkT_one h5 (pkT_nil)))))))) (ev_112 pk)
            | 1, _, h5 =>
              exact run_of (pkT_one h (pkT_one h0 (pkT_one h1 (pkT_one h2 (pkT_one h3 (pkT_one h4 (pkT_one h5 (pkT_nil)))))))) (ev_113 pk)
          | 1, _, h4 =>
            match v5, l5, h5 with
            | 0, _, h5 =>
              exact run_of (pkT_one h (pkT_one h0 (pkT_one h1 (pkT_one h2 (pkT_one h3 (pkT_one h4 (pkT_one h5 (pkT_nil)))))))) (ev_114 pk)
            | 1, _, h5 =>
              exact run_of (pkT_one h (pkT_one h0 (pkT_one h1 (pkT_one h2 (pkT_one h3 (pkT_one h4 (pkT_one h5 (pkT_nil)))))))) (ev_115 pk)
      | 1, _, h2 =>
        match v3, l3, h3 with
        | 0, _, h3 =>
          match v4, l4, h4 with
          | 0, _, h4 =>
            match v5, l5, h5 with
            | 0, _, h5 =>
              exact run_of (pkT_one h (pkT_one h0 (pkT_one h1 (pkT_one h2 (pkT_one h3 (pkT_one h4 (pkT_one h5 (pkT_nil)))))))) (ev_116 pk)
            | 1, _, h5 =>
              exact run_of (pkT_one h (pkT_one h0 (pkT_one h1 (pkT_one h2 (pkT_one h3 (pkT_one h4 (pkT_one h5 (pkT_nil)))))))) (ev_117 pk)
          | 1, _, h4 =>
            match v5, l5, h5 with
            | 0, _, h5 =>
              exact run_of (pkT_one h (pkT_one h0 (pkT_one h1 (pkT_one h2 (pkT_one h3 (pkT_one h4 (pkT_one h5 (pkT_nil)))))))) (ev_118 pk)
            | 1, _, h5 =>
              exact run_of (pkT_one h (pkT_one h0 (pkT_one h1 (pkT_one h2 (pkT_one h3 (pkT_one h4 (pkT_one h5 (pkT_nil)))))))) (ev_119 pk)
        | 1, _, h3 =>
          match v4, l4, h4 with
          | 0, _, h4 =>
            match v5, l5, h5 with
            | 0, _, h5 =>
              exact run_of (pkT_one h (pkT_one h0 (pkT_one h1 (pkT_one h2 (pkT_one h3 (pkT_one h4 (pkT_one h5 (pkT_nil)))))))) (ev_120 pk)
            | 1, _, h5 =>
              exact run_of (pkT_one h (pkT_one h0 (pkT_one h1 (pkT_one h2 (pkT_one h3 (pkT_one h4 (pkT_one h5 (pkT_nil)))))))) (ev_121 pk)
          | 1, _, h4 =>
            match v5, l5, h5 with
            | 0, _, h5 =>
              exact run_of (pkT_one h (pkT_one h0 (pkT_one h1 (pkT_one h2 (pkT_one h3 (pkT_one h4 (pkT_one h5 (pkT_nil)))))))) (ev_122 pk)
            | 1, _, h5 =>
              exact run_of (pkT_one h (pkT_one h0 (pkT_one h1 (pkT_one h2 (pkT_one h3 (pkT_one h4 (pkT_one h5 (pkT_nil)))))))) (ev_123 pk)
theorem all_good (pk : Int → Int → Int) (hp : ∀ k m, 0 < m → 0 ≤ pk k m ∧ pk k m < m) : run pk = true := by
  obtain ⟨a, ha, h⟩ := nat_below hp 0 5 (by decide)
  obtain ⟨v0, l0, h0⟩ := nat_below hp 1 2 (by decide)
  obtain ⟨v1, l1, h1⟩ := nat_below hp 2 2 (by decide)
  obtain ⟨v2, l2, h2⟩ := nat_below hp 3 2 (by decide)
  obtain ⟨v3, l3, h3⟩ := nat_below hp 4 2 (by decide)
  obtain ⟨v4, l4, h4⟩ := nat_below hp 5 2 (by decide)
  obtain ⟨v5, l5, h5⟩ := nat_below hp 6 2 (by decide)
  match a, ha, h with
  | 0, _, h => exact ga_0 pk h v0 v1 l0 l1 h0 h1
  | 1, _, h => exact ga_1 pk h v0 v1 v2 l0 l1 l2 h0 h1 h2
  | 2, _, h => exact ga_2 pk h v0 v1 v2 v3 l0 l1 l2 l3 h0 h1 h2 h3
  | 3, _, h => exact ga_3 pk h v0 v1 v2 v3 v4 l0 l1 l2 l3 l4 h0 h1 h2 h3 h4
  | 4, _, h => exact ga_4 pk h v0 v1 v2 v3 v4 v5 l0 l1 l2 l3 l4 l5 h0 h1 h2 h3 h4 h5
section
theorem law_at {P : Program} {w : World} {K : PySem.W.Frag} {mg : Str → Option Value} {base : Heap} (X : K.In base) (G : base.Ns mainGlobals mg) (c : SaysP fa_ fn_ ts_ ex_ w K) (ht : ∀ scr ns, TauOk (Gv K scr ns) 0) :
    FnOk P w K mg base (L2.CX P w) (LVL + 1) (He.fAd K ("law", none)) (fdAt K (He.fAd K ("law", none))) ["_law_script"] (fun vs H Q E => ∃ (scr : Addr) (ns : List Int), ns.length ≤ 63 ∧ spM (Gv K scr ns) 1 (lev (pkF ns) LVL).1.f_law vs H Q E) := by
  have key : ∀ (scr : Addr) (ns : List Int), ns.length ≤ 63 → FnOk P w K mg base (L2.CX P w) (LVL + 1) (He.fAd K ("law", none)) (fdAt K (He.fAd K ("law", none))) ["_law_script"] (spM (Gv K scr ns) 1 (lev (pkF ns) LVL).1.f_law) := fun scr ns hl => by
    have T : TX K mg w scr ns := tx_of X G c (ht scr ns)
    exact (lev_ok T (hc_of T (by omega)) LVL).1.f_law
  refine ⟨fun vs H Q E ⟨scr, ns, hl, h⟩ => (key scr ns hl).len vs H Q E h, fun A outer s H args us vs Q E hr he hb hv ⟨scr, ns, hl, h⟩ => (key scr ns hl).run A outer s H args us vs Q E hr he hb hv h⟩
end
end LW
open PySem PySem.W PySem.Calls PyProof.Rows
theorem PySem.Challenge.cw_pyheap_k65_whole_broken_up_holds : PySem.Challenge.rw_pyheap_k65_whole_broken_up.Holds := by
  w_on; o_law
  refine HandSHeadRun.head_any (r := LW.RR) (q := LW.qv) (H := LW.hk) (ob := LW.ob) (M := 14000) (loose := LW.names_) (d := HandSHeadRun.topDef LW.RR.prog LW.lawIx) (kwd := []) LW.ob_eq
    (by kernel_rfl) (fun s => by kernel_rfl) LW.run_ (by kernel_rfl) (by kernel_rfl) (by kernel_rfl) (by rfl) (by first | assumption | decide +kernel) (by decide +kernel) ⟨rfl, rfl, rfl, rfl, rfl, by decide +kernel⟩ ?hw ?hc
  case hw => w_witness2
  case hc =>
    refine PM.walk_w (l := PySem.Challenge.rw_pyheap_k65_whole_broken_up) (n := 63) (k := LW.LVL + 1) (x := "_law_script") rfl (by decide) (by kernel_rfl) ⟨rfl, by decide, by decide⟩ ?F
    intro w mg fa h Y G hmg0
    obtain ⟨K, KX, c⟩ := Y
    have hmg : mg ("law" : PySem.Str) = some (.ref fa) := by
      have e : (HandSHeadRun.topDef LW.RR.prog LW.lawIx).name = ("law" : PySem.Str) := by kernel_rfl
      rw [← e]
      exact hmg0
    have e := hmg.symm.trans (He.glo_ok KX G (c.t.d.fact LW.lawFact rfl))
    cases e
    have ht : ∀ scr ns, PM.TauOk (LW.Gv K scr ns) 0 := fun _ _ _ i hi => absurd hi (Nat.not_lt_zero _)
    have T0 : LW.TX K mg w 0 [] := LW.tx_of KX G c (ht 0 [])
    refine ⟨K, PM.fdAt K (He.fAd K ("law", none)), _, KX, fun s u => L2.FunD.bindsA (ps := ["_law_script"]) T0.d_law (fun _ _ _ _ _ _ us hl => match us, hl with | [_], _ => rfl) s [u] rfl, fun H a ns hl hO hS => ?_, fun base KB GB => LW.law_at KB GB c ht⟩
    refine ⟨a, ns, hl, fun _ => default, LW.raA K, LW.M0, [.opq], LW.rl0 c.more hO hS, rfl, fun v hv => (by rw [List.mem_singleton.mp hv]; trivial), rfl, ?_⟩
    have ev := LW.all_good (PM.pkF ns) (fun k m hm => PM.pkF_ok ns k hm)
    unfold LW.run LW.good at ev
    split at ev
    · rename_i M' eq
      rw [eq]
      exact fun _ _ _ _ _ => rfl
    · cases ev
end
