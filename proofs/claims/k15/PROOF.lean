import PyProof.Rows.All
import Wide.All
import OpenK.AllK
import Wide.FinOn
import HandS.ForMost
import HandS.Flow
import HandS.Wide
import HandS.WideBits
import HandS.TupAny
import HandS.Property
import HandS.FStr
import HandS.IsInst
import HandS.Star
import HandS.NoneIn
import HandS.Defaults
import HandS.RaiseMore
import HandS.Style
import HandS.Text
import HandS.Deep
import HandS.WordsDict
import HandS.SortInts
import HandS.ListItems
import KE.GoesMore
import KE.DataMinMax
import HandS.HeadEnd
import HandS.HeadHook1
import HandS.HeadHook2
import HandS.HeadNt
import KE.KStateDown
import HandS.Head0
import HandS.Head1
import HandS.Head2
import HandS.HeadWalk
import PySem.Challenge.RW_likevalues_k15_whole_walks_step_by_step
set_option Elab.async false
set_option linter.all false
set_option maxRecDepth 100000
set_option maxHeartbeats 2000000
namespace DL
open PySem PySem.Spec PyProof.Rows L2

abbrev Tx := List Nat
def okT (x : Tx) : Prop := ∀ c ∈ x, c < 1114112
def st (x : Tx) : Str := ⟨x.toArray⟩
/-- a key of a dict -/
inductive DK where
  | i (n : Int) | s (x : Tx)
  deriving DecidableEq
/-- plain data; lst, dic, obj are never written any more; rol: a list that is read alone; ref: what is tracked -/
inductive D where
  | non | bl (b : Bool) | int (i : Int) | str (x : Tx)
  | tup (xs : List D) | lst (xs : List D) | dic (kvs : List (DK × D)) | obj (c : Nat) (fs : List (Nat × D))
  | rol (xs : List D) | ref (a : Addr)
/-- what an expression gives: a value, or an object that nobody else holds yet -/
inductive EV where
  | v (d : D) | nl (xs : List D) | nd (kvs : List (DK × D)) | no (c : Nat) (fs : List (Nat × D))
def EV.d : EV → D
  | .v d => d | .nl xs => .lst xs | .nd k => .dic k | .no c f => .obj c f
/-- a tracked object -/
inductive DO where
  | lst (xs : List D) | dic (kvs : List (DK × D)) | ins (c : Nat) (fs : List (Nat × D))
abbrev Hd := Addr → Option DO
def put (h : Hd) (a : Addr) (o : DO) : Hd := fun b => if b = a then some o else h b
def del (h : Hd) (a : Addr) : Hd := fun b => if b = a then none else h b
theorem put_same {h : Hd} {a : Addr} {o : DO} : put h a o a = some o := by unfold put; rw [if_pos rfl]
theorem put_ne {h : Hd} {a b : Addr} {o : DO} (n : b ≠ a) : put h a o b = h b := by unfold put; rw [if_neg n]
theorem put_put {h : Hd} {a : Addr} {o u : DO} : put (put h a o) a u = put h a u := by funext b; unfold put; split <;> rfl
def Sub (h h' : Hd) : Prop := ∀ a o, h a = some o → h' a = some o
theorem Sub.refl (h : Hd) : Sub h h := fun _ _ e => e
theorem Sub.trans {h h1 h2 : Hd} (a : Sub h h1) (b : Sub h1 h2) : Sub h h2 := fun _ _ e => b _ _ (a _ _ e)
theorem Sub.put {h h1 : Hd} {p : Addr} {o : DO} (s : Sub h h1) (n : h p = none) : Sub h (put h1 p o) := fun a u e => by
  have : a ≠ p := fun z => by rw [z, n] at e; cases e
  rw [put_ne this]; exact s _ _ e

/-- what isinstance asks for -/
inductive TyT where
  | non | bl | int | str | tup | lst | dic | cls (c : Nat)
  deriving DecidableEq
/-- the names of fields by number, the classes' addresses by number; na: class c has no attribute f; kc: isinstance's answers -/
structure Tb where
  K : PySem.W.Frag
  sym : Nat → Str
  ca : Nat → Addr
  na : Nat → Nat → Bool
  kc : TyT → TyT → Option Bool
def dkV : DK → V
  | .i n => .int n
  | .s x => .str (st x)
def dkK : DK → Key
  | .i n => .inl n
  | .s x => .inr (st x)
def dkD : DK → D
  | .i n => .int n
  | .s x => .str x
def okK : DK → Prop
  | .i _ => True
  | .s x => x.length ≤ 16777216 ∧ okT x
/-- a list that is read alone: the script -/
def SqO (K : PySem.W.Frag) (H : Hp) (a : Addr) (vs : List V) : Prop := (∃ o, H a = some (.frz o (.lst vs))) ∨ ∃ (o : Obj) (its : Array Value) (n : Nat), K.lookup a = some o ∧ o.cls = .type "list" ∧ o.dict = none ∧ o.data = .seq its n ∧ its.size ≤ sizeLine ∧ Vals vs its.toList
theorem SqO.l {K : PySem.W.Frag} {H : Hp} {a : Addr} {vs : List V} (h : SqO K H a vs) : SqL K H a vs := by
  rcases h with ⟨o, h⟩ | h
  · exact .inl (.inr ⟨o, h⟩)
  · exact .inr h
abbrev Fz := Addr → Prop
section
variable (T : Tb) (F : Fz) (H : Hp)
mutual
def rep : D → V → Prop
  | .non, v => v = .non
  | .bl b, v => v = .bl b
  | .int i, v => v = .int i
  | .str x, v => v = .str (st x) ∧ x.length ≤ 16777216 ∧ okT x
  | .tup xs, v => ∃ a vs, v = .ref a ∧ SqT T.K H a vs ∧ repL xs vs
  | .lst xs, v => ∃ a vs, v = .ref a ∧ F a ∧ H a = some (.lst vs) ∧ repL xs vs
  | .rol xs, v => ∃ a vs, v = .ref a ∧ SqO T.K H a vs ∧ repL xs vs
  | .dic kvs, v => ∃ a gs, v = .ref a ∧ F a ∧ H a = some (.dK gs) ∧ repK kvs gs
  | .obj c fs, v => ∃ a dx gs, v = .ref a ∧ F a ∧ H a = some (.ins (T.ca c) dx gs) ∧ repF fs gs
  | .ref a, v => v = .ref a
def repL : List D → List V → Prop
  | [], vs => vs = []
  | d :: ds, vs => ∃ v r, vs = v :: r ∧ rep d v ∧ repL ds r
def repK : List (DK × D) → List (Key × V) → Prop
  | [], vs => vs = []
  | (k, d) :: ds, vs => ∃ v r, vs = (dkK k, v) :: r ∧ rep d v ∧ okK k ∧ repK ds r
def repF : List (Nat × D) → List (Str × V) → Prop
  | [], vs => vs = []
  | (k, d) :: ds, vs => ∃ v r, vs = (T.sym k, v) :: r ∧ rep d v ∧ repF ds r
end
end
/-- the world behind data: what is tracked, what stands still, the layer's heap -/
structure Sw where
  hd : Hd
  fz : Fz
  hp : Hp
def notTbl (o : HO) : Prop := ∀ ps, o ≠ .tbl ps
/-- from one moment to a later one -/
structure Stp (S S' : Sw) : Prop where
  fz : ∀ a, S.fz a → S'.fz a
  uu : ∀ a o, S.hp a = some o → S.hd a = none → ∃ o', S'.hp a = some o' ∧ (notTbl o → o' = o) ∧ (notTbl o' → notTbl o) ∧ S'.hd a = none ∧ (S'.fz a → S.fz a)
theorem Stp.un {S S' : Sw} (s : Stp S S') (a : Addr) (o : HO) (h : S.hp a = some o) (n : S.hd a = none) (t : notTbl o) : S'.hp a = some o ∧ S'.hd a = none ∧ (S'.fz a → S.fz a) := by
  obtain ⟨o', h1, e, _, n1, f1⟩ := s.uu a o h n
  rw [e t] at h1
  exact ⟨h1, n1, f1⟩
theorem Stp.refl (S : Sw) : Stp S S := ⟨fun _ h => h, fun _ _ h n => ⟨_, h, fun _ => rfl, fun z => z, n, fun z => z⟩⟩
theorem Stp.trans {S S1 S2 : Sw} (a : Stp S S1) (b : Stp S1 S2) : Stp S S2 :=
  ⟨fun x h => b.fz x (a.fz x h), fun x o h n => by
    obtain ⟨o1, h1, e1, t1, n1, f1⟩ := a.uu x o h n
    obtain ⟨o2, h2, e2, t2, n2, f2⟩ := b.uu x o1 h1 n1
    exact ⟨o2, h2, fun z => by have q := e1 z; subst q; exact e2 z, fun z => t1 (t2 z), n2, fun z => f1 (f2 z)⟩⟩
section
variable (T : Tb)
def repO (S : Sw) (a : Addr) : DO → Prop
  | .lst xs => ∃ vs, S.hp a = some (.lst vs) ∧ repL T S.fz S.hp xs vs
  | .dic kvs => ∃ gs, S.hp a = some (.dK gs) ∧ repK T S.fz S.hp kvs gs
  | .ins c fs => ∃ dx gs, S.hp a = some (.ins (T.ca c) dx gs) ∧ repF T S.fz S.hp fs gs
structure Rh (S : Sw) : Prop where
  at_ : ∀ a o, S.hd a = some o → repO T S a o ∧ ¬ S.fz a
  fzs : ∀ a, S.fz a → S.hd a = none ∧ ∃ o, S.hp a = some o ∧ notTbl o
/-- the slots -/
structure Rs (S : Sw) (ds : List (Option D)) (σ : L2.St) : Prop where
  len : ds.length = σ.length
  at_ : ∀ (i : Nat) (d : D), ds[i]? = some (some d) → ∃ v, σ[i]? = some (some v) ∧ rep T S.fz S.hp d v
end
theorem repO.hp {T : Tb} {S : Sw} {a : Addr} {o : DO} (h : repO T S a o) : ∃ u, S.hp a = some u ∧ (∀ xs, u ≠ .tup xs) ∧ (∀ o' u', u ≠ .frz o' u') := by
  cases o with
  | lst xs => obtain ⟨vs, e, _⟩ := h; exact ⟨_, e, (by intro _ z; cases z), (by intro _ _ z; cases z)⟩
  | dic k => obtain ⟨vs, e, _⟩ := h; exact ⟨_, e, (by intro _ z; cases z), (by intro _ _ z; cases z)⟩
  | ins c fs => obtain ⟨_, vs, e, _⟩ := h; exact ⟨_, e, (by intro _ z; cases z), (by intro _ _ z; cases z)⟩
section
variable {T : Tb} {S S' : Sw}
theorem Rh.tup (R : Rh T S) {a : Addr} {xs : List V} (h : S.hp a = some (.tup xs)) : S.hd a = none := by
  cases e : S.hd a with
  | none => rfl
  | some o =>
    obtain ⟨u, eu, n, _⟩ := (R.at_ a o e).1.hp
    rw [h] at eu; cases eu; exact (n xs rfl).elim
theorem Rh.frz (R : Rh T S) {a : Addr} {o : Obj} {u : HO} (h : S.hp a = some (.frz o u)) : S.hd a = none := by
  cases e : S.hd a with
  | none => rfl
  | some q =>
    obtain ⟨u', eu, _, n⟩ := (R.at_ a q e).1.hp
    rw [h] at eu; cases eu; exact (n _ _ rfl).elim
theorem Stp.sqT (R : Rh T S) (s : Stp S S') {a : Addr} {xs : List V} (h : SqT T.K S.hp a xs) : SqT T.K S'.hp a xs := by
  rcases h with (h | ⟨o, h⟩) | h
  · exact .inl (.inl (s.un a _ h (R.tup h) (by intro _ z; cases z)).1)
  · exact .inl (.inr ⟨o, (s.un a _ h (R.frz h) (by intro _ z; cases z)).1⟩)
  · exact .inr h
theorem Stp.sqO (R : Rh T S) (s : Stp S S') {a : Addr} {xs : List V} (h : SqO T.K S.hp a xs) : SqO T.K S'.hp a xs := by
  rcases h with ⟨o, h⟩ | h
  · exact .inl ⟨o, (s.un a _ h (R.frz h) (by intro _ z; cases z)).1⟩
  · exact .inr h
mutual
theorem rep.stp (R : Rh T S) (s : Stp S S') : ∀ {d : D} {v : V}, rep T S.fz S.hp d v → rep T S'.fz S'.hp d v
  | .non, _, h => h
  | .bl _, _, h => h
  | .int _, _, h => h
  | .str _, _, h => h
  | .ref _, _, h => h
  | .tup xs, v, h => by
    unfold rep at h ⊢
    obtain ⟨a, vs, e, q, r⟩ := h
    exact ⟨a, vs, e, s.sqT R q, repL.stp R s r⟩
  | .lst xs, v, h => by
    unfold rep at h ⊢
    obtain ⟨a, vs, e, f, q, r⟩ := h
    exact ⟨a, vs, e, s.fz a f, (s.un a _ q (R.fzs a f).1 (by intro _ z; cases z)).1, repL.stp R s r⟩
  | .rol xs, v, h => by
    unfold rep at h ⊢
    obtain ⟨a, vs, e, q, r⟩ := h
    exact ⟨a, vs, e, s.sqO R q, repL.stp R s r⟩
  | .dic kvs, v, h => by
    unfold rep at h ⊢
    obtain ⟨a, vs, e, f, q, r⟩ := h
    exact ⟨a, vs, e, s.fz a f, (s.un a _ q (R.fzs a f).1 (by intro _ z; cases z)).1, repK.stp R s r⟩
  | .obj c fs, v, h => by
    unfold rep at h ⊢
    obtain ⟨a, dx, vs, e, f, q, r⟩ := h
    exact ⟨a, dx, vs, e, s.fz a f, (s.un a _ q (R.fzs a f).1 (by intro _ z; cases z)).1, repF.stp R s r⟩
theorem repL.stp (R : Rh T S) (s : Stp S S') : ∀ {d : List D} {v : List V}, repL T S.fz S.hp d v → repL T S'.fz S'.hp d v
  | [], _, h => by unfold repL at h ⊢; exact h
  | d :: ds, _, h => by
    unfold repL at h ⊢
    obtain ⟨v, r, e, h1, h2⟩ := h
    exact ⟨v, r, e, rep.stp R s h1, repL.stp R s h2⟩
theorem repK.stp (R : Rh T S) (s : Stp S S') : ∀ {d : List (DK × D)} {v : List (Key × V)}, repK T S.fz S.hp d v → repK T S'.fz S'.hp d v
  | [], _, h => by unfold repK at h ⊢; exact h
  | (k, d) :: ds, _, h => by
    unfold repK at h ⊢
    obtain ⟨v, r, e, h1, ho, h2⟩ := h
    exact ⟨v, r, e, rep.stp R s h1, ho, repK.stp R s h2⟩
theorem repF.stp (R : Rh T S) (s : Stp S S') : ∀ {d : List (Nat × D)} {v : List (Str × V)}, repF T S.fz S.hp d v → repF T S'.fz S'.hp d v
  | [], _, h => by unfold repF at h ⊢; exact h
  | (k, d) :: ds, _, h => by
    unfold repF at h ⊢
    obtain ⟨v, r, e, h1, h2⟩ := h
    exact ⟨v, r, e, rep.stp R s h1, repF.stp R s h2⟩
end
theorem repO.stp (R : Rh T S) (s : Stp S S') {a : Addr} {o : DO} (e : S'.hp a = S.hp a) (h : repO T S a o) : repO T S' a o := by
  cases o with
  | lst xs => obtain ⟨vs, q, r⟩ := h; exact ⟨vs, e.trans q, r.stp R s⟩
  | dic k => obtain ⟨vs, q, r⟩ := h; exact ⟨vs, e.trans q, r.stp R s⟩
  | ins c fs => obtain ⟨dx, vs, q, r⟩ := h; exact ⟨dx, vs, e.trans q, r.stp R s⟩
theorem Rs.stp (R : Rh T S) (s : Stp S S') {ds : List (Option D)} {σ : L2.St} (r : Rs T S ds σ) : Rs T S' ds σ :=
  ⟨r.len, fun i d e => let ⟨v, h1, h2⟩ := r.at_ i d e; ⟨v, h1, h2.stp R s⟩⟩
/-- an object that nobody else holds: it came to be behind S, or was tracked there -/
def Fresh (S S' : Sw) (a : Addr) : Prop := S'.hd a = none ∧ ¬ S'.fz a ∧ (S.hp a = none ∨ S.hd a ≠ none)
theorem Fresh.keep {S0 : Sw} {a : Addr} {o : HO} (f : Fresh S0 S a) (h : S.hp a = some o) (nt : notTbl o) (s : Stp S S') : Fresh S0 S' a := by
  obtain ⟨f1, f2, f3⟩ := f
  obtain ⟨q1, q2, q3⟩ := s.un a o h f1 nt
  exact ⟨q2, fun z => f2 (q3 z), f3⟩
theorem Fresh.back {S0 : Sw} {a : Addr} (s0 : Stp S0 S) (f : Fresh S S' a) : Fresh S0 S' a := by
  obtain ⟨f1, f2, f3⟩ := f
  refine ⟨f1, f2, ?_⟩
  cases e : S0.hp a with
  | none => exact .inl rfl
  | some u =>
    by_cases hn : S0.hd a = none
    · obtain ⟨o1, q1, _, _, q2, _⟩ := s0.uu a u e hn
      rcases f3 with z | z
      · rw [q1] at z; cases z
      · exact absurd q2 z
    · exact .inr hn
end

/-! ### lifting -/
section
variable (T : Tb)
/-- what an expression gave stands for v -/
def repE (S S' : Sw) : EV → V → Prop
  | .v d, v => rep T S'.fz S'.hp d v
  | .nl xs, v => ∃ a vs, v = .ref a ∧ S'.hp a = some (.lst vs) ∧ repL T S'.fz S'.hp xs vs ∧ Fresh S S' a
  | .nd k, v => ∃ a vs, v = .ref a ∧ S'.hp a = some (.dK vs) ∧ repK T S'.fz S'.hp k vs ∧ Fresh S S' a
  | .no c k, v => ∃ a dx vs, v = .ref a ∧ S'.hp a = some (.ins (T.ca c) dx vs) ∧ repF T S'.fz S'.hp k vs ∧ Fresh S S' a
/-- where one stands: the world behind the slots ds -/
structure At (S0 S : Sw) (ds : List (Option D)) (σ : L2.St) : Prop where
  stp : Stp S0 S
  rh : Rh T S
  rs : Rs T S ds σ
end
abbrev Slt := List (Option D)
abbrev DTE := Slt → Hd → (EV → Hd → Prop) → Prop
abbrev DTD := Slt → Hd → (D → Hd → Prop) → Prop
abbrev DTL := Slt → Hd → (List D → Hd → Prop) → Prop
abbrev DTT := Slt → Hd → (Bool → Hd → Prop) → Prop
section
variable (T : Tb) (S0 : Sw)
def lE (t : DTE) : TE := fun σ H Q => ∃ S ds, S.hp = H ∧ At T S0 S ds σ ∧ ∃ Qd, t ds S.hd Qd ∧ ∀ ev S' v, Stp S S' → Rh T S' → repE T S S' ev v → Qd ev S'.hd → Q v S'.hp
def lD (t : DTD) : TE := fun σ H Q => ∃ S ds, S.hp = H ∧ At T S0 S ds σ ∧ ∃ Qd, t ds S.hd Qd ∧ ∀ d S' v, Stp S S' → Rh T S' → rep T S'.fz S'.hp d v → Qd d S'.hd → Q v S'.hp
def lL (t : DTL) : TA := fun σ H Q => ∃ S ds, S.hp = H ∧ At T S0 S ds σ ∧ ∃ Qd, t ds S.hd Qd ∧ ∀ d S' v, Stp S S' → Rh T S' → repL T S'.fz S'.hp d v → Qd d S'.hd → Q v S'.hp
def lT (t : DTT) : TT := fun σ H Q => ∃ S ds, S.hp = H ∧ At T S0 S ds σ ∧ ∃ Qd, t ds S.hd Qd ∧ ∀ b S', Stp S S' → Rh T S' → Qd b S'.hd → Q b S'.hp
end
def frz (t : DTE) : DTD := fun ds hd Q => t ds hd fun ev hd' => Q ev.d hd'
section
variable {T : Tb} {S0 S S' : Sw}
theorem At.then_ {ds : Slt} {σ : L2.St} (a : At T S0 S ds σ) (s : Stp S S') (r : Rh T S') : At T S0 S' ds σ := ⟨a.stp.trans s, r, a.rs.stp a.rh s⟩
theorem repE.back {S1 : Sw} (s : Stp S S1) {ev : EV} {v : V} (h : repE T S1 S' ev v) : repE T S S' ev v := by
  cases ev with
  | v d => exact h
  | nl xs => obtain ⟨a, vs, e, q, r, f⟩ := h; exact ⟨a, vs, e, q, r, f.back s⟩
  | nd xs => obtain ⟨a, vs, e, q, r, f⟩ := h; exact ⟨a, vs, e, q, r, f.back s⟩
  | no c xs => obtain ⟨a, dx, vs, e, q, r, f⟩ := h; exact ⟨a, dx, vs, e, q, r, f.back s⟩
/-- a fresh object stands still from now on -/
def Sw.frz (S : Sw) (a : Addr) : Sw := { S with fz := fun b => S.fz b ∨ b = a }
theorem Stp.frz {a : Addr} (s : Stp S S') (f : Fresh S S' a) : Stp S (S'.frz a) :=
  ⟨fun b h => .inl (s.fz b h), fun b o h n => by
    obtain ⟨o', h1, e1, t1, n1, f1⟩ := s.uu b o h n
    refine ⟨o', h1, e1, t1, n1, fun z => ?_⟩
    rcases z with z | z
    · exact f1 z
    · subst z
      rcases f.2.2 with q | q
      · rw [q] at h; cases h
      · exact absurd n q⟩
mutual
theorem rep.fz {F F' : Fz} {H : Hp} (k : ∀ a, F a → F' a) : ∀ {d : D} {v : V}, rep T F H d v → rep T F' H d v
  | .non, _, h => h
  | .bl _, _, h => h
  | .int _, _, h => h
  | .str _, _, h => h
  | .ref _, _, h => h
  | .tup xs, v, h => by
    unfold rep at h ⊢
    obtain ⟨a, vs, e, q, r⟩ := h
    exact ⟨a, vs, e, q, repL.fz k r⟩
  | .lst xs, v, h => by
    unfold rep at h ⊢
    obtain ⟨a, vs, e, f, q, r⟩ := h
    exact ⟨a, vs, e, k a f, q, repL.fz k r⟩
  | .rol xs, v, h => by
    unfold rep at h ⊢
    obtain ⟨a, vs, e, q, r⟩ := h
    exact ⟨a, vs, e, q, repL.fz k r⟩
  | .dic kvs, v, h => by
    unfold rep at h ⊢
    obtain ⟨a, vs, e, f, q, r⟩ := h
    exact ⟨a, vs, e, k a f, q, repK.fz k r⟩
  | .obj c fs, v, h => by
    unfold rep at h ⊢
    obtain ⟨a, dx, vs, e, f, q, r⟩ := h
    exact ⟨a, dx, vs, e, k a f, q, repF.fz k r⟩
theorem repL.fz {F F' : Fz} {H : Hp} (k : ∀ a, F a → F' a) : ∀ {d : List D} {v : List V}, repL T F H d v → repL T F' H d v
  | [], _, h => by unfold repL at h ⊢; exact h
  | d :: ds, _, h => by
    unfold repL at h ⊢
    obtain ⟨v, r, e, h1, h2⟩ := h
    exact ⟨v, r, e, rep.fz k h1, repL.fz k h2⟩
theorem repK.fz {F F' : Fz} {H : Hp} (k : ∀ a, F a → F' a) : ∀ {d : List (DK × D)} {v : List (Key × V)}, repK T F H d v → repK T F' H d v
  | [], _, h => by unfold repK at h ⊢; exact h
  | (q, d) :: ds, _, h => by
    unfold repK at h ⊢
    obtain ⟨v, r, e, h1, ho, h2⟩ := h
    exact ⟨v, r, e, rep.fz k h1, ho, repK.fz k h2⟩
theorem repF.fz {F F' : Fz} {H : Hp} (k : ∀ a, F a → F' a) : ∀ {d : List (Nat × D)} {v : List (Str × V)}, repF T F H d v → repF T F' H d v
  | [], _, h => by unfold repF at h ⊢; exact h
  | (q, d) :: ds, _, h => by
    unfold repF at h ⊢
    obtain ⟨v, r, e, h1, h2⟩ := h
    exact ⟨v, r, e, rep.fz k h1, repF.fz k h2⟩
end
theorem repO.fz {F' : Fz} (k : ∀ a, S.fz a → F' a) {a : Addr} {o : DO} (h : repO T S a o) : repO T { S with fz := F' } a o := by
  cases o with
  | lst xs => obtain ⟨vs, q, r⟩ := h; exact ⟨vs, q, r.fz k⟩
  | dic xs => obtain ⟨vs, q, r⟩ := h; exact ⟨vs, q, r.fz k⟩
  | ins c fs => obtain ⟨dx, vs, q, r⟩ := h; exact ⟨dx, vs, q, r.fz k⟩
theorem Rh.frz_ {a : Addr} {o : HO} (r : Rh T S') (f : Fresh S S' a) (h : S'.hp a = some o) (nt : notTbl o) : Rh T (S'.frz a) := by
  refine ⟨fun b u e => ?_, fun b z => ?_⟩
  · obtain ⟨q, nf⟩ := r.at_ b u e
    refine ⟨q.fz (F' := fun b => S'.fz b ∨ b = a) fun _ => .inl, fun z => ?_⟩
    rcases z with z | z
    · exact nf z
    · subst z
      have e' : S'.hd b = some u := e
      rw [f.1] at e'
      cases e'
  · rcases z with z | z
    · exact r.fzs b z
    · subst z
      exact ⟨f.1, o, h, nt⟩
theorem pe_imp {X : Cx} {e : Expr} {t t' : TE} (h : PE X e t) (k : ∀ σ H Q, t' σ H Q → t σ H Q) : PE X e t' := ⟨fun p s σ H Q I q => h.run p s σ H Q I (k σ H Q q)⟩
theorem pe_or' {X : Cx} {e : Expr} {t t' : TE} (h : PE X e t) (h' : PE X e t') : PE X e (fun σ H Q => t σ H Q ∨ t' σ H Q) := ⟨fun p s σ H Q I q => q.elim (h.run p s σ H Q I) (h'.run p s σ H Q I)⟩
/-- to data: a fresh object stands still -/
theorem pe_frz {X : Cx} {e : Expr} {t : DTE} (h : PE X e (lE T S0 t)) : PE X e (lD T S0 (frz t)) := pe_imp h fun σ H Q ⟨S, ds, eh, A, Qd, ht, k⟩ =>
  ⟨S, ds, eh, A, fun ev hd' => Qd ev.d hd', ht, fun ev S' v s r q qd => by
    cases ev with
    | v d => exact k d S' v s r q qd
    | nl xs =>
      obtain ⟨a, vs, e1, q1, r1, f⟩ := q
      exact k (.lst xs) (S'.frz a) v (s.frz f) (r.frz_ f q1 (by intro _ z; cases z)) (by unfold rep; exact ⟨a, vs, e1, .inr rfl, q1, r1.fz fun _ => .inl⟩) qd
    | nd xs =>
      obtain ⟨a, vs, e1, q1, r1, f⟩ := q
      exact k (.dic xs) (S'.frz a) v (s.frz f) (r.frz_ f q1 (by intro _ z; cases z)) (by unfold rep; exact ⟨a, vs, e1, .inr rfl, q1, r1.fz fun _ => .inl⟩) qd
    | no c xs =>
      obtain ⟨a, dx, vs, e1, q1, r1, f⟩ := q
      exact k (.obj c xs) (S'.frz a) v (s.frz f) (r.frz_ f q1 (by intro _ z; cases z)) (by unfold rep; exact ⟨a, dx, vs, e1, .inr rfl, q1, r1.fz fun _ => .inl⟩) qd⟩
end
/-! ### arguments -/
def dNil : DTL := fun _ hd Q => Q [] hd
def dCons (t : DTD) (u : DTL) : DTL := fun ds hd Q => t ds hd fun d hd1 => u ds hd1 fun r hd2 => Q (d :: r) hd2
section
variable {T : Tb} {S0 : Sw} {X : Cx}
theorem pa_imp {es : List Expr} {t t' : TA} (h : PA X es t) (k : ∀ σ H Q, t' σ H Q → t σ H Q) : PA X es t' := ⟨fun pos p s σ H Q I q => h.run pos p s σ H Q I (k σ H Q q)⟩
theorem da_nil : PA X [] (lL T S0 dNil) := pa_imp pa_nil fun σ H Q ⟨S, ds, eh, A, Qd, ht, k⟩ => by
  subst eh
  exact k [] S [] (Stp.refl S) A.rh (by unfold repL; rfl) ht
/-- one after another -/
theorem seq_lD {α : Type} {t : DTD} {u : D → Slt → Hd → (α → Hd → Prop) → Prop} {σ : L2.St} {S : Sw} {ds : Slt} (A : At T S0 S ds σ) {Qa : α → Hd → Prop} (h : t ds S.hd fun d hd1 => u d ds hd1 Qa) {Q : V → Hp → Prop}
    (k : ∀ d S1 v, Stp S S1 → At T S0 S1 ds σ → rep T S1.fz S1.hp d v → u d ds S1.hd Qa → Q v S1.hp) : lD T S0 t σ S.hp Q :=
  ⟨S, ds, rfl, A, fun d hd1 => u d ds hd1 Qa, h, fun d S1 v s r q h1 => k d S1 v s (A.then_ s r) q h1⟩
theorem da_cons {e : Expr} {es : List Expr} {t : DTD} {u : DTL} (h1 : PE X e (lD T S0 t)) (h2 : PA X es (lL T S0 u)) (hs : starEach (e :: es) X.env = (false, eval e X.env) :: starEach es X.env) : PA X (e :: es) (lL T S0 (dCons t u)) :=
  pa_imp (pa_cons h1 h2 hs) fun σ H Q ⟨S, ds, eh, A, Qd, ht, k⟩ => by
    subst eh
    refine seq_lD (u := fun d ds hd Q => u ds hd fun r hd2 => Q (d :: r) hd2) A ht fun d S1 v s1 A1 q1 h1 => ?_
    refine ⟨S1, ds, rfl, A1, _, h1, fun r S2 vs s2 r2 q2 h2 => ?_⟩
    exact k (d :: r) S2 (v :: vs) (s1.trans s2) r2 (by unfold repL; exact ⟨v, vs, rfl, q1.stp A1.rh s2, q2⟩) h2
end
/-! ### operations by values -/
/-- what is asked of data d1 .. dn and the tracked heap -/
abbrev DOp := Hd → List D → (EV → Hd → Prop) → Prop
/-- a rule by values serves an operation on data -/
def Serves (T : Tb) (r : List V → Hp → VK → Prop) (o : DOp) : Prop :=
  ∀ (S : Sw) (ds : List D) (vs : List V) (Qd : EV → Hd → Prop) (Q : VK), Rh T S → repL T S.fz S.hp ds vs → o S.hd ds Qd →
    (∀ ev S' v, Stp S S' → Rh T S' → repE T S S' ev v → Qd ev S'.hd → Q v S'.hp) → r vs S.hp Q
def dApp (o : DOp) (t : DTL) : DTE := fun ds hd Q => t ds hd fun l hd1 => o hd1 l Q
section
variable {T : Tb} {S0 : Sw} {X : Cx}
/-- the end of every operation: arguments, then the rule -/
theorem app_lL {t : DTL} {o : DOp} {r : List V → Hp → VK → Prop} (hs : Serves T r o) {σ : L2.St} {H : Hp} {Q : VK} (h : lE T S0 (dApp o t) σ H Q) : lL T S0 t σ H (fun vs H1 => r vs H1 Q) := by
  obtain ⟨S, ds, eh, A, Qd, ht, k⟩ := h
  exact ⟨S, ds, eh, A, fun l hd1 => o hd1 l Qd, ht, fun l S1 vs s1 r1 q1 h1 => hs S1 l vs Qd Q r1 q1 h1 fun ev S' v s' r' q' h' => k ev S' v (s1.trans s') r' (q'.back s1) h'⟩
theorem one_lL {t : DTD} {σ : L2.St} {H : Hp} {Q : List V → Hp → Prop} (h : lL T S0 (dCons t dNil) σ H Q) : lD T S0 t σ H (fun v H1 => Q [v] H1) := by
  obtain ⟨S, ds, eh, A, Qd, ht, k⟩ := h
  exact ⟨S, ds, eh, A, fun d hd1 => Qd [d] hd1, ht, fun d S1 v s1 r1 q1 h1 => k [d] S1 [v] s1 r1 (by unfold repL; exact ⟨v, [], rfl, q1, by unfold repL; rfl⟩) h1⟩
theorem two_lL {t u : DTD} {σ : L2.St} {H : Hp} {Q : List V → Hp → Prop} (h : lL T S0 (dCons t (dCons u dNil)) σ H Q) : lD T S0 t σ H (fun v H1 => lD T S0 u σ H1 fun w H2 => Q [v, w] H2) := by
  obtain ⟨S, ds, eh, A, Qd, ht, k⟩ := h
  subst eh
  refine seq_lD (u := fun d ds hd Q => u ds hd fun e hd2 => Q [d, e] hd2) A ht fun d S1 v s1 A1 q1 h1 => ?_
  refine ⟨S1, ds, rfl, A1, _, h1, fun e S2 w s2 r2 q2 h2 => ?_⟩
  exact k [d, e] S2 [v, w] (s1.trans s2) r2 (by unfold repL; exact ⟨v, [w], rfl, q1.stp A1.rh s2, by unfold repL; exact ⟨w, [], rfl, q2, by unfold repL; rfl⟩⟩) h2
end
end DL
set_option Elab.async false
set_option linter.all false
set_option maxRecDepth 100000
set_option maxHeartbeats 2000000
namespace DL
open PySem PySem.Spec PyProof.Rows L2
section
variable {T : Tb} {S S' : Sw}
theorem line : (sizeLine : Nat) = 16777216 := sizeLine_eq
theorem rep_str {F : Fz} {H : Hp} {x : Tx} {v : V} (h : rep T F H (.str x) v) : v = .str (st x) ∧ x.length ≤ 16777216 ∧ okT x := by unfold rep at h; exact h
theorem rep_int {F : Fz} {H : Hp} {i : Int} {v : V} (h : rep T F H (.int i) v) : v = .int i := by unfold rep at h; exact h
theorem rep_bl {F : Fz} {H : Hp} {b : Bool} {v : V} (h : rep T F H (.bl b) v) : v = .bl b := by unfold rep at h; exact h
theorem rep_non {F : Fz} {H : Hp} {v : V} (h : rep T F H .non v) : v = .non := by unfold rep at h; exact h
theorem rep_ref {F : Fz} {H : Hp} {a : Addr} {v : V} (h : rep T F H (.ref a) v) : v = .ref a := by unfold rep at h; exact h
theorem rep_tup {F : Fz} {H : Hp} {xs : List D} {v : V} (h : rep T F H (.tup xs) v) : ∃ a vs, v = .ref a ∧ SqT T.K H a vs ∧ repL T F H xs vs := by unfold rep at h; exact h
theorem rep_lst {F : Fz} {H : Hp} {xs : List D} {v : V} (h : rep T F H (.lst xs) v) : ∃ a vs, v = .ref a ∧ F a ∧ H a = some (.lst vs) ∧ repL T F H xs vs := by unfold rep at h; exact h
theorem rep_rol {F : Fz} {H : Hp} {xs : List D} {v : V} (h : rep T F H (.rol xs) v) : ∃ a vs, v = .ref a ∧ SqO T.K H a vs ∧ repL T F H xs vs := by unfold rep at h; exact h
theorem rep_dic {F : Fz} {H : Hp} {xs : List (DK × D)} {v : V} (h : rep T F H (.dic xs) v) : ∃ a vs, v = .ref a ∧ F a ∧ H a = some (.dK vs) ∧ repK T F H xs vs := by unfold rep at h; exact h
theorem rep_obj {F : Fz} {H : Hp} {c : Nat} {xs : List (Nat × D)} {v : V} (h : rep T F H (.obj c xs) v) : ∃ a dx vs, v = .ref a ∧ F a ∧ H a = some (.ins (T.ca c) dx vs) ∧ repF T F H xs vs := by unfold rep at h; exact h
theorem mk_str {F : Fz} {H : Hp} {x : Tx} (h : x.length ≤ 16777216) (o : okT x) : rep T F H (.str x) (.str (st x)) := by unfold rep; exact ⟨rfl, h, o⟩
theorem mk_int {F : Fz} {H : Hp} {i : Int} : rep T F H (.int i) (.int i) := by unfold rep; rfl
theorem mk_bl {F : Fz} {H : Hp} {i : Bool} : rep T F H (.bl i) (.bl i) := by unfold rep; rfl
theorem mk_non {F : Fz} {H : Hp} : rep T F H .non .non := by unfold rep; rfl
theorem mk_tup {F : Fz} {H : Hp} {a : Addr} {xs : List D} {vs : List V} (q : SqT T.K H a vs) (r : repL T F H xs vs) : rep T F H (.tup xs) (.ref a) := by unfold rep; exact ⟨a, vs, rfl, q, r⟩
theorem repL_nil {F : Fz} {H : Hp} {vs : List V} (h : repL T F H [] vs) : vs = [] := by unfold repL at h; exact h
theorem repL_cons {F : Fz} {H : Hp} {d : D} {ds : List D} {vs : List V} (h : repL T F H (d :: ds) vs) : ∃ v r, vs = v :: r ∧ rep T F H d v ∧ repL T F H ds r := by unfold repL at h; exact h
theorem repL_mk0 {F : Fz} {H : Hp} : repL T F H [] [] := by unfold repL; rfl
theorem repL_mk {F : Fz} {H : Hp} {d : D} {ds : List D} {v : V} {vs : List V} (h : rep T F H d v) (r : repL T F H ds vs) : repL T F H (d :: ds) (v :: vs) := by unfold repL; exact ⟨v, vs, rfl, h, r⟩
theorem repL_1 {F : Fz} {H : Hp} {d : D} {vs : List V} (h : repL T F H [d] vs) : ∃ v, vs = [v] ∧ rep T F H d v := by
  obtain ⟨v, r, e, h1, h2⟩ := repL_cons h
  rw [repL_nil h2] at e; exact ⟨v, e, h1⟩
theorem repL_2 {F : Fz} {H : Hp} {d e : D} {vs : List V} (h : repL T F H [d, e] vs) : ∃ v w, vs = [v, w] ∧ rep T F H d v ∧ rep T F H e w := by
  obtain ⟨v, r, e1, h1, h2⟩ := repL_cons h
  obtain ⟨w, e2, h3⟩ := repL_1 h2
  subst e2; exact ⟨v, w, e1, h1, h3⟩
theorem repL_3 {F : Fz} {H : Hp} {d e f : D} {vs : List V} (h : repL T F H [d, e, f] vs) : ∃ v w x, vs = [v, w, x] ∧ rep T F H d v ∧ rep T F H e w ∧ rep T F H f x := by
  obtain ⟨v, r, e1, h1, h2⟩ := repL_cons h
  obtain ⟨w, x, e2, h3⟩ := repL_2 h2
  subst e2; exact ⟨v, w, x, e1, h1, h3⟩
theorem repL_len {F : Fz} {H : Hp} : ∀ {ds : List D} {vs : List V}, repL T F H ds vs → ds.length = vs.length
  | [], vs, h => by rw [repL_nil h]; rfl
  | d :: ds, vs, h => by
    obtain ⟨v, r, e, _, h2⟩ := repL_cons h
    rw [e, List.length_cons, List.length_cons, repL_len h2]
theorem repL_app {F : Fz} {H : Hp} : ∀ {ds es : List D} {vs ws : List V}, repL T F H ds vs → repL T F H es ws → repL T F H (ds ++ es) (vs ++ ws)
  | [], es, vs, ws, h, h' => by rw [repL_nil h]; exact h'
  | d :: ds, es, vs, ws, h, h' => by
    obtain ⟨v, r, e, h1, h2⟩ := repL_cons h
    subst e
    exact repL_mk h1 (repL_app h2 h')
theorem repL_at {F : Fz} {H : Hp} : ∀ {ds : List D} {vs : List V} {i : Nat} {d : D}, repL T F H ds vs → ds[i]? = some d → ∃ v, vs[i]? = some v ∧ rep T F H d v
  | [], _, _, _, _, e => by simp at e
  | d :: ds, vs, i, x, h, e => by
    obtain ⟨v, r, e1, h1, h2⟩ := repL_cons h
    subst e1
    cases i with
    | zero => simp at e; subst e; exact ⟨v, rfl, h1⟩
    | succ i =>
      obtain ⟨w, e2, h3⟩ := repL_at (i := i) h2 (by simpa using e)
      exact ⟨w, by simpa using e2, h3⟩
theorem repL_of_at {F : Fz} {H : Hp} : ∀ {ds : List D} {vs : List V} {i : Nat} {v : V}, repL T F H ds vs → vs[i]? = some v → ∃ d, ds[i]? = some d ∧ rep T F H d v
  | [], _, _, _, h, e => by rw [repL_nil h] at e; simp at e
  | d :: ds, vs, i, x, h, e => by
    obtain ⟨v, r, e1, h1, h2⟩ := repL_cons h
    subst e1
    cases i with
    | zero => simp at e; subst e; exact ⟨d, rfl, h1⟩
    | succ i =>
      obtain ⟨w, e2, h3⟩ := repL_of_at (i := i) h2 (by simpa using e)
      exact ⟨w, by simpa using e2, h3⟩
theorem repL_take {F : Fz} {H : Hp} : ∀ {ds : List D} {vs : List V} (n : Nat), repL T F H ds vs → repL T F H (ds.take n) (vs.take n)
  | _, _, 0, _ => by simp; exact repL_mk0
  | [], _, n + 1, h => by rw [repL_nil h]; exact repL_mk0
  | d :: ds, vs, n + 1, h => by
    obtain ⟨v, r, e1, h1, h2⟩ := repL_cons h
    subst e1
    exact repL_mk h1 (repL_take n h2)
theorem repL_drop {F : Fz} {H : Hp} : ∀ {ds : List D} {vs : List V} (n : Nat), repL T F H ds vs → repL T F H (ds.drop n) (vs.drop n)
  | _, _, 0, h => h
  | [], _, n + 1, h => by rw [repL_nil h]; exact repL_mk0
  | d :: ds, vs, n + 1, h => by
    obtain ⟨v, r, e1, h1, h2⟩ := repL_cons h
    subst e1
    exact repL_drop n h2
theorem repL_set {F : Fz} {H : Hp} {d : D} {v : V} (q : rep T F H d v) : ∀ {ds : List D} {vs : List V} (n : Nat), repL T F H ds vs → repL T F H (ds.set n d) (vs.set n v)
  | [], _, n, h => by rw [repL_nil h]; exact repL_mk0
  | _ :: ds, vs, n, h => by
    obtain ⟨w, r, e1, h1, h2⟩ := repL_cons h
    subst e1
    cases n with
    | zero => exact repL_mk q h2
    | succ n => exact repL_mk h1 (repL_set q n h2)
/-- a new object of the layer, not tracked -/
def Sw.new (S : Sw) (p : Addr) (o : HO) : Sw := { S with hp := upd S.hp p o }
theorem Rh.there (R : Rh T S) {p : Addr} (hp : S.hp p = none) : S.hd p = none ∧ ¬ S.fz p := by
  refine ⟨?_, fun z => ?_⟩
  · cases e : S.hd p with
    | none => rfl
    | some o =>
      obtain ⟨u, eu, _⟩ := (R.at_ p o e).1.hp
      rw [hp] at eu; cases eu
  · obtain ⟨_, o, e, _⟩ := R.fzs p z
    rw [hp] at e; cases e
theorem Stp.new {p : Addr} {o : HO} (hp : S.hp p = none) : Stp S (S.new p o) :=
  ⟨fun _ h => h, fun a u h n => by
    have ne : a ≠ p := fun z => by rw [z, hp] at h; cases h
    refine ⟨u, ?_, fun _ => rfl, fun z => z, n, fun z => z⟩
    show upd S.hp p o a = some u
    rw [upd_ne ne]; exact h⟩
theorem Rh.new (R : Rh T S) {p : Addr} {o : HO} (hp : S.hp p = none) : Rh T (S.new p o) := by
  have s : Stp S (S.new p o) := Stp.new hp
  refine ⟨fun a u e => ?_, fun a z => ?_⟩
  · obtain ⟨q, nf⟩ := R.at_ a u e
    refine ⟨q.stp R s ?_, nf⟩
    obtain ⟨w, ew, _⟩ := q.hp
    have ne : a ≠ p := fun z => by rw [z, hp] at ew; cases ew
    exact upd_ne ne
  · obtain ⟨n, w, ew, nt⟩ := R.fzs a z
    have ne : a ≠ p := fun z => by rw [z, hp] at ew; cases ew
    exact ⟨n, w, (upd_ne ne).trans ew, nt⟩
theorem Fresh.new (R : Rh T S) {p : Addr} {o : HO} (hp : S.hp p = none) : Fresh S (S.new p o) p := ⟨(R.there hp).1, (R.there hp).2, .inl hp⟩
theorem Sw.new_at {p : Addr} {o : HO} : (S.new p o).hp p = some o := upd_same
/-- a new list, a new tuple, handed on -/
theorem done_nl (R : Rh T S) {xs : List D} {vs : List V} (r : repL T S.fz S.hp xs vs) {Qd : EV → Hd → Prop} {Q : VK} (q : Qd (.nl xs) S.hd) (k : ∀ ev S' v, Stp S S' → Rh T S' → repE T S S' ev v → Qd ev S'.hd → Q v S'.hp) :
    ∀ p, S.hp p = none → Q (.ref p) (upd S.hp p (.lst vs)) := fun p hp =>
  k (.nl xs) (S.new p (.lst vs)) (.ref p) (Stp.new hp) (R.new hp) ⟨p, vs, rfl, Sw.new_at, r.stp R (Stp.new hp), Fresh.new R hp⟩ q
theorem done_tup (R : Rh T S) {xs : List D} {vs : List V} (r : repL T S.fz S.hp xs vs) {Qd : EV → Hd → Prop} {Q : VK} (q : Qd (.v (.tup xs)) S.hd) (k : ∀ ev S' v, Stp S S' → Rh T S' → repE T S S' ev v → Qd ev S'.hd → Q v S'.hp) :
    ∀ p, S.hp p = none → Q (.ref p) (upd S.hp p (.tup vs)) := fun p hp =>
  k (.v (.tup xs)) (S.new p (.tup vs)) (.ref p) (Stp.new hp) (R.new hp) (mk_tup (SqT.of Sw.new_at) (r.stp R (Stp.new hp))) q
/-- a value at hand, handed on -/
theorem done_v (R : Rh T S) {d : D} {v : V} (r : rep T S.fz S.hp d v) {Qd : EV → Hd → Prop} {Q : VK} (q : Qd (.v d) S.hd) (k : ∀ ev S' v, Stp S S' → Rh T S' → repE T S S' ev v → Qd ev S'.hd → Q v S'.hp) : Q v S.hp :=
  k (.v d) S v (Stp.refl S) R r q
/-- what a value looks like when it is read -/
def view (hd : Hd) : D → D
  | .ref a => match hd a with
    | some (.lst xs) => .lst xs
    | some (.dic k) => .dic k
    | some (.ins c f) => .obj c f
    | none => .ref a
  | d => d
theorem view_cases (R : Rh T S) {d : D} {v : V} (r : rep T S.fz S.hp d v) : view S.hd d = d ∨ ∃ a o, d = .ref a ∧ v = .ref a ∧ S.hd a = some o ∧ repO T S a o ∧ view S.hd d = (match o with | .lst xs => .lst xs | .dic k => .dic k | .ins c f => .obj c f) := by
  cases d with
  | ref a =>
    cases e : S.hd a with
    | none => left; simp only [view, e]
    | some o =>
      right
      refine ⟨a, o, rfl, rep_ref r, e, (R.at_ a o e).1, ?_⟩
      simp only [view, e]; cases o <;> rfl
  | _ => left; rfl
theorem view_lst (R : Rh T S) {d : D} {v : V} (r : rep T S.fz S.hp d v) {xs : List D} (h : view S.hd d = .lst xs) : ∃ a vs, v = .ref a ∧ S.hp a = some (.lst vs) ∧ repL T S.fz S.hp xs vs := by
  rcases view_cases R r with e | ⟨a, o, e1, e2, e3, e4, e5⟩
  · rw [e] at h; subst h
    obtain ⟨a, vs, e1, _, e2, e3⟩ := rep_lst r
    exact ⟨a, vs, e1, e2, e3⟩
  · rw [h] at e5
    cases o with
    | lst ys => cases e5; obtain ⟨vs, q1, q2⟩ := e4; exact ⟨a, vs, e2, q1, q2⟩
    | dic _ => cases e5
    | ins _ _ => cases e5
theorem view_dic (R : Rh T S) {d : D} {v : V} (r : rep T S.fz S.hp d v) {xs : List (DK × D)} (h : view S.hd d = .dic xs) : ∃ a vs, v = .ref a ∧ S.hp a = some (.dK vs) ∧ repK T S.fz S.hp xs vs := by
  rcases view_cases R r with e | ⟨a, o, e1, e2, e3, e4, e5⟩
  · rw [e] at h; subst h
    obtain ⟨a, vs, e1, _, e2, e3⟩ := rep_dic r
    exact ⟨a, vs, e1, e2, e3⟩
  · rw [h] at e5
    cases o with
    | dic ys => cases e5; obtain ⟨vs, q1, q2⟩ := e4; exact ⟨a, vs, e2, q1, q2⟩
    | lst _ => cases e5
    | ins _ _ => cases e5
theorem view_obj (R : Rh T S) {d : D} {v : V} (r : rep T S.fz S.hp d v) {c : Nat} {xs : List (Nat × D)} (h : view S.hd d = .obj c xs) : ∃ a dx vs, v = .ref a ∧ S.hp a = some (.ins (T.ca c) dx vs) ∧ repF T S.fz S.hp xs vs := by
  rcases view_cases R r with e | ⟨a, o, e1, e2, e3, e4, e5⟩
  · rw [e] at h; subst h
    obtain ⟨a, dx, vs, e1, _, e2, e3⟩ := rep_obj r
    exact ⟨a, dx, vs, e1, e2, e3⟩
  · rw [h] at e5
    cases o with
    | ins ys _ => cases e5; obtain ⟨dx, vs, q1, q2⟩ := e4; exact ⟨a, dx, vs, e2, q1, q2⟩
    | lst _ => cases e5
    | dic _ => cases e5
/-- a view that is no object of the heap is the value itself -/
theorem view_self (R : Rh T S) {d : D} {v : V} (r : rep T S.fz S.hp d v) (h : ∀ xs, view S.hd d ≠ .lst xs) (h2 : ∀ xs, view S.hd d ≠ .dic xs) (h3 : ∀ c xs, view S.hd d ≠ .obj c xs) : view S.hd d = d := by
  rcases view_cases R r with e | ⟨a, o, e1, e2, e3, e4, e5⟩
  · exact e
  · cases o with
    | lst ys => exact (h _ e5).elim
    | dic _ => exact (h2 _ e5).elim
    | ins _ _ => exact (h3 _ _ e5).elim
theorem view_int (R : Rh T S) {d : D} {v : V} (r : rep T S.fz S.hp d v) {i : Int} (h : view S.hd d = .int i) : v = .int i := by
  have e := view_self R r (by rw [h]; intro _ z; cases z) (by rw [h]; intro _ z; cases z) (by rw [h]; intro _ _ z; cases z)
  rw [h] at e; subst e; exact rep_int r
theorem view_bl (R : Rh T S) {d : D} {v : V} (r : rep T S.fz S.hp d v) {i : Bool} (h : view S.hd d = .bl i) : v = .bl i := by
  have e := view_self R r (by rw [h]; intro _ z; cases z) (by rw [h]; intro _ z; cases z) (by rw [h]; intro _ _ z; cases z)
  rw [h] at e; subst e; exact rep_bl r
theorem view_non (R : Rh T S) {d : D} {v : V} (r : rep T S.fz S.hp d v) (h : view S.hd d = .non) : v = .non := by
  have e := view_self R r (by rw [h]; intro _ z; cases z) (by rw [h]; intro _ z; cases z) (by rw [h]; intro _ _ z; cases z)
  rw [h] at e; subst e; exact rep_non r
theorem view_str (R : Rh T S) {d : D} {v : V} (r : rep T S.fz S.hp d v) {x : Tx} (h : view S.hd d = .str x) : v = .str (st x) ∧ x.length ≤ 16777216 ∧ okT x := by
  have e := view_self R r (by rw [h]; intro _ z; cases z) (by rw [h]; intro _ z; cases z) (by rw [h]; intro _ _ z; cases z)
  rw [h] at e; subst e; exact rep_str r
theorem view_tup (R : Rh T S) {d : D} {v : V} (r : rep T S.fz S.hp d v) {x : List D} (h : view S.hd d = .tup x) : ∃ a vs, v = .ref a ∧ SqT T.K S.hp a vs ∧ repL T S.fz S.hp x vs := by
  have e := view_self R r (by rw [h]; intro _ z; cases z) (by rw [h]; intro _ z; cases z) (by rw [h]; intro _ _ z; cases z)
  rw [h] at e; subst e; exact rep_tup r
theorem view_rol (R : Rh T S) {d : D} {v : V} (r : rep T S.fz S.hp d v) {x : List D} (h : view S.hd d = .rol x) : ∃ a vs, v = .ref a ∧ SqO T.K S.hp a vs ∧ repL T S.fz S.hp x vs := by
  have e := view_self R r (by rw [h]; intro _ z; cases z) (by rw [h]; intro _ z; cases z) (by rw [h]; intro _ _ z; cases z)
  rw [h] at e; subst e; exact rep_rol r
end
theorem st_len (x : Tx) : (st x).length = x.length := by simp [st, Str.length]
theorem st_app (x y : Tx) : st x ++ st y = st (x ++ y) := by
  show Str.append (st x) (st y) = st (x ++ y)
  simp [st, Str.append]
theorem okT_app {x y : Tx} (h : okT x) (h' : okT y) : okT (x ++ y) := fun c hc => (List.mem_append.mp hc).elim (h c) (h' c)
end DL
set_option Elab.async false
set_option linter.all false
set_option maxRecDepth 100000
set_option maxHeartbeats 2000000
namespace DL
open PySem PySem.Spec PyProof.Rows L2
def r2 (r : R2) : List V → Hp → VK → Prop := fun vs H Q => ∃ x y, vs = [x, y] ∧ r x y H Q
/-- + -/
def oAdd : DOp
  | hd, [x, y], Q => match view hd x, view hd y with
    | .int i, .int j => Q (.v (.int (i + j))) hd
    | .str a, .str b => a.length + b.length ≤ 16777216 ∧ Q (.v (.str (a ++ b))) hd
    | .lst a, .lst b => a.length + b.length ≤ 16777216 ∧ Q (.nl (a ++ b)) hd
    | .tup a, .tup b => a.length + b.length ≤ 16777216 ∧ Q (.v (.tup (a ++ b))) hd
    | _, _ => False
  | _, _, _ => False
def oInt (C : Int → Int → Bool) (f : Int → Int → Int) : DOp
  | hd, [x, y], Q => match view hd x, view hd y with
    | .int i, .int j => C i j = true ∧ Q (.v (.int (f i j))) hd
    | _, _ => False
  | _, _, _ => False
def cAll (_ _ : Int) : Bool := true
def cMul (i j : Int) : Bool := (decide (-(2 ^ 64) < i) && decide (i < 2 ^ 64)) || (decide (-(2 ^ 64) < j) && decide (j < 2 ^ 64))
def cDiv (_ j : Int) : Bool := decide (0 < j) && decide (j < 1073741824)
def cMod (_ j : Int) : Bool := decide (0 < j)
def cPow (i j : Int) : Bool := decide (0 ≤ j) && decide (j ≤ 1000000) && decide (i.natAbs < 2 ^ 64)
def fPow (i j : Int) : Int := i ^ j.toNat
def oCmp (f : Int → Int → Bool) : DOp
  | hd, [x, y], Q => match view hd x, view hd y with
    | .int i, .int j => Q (.v (.bl (f i j))) hd
    | _, _ => False
  | _, _, _ => False
def oNeg : DOp
  | hd, [x], Q => match view hd x with
    | .int i => Q (.v (.int (-i))) hd
    | _ => False
  | _, _, _ => False
def isNon : D → Bool
  | .non => true
  | _ => false
def oIsN (neg : Bool) : DOp
  | hd, [x], Q => Q (.v (.bl (xor neg (isNon x)))) hd
  | _, _, _ => False
def oTup : DOp := fun hd xs Q => xs.length ≤ 16777216 ∧ Q (.v (.tup xs)) hd
def oLst : DOp := fun hd xs Q => xs.length ≤ 16777216 ∧ Q (.nl xs) hd
def oDic0 : DOp
  | hd, [], Q => Q (.nd []) hd
  | _, _, _ => False
def oIdx : DOp
  | hd, [x, y], Q => match view hd x, view hd y with
    | .lst a, .int i => match atI a i with
      | some d => Q (.v d) hd
      | none => False
    | .rol a, .int i => match atI a i with
      | some d => Q (.v d) hd
      | none => False
    | .tup a, .int i => match atI a i with
      | some d => Q (.v d) hd
      | none => False
    | .str a, .int i => match atI a i with
      | some c => Q (.v (.str [c])) hd
      | none => False
    | _, _ => False
  | _, _, _ => False
def oLen : DOp
  | hd, [x], Q => match view hd x with
    | .lst a => Q (.v (.int a.length)) hd
    | .rol a => Q (.v (.int a.length)) hd
    | .tup a => Q (.v (.int a.length)) hd
    | .str a => Q (.v (.int a.length)) hd
    | .dic a => Q (.v (.int a.length)) hd
    | _ => False
  | _, _, _ => False
def oAbs : DOp
  | hd, [x], Q => match view hd x with
    | .int i => Q (.v (.int (if i < 0 then -i else i))) hd
    | _ => False
  | _, _, _ => False
def oIntOf : DOp
  | hd, [x], Q => match view hd x with
    | .int i => Q (.v (.int i)) hd
    | _ => False
  | _, _, _ => False
def oTupOf : DOp
  | hd, [x], Q => match view hd x with
    | .lst a => Q (.v (.tup a)) hd
    | .tup a => Q (.v (.tup a)) hd
    | _ => False
  | _, _, _ => False
def oLstOf : DOp
  | hd, [x], Q => match view hd x with
    | .lst a => Q (.nl a) hd
    | .tup a => Q (.nl a) hd
    | _ => False
  | _, _, _ => False
def oDivmod : DOp
  | hd, [x, y], Q => match view hd x, view hd y with
    | .int i, .int j => cDiv i j = true ∧ Q (.v (.tup [.int (i / j), .int (i % j)])) hd
    | _, _ => False
  | _, _, _ => False
section
variable {T : Tb} {S S' : Sw} {X : Cx}
theorem serves_add (hK : X.K = T.K) : Serves T (r2 fun x y H Q => (rI0 fun i j => .int (i + j)) x y H Q ∨ ((fun x y H Q => ∃ i j, x = .str i ∧ y = .str j ∧ i.length + j.length ≤ sizeLine ∧ Q (.str (i ++ j)) H) x y H Q ∨ (rCat x y H Q ∨ rCatA X.K x y H Q))) oAdd := by
  intro S ds vs Qd Q R r h k
  unfold oAdd at h
  split at h
  · rename_i x y Q0
    obtain ⟨v, w, rfl, rx, ry⟩ := repL_2 r
    refine ⟨v, w, rfl, ?_⟩
    split at h
    · rename_i i j ei ej
      exact .inl ⟨i, j, view_int R rx ei, view_int R ry ej, done_v R mk_int h k⟩
    · rename_i a b ea eb
      obtain ⟨h1, h2, h3⟩ := view_str R rx ea
      obtain ⟨g1, g2, g3⟩ := view_str R ry eb
      refine .inr (.inl ⟨st a, st b, h1, g1, by rw [st_len, st_len, line]; exact h.1, ?_⟩)
      rw [st_app]
      exact done_v R (mk_str (by rw [List.length_append]; exact h.1) (okT_app h3 g3)) h.2 k
    · rename_i a b ea eb
      obtain ⟨p, xs, rfl, h2, h3⟩ := view_lst R rx ea
      obtain ⟨q, ys, rfl, g2, g3⟩ := view_lst R ry eb
      refine .inr (.inr (.inl ⟨p, q, xs, ys, rfl, rfl, h2, g2, by rw [← repL_len h3, ← repL_len g3, line]; exact h.1, ?_⟩))
      exact done_nl R (repL_app h3 g3) h.2 k
    · rename_i a b ea eb
      obtain ⟨p, xs, rfl, h2, h3⟩ := view_tup R rx ea
      obtain ⟨q, ys, rfl, g2, g3⟩ := view_tup R ry eb
      refine .inr (.inr (.inr ⟨p, q, xs, ys, rfl, rfl, by rw [hK]; exact h2, by rw [hK]; exact g2, by rw [← repL_len h3, ← repL_len g3, line]; exact h.1, fun e => ?_, fun _ e => ?_, fun _ _ => ?_⟩))
      · subst e
        have ea : a = [] := List.length_eq_zero_iff.mp (by rw [repL_len h3]; rfl)
        subst ea
        exact done_v R (mk_tup g2 g3) h.2 k
      · subst e
        have ea : b = [] := List.length_eq_zero_iff.mp (by rw [repL_len g3]; rfl)
        subst ea
        have h2' := h.2
        rw [List.append_nil] at h2'
        exact done_v R (mk_tup h2 h3) h2' k
      · exact done_tup R (repL_app h3 g3) h.2 k
    · exact h.elim
  · exact h.elim
theorem serves_int {C : Int → Int → Bool} {f : Int → Int → Int} {C' : Int → Int → Prop} (hC : ∀ i j, C i j = true → C' i j) : Serves T (r2 (rI C' fun i j => .int (f i j))) (oInt C f) := by
  intro S ds vs Qd Q R r h k
  unfold oInt at h
  split at h
  · obtain ⟨v, w, rfl, rx, ry⟩ := repL_2 r
    refine ⟨v, w, rfl, ?_⟩
    split at h
    · rename_i i j ei ej
      exact ⟨i, j, view_int R rx ei, view_int R ry ej, hC i j h.1, done_v R mk_int h.2 k⟩
    · exact h.elim
  · exact h.elim
theorem serves_cmp {f : Int → Int → Bool} : Serves T (r2 (rI0 fun i j => .bl (f i j))) (oCmp f) := by
  intro S ds vs Qd Q R r h k
  unfold oCmp at h
  split at h
  · obtain ⟨v, w, rfl, rx, ry⟩ := repL_2 r
    refine ⟨v, w, rfl, ?_⟩
    split at h
    · rename_i i j ei ej
      exact ⟨i, j, view_int R rx ei, view_int R ry ej, done_v R mk_bl h k⟩
    · exact h.elim
  · exact h.elim
def r1 (r : V → Hp → VK → Prop) : List V → Hp → VK → Prop := fun vs H Q => ∃ x, vs = [x] ∧ r x H Q
theorem serves_neg : Serves T (r1 (rU fun i => .int (-i))) oNeg := by
  intro S ds vs Qd Q R r h k
  unfold oNeg at h
  split at h
  · obtain ⟨v, rfl, rx⟩ := repL_1 r
    refine ⟨v, rfl, ?_⟩
    split at h
    · rename_i i ei
      exact ⟨i, view_int R rx ei, done_v R mk_int h k⟩
    · exact h.elim
  · exact h.elim
theorem isNon_ok {F : Fz} {H : Hp} {d : D} {v : V} (r : rep T F H d v) : decide (v = .non) = isNon d := by
  cases d with
  | non => rw [rep_non r]; rfl
  | bl b => rw [rep_bl r]; rfl
  | int i => rw [rep_int r]; rfl
  | str x => rw [(rep_str r).1]; rfl
  | tup x => obtain ⟨a, vs, e, _⟩ := rep_tup r; rw [e]; rfl
  | lst x => obtain ⟨a, vs, e, _⟩ := rep_lst r; rw [e]; rfl
  | rol x => obtain ⟨a, vs, e, _⟩ := rep_rol r; rw [e]; rfl
  | dic x => obtain ⟨a, vs, e, _⟩ := rep_dic r; rw [e]; rfl
  | obj c x => obtain ⟨a, dx, vs, e, _⟩ := rep_obj r; rw [e]; rfl
  | ref a => rw [rep_ref r]; rfl
theorem serves_isN : Serves T (r1 fun x H Q => Q (.bl (decide (x = .non))) H) (oIsN false) := by
  intro S ds vs Qd Q R r h k
  unfold oIsN at h
  split at h
  · rename_i x Q0
    obtain ⟨v, rfl, rx⟩ := repL_1 r
    refine ⟨v, rfl, ?_⟩
    show Q (.bl (decide (v = .non))) S.hp
    rw [isNon_ok rx]
    rw [Bool.false_xor] at h
    exact done_v R mk_bl h k
  · exact h.elim
theorem serves_notN : Serves T (r1 fun x H Q => Q (.bl (!decide (x = .non))) H) (oIsN true) := by
  intro S ds vs Qd Q R r h k
  unfold oIsN at h
  split at h
  · rename_i x Q0
    obtain ⟨v, rfl, rx⟩ := repL_1 r
    refine ⟨v, rfl, ?_⟩
    show Q (.bl (!decide (v = .non))) S.hp
    rw [isNon_ok rx]
    rw [Bool.true_xor] at h
    exact done_v R mk_bl h k
  · exact h.elim
theorem serves_tup : Serves T (fun xs H Q => xs.length ≤ sizeLine ∧ ∀ p, H p = none → Q (.ref p) (upd H p (.tup xs))) oTup := by
  intro S ds vs Qd Q R r h k
  exact ⟨by rw [← repL_len r, line]; exact h.1, done_tup R r h.2 k⟩
theorem serves_lst : Serves T (fun xs H Q => xs.length ≤ sizeLine ∧ ∀ p, H p = none → Q (.ref p) (upd H p (.lst xs))) oLst := by
  intro S ds vs Qd Q R r h k
  exact ⟨by rw [← repL_len r, line]; exact h.1, done_nl R r h.2 k⟩
theorem atI_rep {F : Fz} {H : Hp} {ds : List D} {vs : List V} {i : Int} {d : D} (r : repL T F H ds vs) (e : atI ds i = some d) : ∃ v, atI vs i = some v ∧ rep T F H d v := by
  unfold atI at e ⊢
  rw [repL_len r] at e
  cases q : ixN vs.length i with
  | none => rw [q] at e; cases e
  | some j =>
    rw [q] at e
    obtain ⟨v, e1, h1⟩ := repL_at r e
    exact ⟨v, e1, h1⟩
theorem serves_idx (hK : X.K = T.K) : Serves T (r2 (rIx X.K)) oIdx := by
  intro S ds vs Qd Q R r h k
  unfold oIdx at h
  split at h
  · obtain ⟨v, w, rfl, rx, ry⟩ := repL_2 r
    refine ⟨v, w, rfl, ?_⟩
    unfold rIx
    rw [hK]
    split at h
    · rename_i a i ea ei
      obtain ⟨p, xs, rfl, h2, h3⟩ := view_lst R rx ea
      split at h
      · rename_i d ed
        obtain ⟨z, ez, rz⟩ := atI_rep h3 ed
        exact .inl ⟨p, xs, i, z, rfl, view_int R ry ei, SqL.of h2, ez, done_v R rz h k⟩
      · exact h.elim
    · rename_i a i ea ei
      obtain ⟨p, xs, rfl, h2, h3⟩ := view_rol R rx ea
      split at h
      · rename_i d ed
        obtain ⟨z, ez, rz⟩ := atI_rep h3 ed
        exact .inl ⟨p, xs, i, z, rfl, view_int R ry ei, h2.l, ez, done_v R rz h k⟩
      · exact h.elim
    · rename_i a i ea ei
      obtain ⟨p, xs, rfl, h2, h3⟩ := view_tup R rx ea
      split at h
      · rename_i d ed
        obtain ⟨z, ez, rz⟩ := atI_rep h3 ed
        exact .inr (.inl ⟨p, xs, i, z, rfl, view_int R ry ei, h2, ez, done_v R rz h k⟩)
      · exact h.elim
    · rename_i a i ea ei
      obtain ⟨h1, h2, h3⟩ := view_str R rx ea
      split at h
      · rename_i d ed
        refine .inr (.inr ⟨st a, i, d, h1, view_int R ry ei, by rw [st_len, line]; exact h2, by simpa [st] using ed, ?_⟩)
        have hm : d ∈ a := by
          unfold atI at ed
          cases q : ixN a.length i with
          | none => rw [q] at ed; cases ed
          | some j => rw [q] at ed; exact List.mem_of_getElem? ed
        have ho : okT [d] := fun c hc => by
          have e : c = d := by simpa using hc
          rw [e]
          exact h3 d hm
        exact done_v R (d := .str [d]) (mk_str (by simp) ho) h k
      · exact h.elim
    · exact h.elim
  · exact h.elim
theorem repK_len {F : Fz} {H : Hp} : ∀ {ds : List (DK × D)} {vs : List (Key × V)}, repK T F H ds vs → ds.length = vs.length
  | [], vs, h => by unfold repK at h; rw [h]; rfl
  | (q, d) :: ds, vs, h => by
    unfold repK at h
    obtain ⟨v, r, e, _, _, h2⟩ := h
    rw [e, List.length_cons, List.length_cons, repK_len h2]
theorem serves_len (hK : X.K = T.K) : Serves T (fun xs H Q => (∃ p ys, xs = [.ref p] ∧ (SqL X.K H p ys ∨ SqT X.K H p ys) ∧ Q (.int ys.length) H) ∨ ((∃ z, xs = [.str z] ∧ z.length ≤ sizeLine ∧ Q (.int z.length) H) ∨ (∃ d kvs, xs = [.ref d] ∧ H d = some (.dK kvs) ∧ Q (.int kvs.length) H))) oLen := by
  intro S ds vs Qd Q R r h k
  unfold oLen at h
  split at h
  · obtain ⟨v, rfl, rx⟩ := repL_1 r
    rw [hK]
    split at h
    · rename_i a ea
      obtain ⟨p, xs, rfl, h2, h3⟩ := view_lst R rx ea
      rw [repL_len h3] at h
      exact .inl ⟨p, xs, rfl, .inl (SqL.of h2), done_v R mk_int h k⟩
    · rename_i a ea
      obtain ⟨p, xs, rfl, h2, h3⟩ := view_rol R rx ea
      rw [repL_len h3] at h
      exact .inl ⟨p, xs, rfl, .inl h2.l, done_v R mk_int h k⟩
    · rename_i a ea
      obtain ⟨p, xs, rfl, h2, h3⟩ := view_tup R rx ea
      rw [repL_len h3] at h
      exact .inl ⟨p, xs, rfl, .inr h2, done_v R mk_int h k⟩
    · rename_i a ea
      obtain ⟨h1, h2, h3⟩ := view_str R rx ea
      subst h1
      refine .inr (.inl ⟨st a, rfl, by rw [st_len, line]; exact h2, ?_⟩)
      rw [st_len]
      exact done_v R mk_int h k
    · rename_i a ea
      obtain ⟨p, xs, rfl, h2, h3⟩ := view_dic R rx ea
      rw [repK_len h3] at h
      exact .inr (.inr ⟨p, xs, rfl, h2, done_v R mk_int h k⟩)
    · exact h.elim
  · exact h.elim
theorem serves_abs : Serves T (fun xs H Q => ∃ i, xs = [.int i] ∧ Q (.int (if i < 0 then -i else i)) H) oAbs := by
  intro S ds vs Qd Q R r h k
  unfold oAbs at h
  split at h
  · obtain ⟨v, rfl, rx⟩ := repL_1 r
    split at h
    · rename_i i ei
      rw [view_int R rx ei]
      exact ⟨i, rfl, done_v R mk_int h k⟩
    · exact h.elim
  · exact h.elim
theorem serves_intOf : Serves T (fun xs H Q => (∃ i, xs = [.int i] ∧ Q (.int i) H) ∨ ∃ k, xs = [.bl k] ∧ Q (.int (if k then 1 else 0)) H) oIntOf := by
  intro S ds vs Qd Q R r h k
  unfold oIntOf at h
  split at h
  · obtain ⟨v, rfl, rx⟩ := repL_1 r
    split at h
    · rename_i i ei
      rw [view_int R rx ei]
      exact .inl ⟨i, rfl, done_v R mk_int h k⟩
    · exact h.elim
  · exact h.elim
theorem serves_tupOf (hK : X.K = T.K) : Serves T (fun xs H Q => ∃ p ys, xs = [.ref p] ∧ ((SqL X.K H p ys ∧ ∀ l, H l = none → Q (.ref l) (upd H l (.tup ys))) ∨ (SqT X.K H p ys ∧ Q (.ref p) H))) oTupOf := by
  intro S ds vs Qd Q R r h k
  unfold oTupOf at h
  split at h
  · obtain ⟨v, rfl, rx⟩ := repL_1 r
    rw [hK]
    split at h
    · rename_i a ea
      obtain ⟨p, xs, rfl, h2, h3⟩ := view_lst R rx ea
      exact ⟨p, xs, rfl, .inl ⟨SqL.of h2, done_tup R h3 h k⟩⟩
    · rename_i a ea
      obtain ⟨p, xs, rfl, h2, h3⟩ := view_tup R rx ea
      exact ⟨p, xs, rfl, .inr ⟨h2, done_v R (mk_tup h2 h3) h k⟩⟩
    · exact h.elim
  · exact h.elim
theorem serves_lstOf (hK : X.K = T.K) : Serves T (fun xs H Q => ∃ p ys, xs = [.ref p] ∧ (SqL X.K H p ys ∨ SqT X.K H p ys) ∧ ∀ l, H l = none → Q (.ref l) (upd H l (.lst ys))) oLstOf := by
  intro S ds vs Qd Q R r h k
  unfold oLstOf at h
  split at h
  · obtain ⟨v, rfl, rx⟩ := repL_1 r
    rw [hK]
    split at h
    · rename_i a ea
      obtain ⟨p, xs, rfl, h2, h3⟩ := view_lst R rx ea
      exact ⟨p, xs, rfl, .inl (SqL.of h2), done_nl R h3 h k⟩
    · rename_i a ea
      obtain ⟨p, xs, rfl, h2, h3⟩ := view_tup R rx ea
      exact ⟨p, xs, rfl, .inr h2, done_nl R h3 h k⟩
    · exact h.elim
  · exact h.elim
theorem serves_divmod : Serves T (fun xs H Q => ∃ i j, xs = [.int i, .int j] ∧ CDiv i j ∧ ∀ p, H p = none → Q (.ref p) (upd H p (.tup [.int (i / j), .int (i % j)]))) oDivmod := by
  intro S ds vs Qd Q R r h k
  unfold oDivmod at h
  split at h
  · obtain ⟨v, w, rfl, rx, ry⟩ := repL_2 r
    split at h
    · rename_i i j ei ej
      rw [view_int R rx ei, view_int R ry ej]
      refine ⟨i, j, rfl, ?_, done_tup R (xs := [.int (i / j), .int (i % j)]) (repL_mk mk_int (repL_mk mk_int repL_mk0)) h.2 k⟩
      have := h.1
      simp only [cDiv, Bool.and_eq_true, decide_eq_true_eq] at this
      exact this
    · exact h.elim
  · exact h.elim
end
end DL
set_option Elab.async false
set_option linter.all false
set_option maxRecDepth 100000
set_option maxHeartbeats 2000000
namespace DL
open PySem PySem.Spec PyProof.Rows L2
open PySem.Builtin.Str (occurrences subAt strSub)
/-- y stands ahead of x -/
def pfx : Tx → Tx → Bool
  | [], _ => true
  | _ :: _, [] => false
  | a :: y, b :: x => decide (a = b) && pfx y x
/-- ahead of the first y, behind it -/
def cutT (y : Tx) : Tx → Option (Tx × Tx)
  | [] => if pfx y [] = true then some ([], []) else none
  | c :: r => if pfx y (c :: r) = true then some ([], (c :: r).drop y.length) else (cutT y r).map fun p => (c :: p.1, p.2)
def splitN (y : Tx) : Nat → Tx → List Tx
  | 0, x => [x]
  | n + 1, x => match cutT y x with
    | none => [x]
    | some p => p.1 :: splitN y n p.2
def splitT (y x : Tx) : List Tx := splitN y (x.length + 1) x
def joinT (y : Tx) : List Tx → Tx
  | [] => []
  | [x] => x
  | x :: z :: r => x ++ y ++ joinT y (z :: r)
def partT (y x : Tx) : Tx × Tx × Tx := match cutT y x with
  | some p => (p.1, y, p.2)
  | none => (x, [], [])
def findT (y x : Tx) : Int := match cutT y x with
  | some p => (p.1.length : Nat)
  | none => -1
def countT (y x : Tx) : Int := ((splitT y x).length - 1 : Nat)

theorem pfx_iff : ∀ {y x : Tx}, pfx y x = true ↔ x.take y.length = y
  | [], x => by simp [pfx]
  | a :: y, [] => by simp [pfx]
  | a :: y, b :: x => by
    simp only [pfx, Bool.and_eq_true, decide_eq_true_eq, List.length_cons, List.take_succ_cons, List.cons.injEq]
    rw [pfx_iff]
    exact ⟨fun h => ⟨h.1.symm, h.2⟩, fun h => ⟨h.1.symm, h.2⟩⟩
theorem pfx_len {y x : Tx} (h : pfx y x = true) : y.length ≤ x.length := by
  have e := congrArg List.length (pfx_iff.mp h)
  rw [List.length_take] at e; omega
theorem at_iff {x y : Tx} {k : Nat} : PySem.StrLaws.At (st x) (st y) (st x).length k ↔ pfx y (x.drop k) = true ∧ k ≤ x.length := by
  unfold PySem.StrLaws.At subAt
  rw [st_len, st_len, pfx_iff]
  have e : ((st x).cps.extract k (k + (st y).length) == (st y).cps) = true ↔ (x.drop k).take y.length = y := by
    rw [st_len, beq_iff_eq]
    constructor
    · intro h
      have := congrArg Array.toList h
      simpa [st, List.extract_eq_drop_take] using this
    · intro h
      apply Array.ext'
      simpa [st, List.extract_eq_drop_take] using h
  rw [st_len] at e
  constructor
  · rintro ⟨h1, h2⟩
    exact ⟨e.mp h2, by omega⟩
  · rintro ⟨h1, h2⟩
    have := congrArg List.length h1
    rw [List.length_take, List.length_drop] at this
    exact ⟨by omega, e.mpr h1⟩
theorem cut_none {y : Tx} : ∀ {x : Tx}, cutT y x = none → ∀ k, k ≤ x.length → pfx y (x.drop k) = false
  | [], h, k, hk => by
    unfold cutT at h
    split at h
    · cases h
    · rename_i e
      have : k = 0 := by simpa using hk
      subst this
      simpa using e
  | c :: r, h, k, hk => by
    unfold cutT at h
    split at h
    · cases h
    · rename_i e
      cases q : cutT y r with
      | some p => rw [q] at h; cases h
      | none =>
        cases k with
        | zero => simpa using e
        | succ k => exact cut_none q k (by simpa using hk)
theorem cut_some {y : Tx} : ∀ {x : Tx} {p : Tx × Tx}, cutT y x = some p → x = p.1 ++ y ++ p.2 ∧ ∀ k, k < p.1.length → pfx y (x.drop k) = false
  | [], p, h => by
    unfold cutT at h
    split at h
    · rename_i e
      cases h
      have := pfx_iff.mp e
      refine ⟨by simpa using this, fun k hk => by simp at hk⟩
    · cases h
  | c :: r, p, h => by
    unfold cutT at h
    split at h
    · rename_i e
      cases h
      have := pfx_iff.mp e
      refine ⟨?_, fun k hk => by simp at hk⟩
      show c :: r = [] ++ y ++ (c :: r).drop y.length
      rw [List.nil_append]
      conv => lhs; rw [← List.take_append_drop y.length (c :: r)]
      rw [this]
    · rename_i e
      cases q : cutT y r with
      | none => rw [q] at h; cases h
      | some p' =>
        rw [q] at h
        have h' : (c :: p'.1, p'.2) = p := Option.some.inj h
        subst h'
        obtain ⟨h1, h2⟩ := cut_some q
        refine ⟨by rw [h1]; rfl, fun k hk => ?_⟩
        cases k with
        | zero => simpa using e
        | succ k => exact h2 k (by simpa using hk)
theorem cut_eq {y x a b : Tx} (e : x = a ++ y ++ b) (h : ∀ k, k < a.length → pfx y (x.drop k) = false) : cutT y x = some (a, b) := by
  cases q : cutT y x with
  | none =>
    have := cut_none q a.length (by rw [e]; simp)
    rw [e, List.append_assoc, List.drop_left] at this
    rw [show pfx y (y ++ b) = true from pfx_iff.mpr (by simp)] at this
    cases this
  | some p =>
    obtain ⟨h1, h2⟩ := cut_some q
    have hl : p.1.length = a.length := by
      rcases Nat.lt_trichotomy p.1.length a.length with z | z | z
      · have := h _ z
        rw [h1, List.append_assoc, List.drop_left] at this
        rw [show pfx y (y ++ p.2) = true from pfx_iff.mpr (by simp)] at this
        cases this
      · exact z
      · have := h2 _ z
        rw [e, List.append_assoc, List.drop_left] at this
        rw [show pfx y (y ++ b) = true from pfx_iff.mpr (by simp)] at this
        cases this
    have e2 : p.1 ++ (y ++ p.2) = a ++ (y ++ b) := by rw [← List.append_assoc, ← List.append_assoc, ← h1, e]
    obtain ⟨e3, e4⟩ := List.append_inj e2 hl
    have e5 : p.2 = b := (List.append_inj e4 rfl).2
    obtain ⟨p1, p2⟩ := p
    simp only at e3 e5
    rw [e3, e5]
theorem cut_len {y x : Tx} {p : Tx × Tx} (h : cutT y x = some p) : p.1.length + y.length + p.2.length = x.length := by
  have := congrArg List.length (cut_some h).1
  simp only [List.length_append] at this
  omega
theorem sub_toList (x : Tx) (i j : Nat) : strSub (st x) i j = st ((x.drop i).take (j - i)) := by
  have h := PySem.StrLaws.strSub_toList (st x) i j
  have e : strSub (st x) i j = ⟨(strSub (st x) i j).cps.toList.toArray⟩ := by cases strSub (st x) i j; simp
  rw [e, h]
  simp [st]
/-- the parts from a place on -/
def partsFrom (s : Str) (w : Nat) (a : Nat) (cuts : List Nat) : List Str := ((a :: cuts.map (· + w)).zip (cuts ++ [s.length])).map fun p => strSub s p.1 p.2
theorem parts_cons (s : Str) (w a c : Nat) (r : List Nat) : partsFrom s w a (c :: r) = strSub s a c :: partsFrom s w (c + w) r := rfl
theorem chain_split {x y : Tx} (hw : 1 ≤ y.length) : ∀ (cuts : List Nat) (a f n : Nat), a ≤ x.length → x.length - a < n → PySem.StrLaws.ChainG (st x) (st y) (st x).length a cuts f → (∀ k, f ≤ k → ¬ PySem.StrLaws.At (st x) (st y) (st x).length k) →
    partsFrom (st x) (st y).length a cuts = (splitN y n (x.drop a)).map st
  | [], a, f, 0, ha, hn, _, _ => by omega
  | _ :: _, a, f, 0, ha, hn, _, _ => by omega
  | [], a, f, n + 1, ha, hn, hc, hf => by
    have e : f = a := hc
    subst e
    have q : cutT y (x.drop f) = none := by
      cases q : cutT y (x.drop f) with
      | none => rfl
      | some p =>
        obtain ⟨h1, _⟩ := cut_some q
        exfalso
        have hl := cut_len q
        rw [List.length_drop] at hl
        refine hf (f + p.1.length) (by omega) (at_iff.mpr ⟨?_, by omega⟩)
        rw [← List.drop_drop, h1, List.append_assoc, List.drop_left]
        exact pfx_iff.mpr (by simp)
    show partsFrom (st x) (st y).length f [] = (match cutT y (x.drop f) with | none => [x.drop f] | some p => p.1 :: splitN y n p.2).map st
    rw [q]
    show [strSub (st x) f (st x).length] = [st (x.drop f)]
    rw [sub_toList, st_len, List.take_of_length_le (by simp)]
  | c :: r, a, f, n + 1, ha, hn, hc, hf => by
    obtain ⟨h1, h2, h3, h4⟩ := hc
    obtain ⟨p1, p2⟩ := at_iff.mp h2
    have hlen := pfx_len p1
    rw [List.length_drop] at hlen
    have q : cutT y (x.drop a) = some ((x.drop a).take (c - a), x.drop (c + y.length)) := by
      refine cut_eq ?_ ?_
      · conv => lhs; rw [← List.take_append_drop (c - a) (x.drop a)]
        rw [List.append_assoc]
        congr 1
        rw [List.drop_drop]
        have e : a + (c - a) = c := by omega
        rw [e]
        conv => lhs; rw [← List.take_append_drop y.length (x.drop c)]
        rw [pfx_iff.mp p1, List.drop_drop]
      · intro k hk
        rw [List.length_take, List.length_drop] at hk
        rw [List.drop_drop]
        cases z : pfx y (x.drop (a + k)) with
        | false => rfl
        | true => exact (h3 (a + k) (by omega) (by omega) (at_iff.mpr ⟨z, by omega⟩)).elim
    show partsFrom (st x) (st y).length a (c :: r) = (match cutT y (x.drop a) with | none => [x.drop a] | some p => p.1 :: splitN y n p.2).map st
    rw [q, parts_cons]
    show _ = st ((x.drop a).take (c - a)) :: (splitN y n (x.drop (c + y.length))).map st
    rw [sub_toList]
    congr 1
    have h4' := h4
    rw [st_len] at h4'
    have := chain_split hw r (c + y.length) f n (by omega) (by omega) h4' hf
    rw [st_len] at this ⊢
    exact this
theorem occ_first1 (x y : Tx) : (cutT y x = none ∧ occurrences (st x) (st y) 0 (st x).length 1 = []) ∨ ∃ p r, cutT y x = some p ∧ occurrences (st x) (st y) 0 (st x).length 1 = p.1.length :: r := by
  rcases PySem.StrLaws.occ_head (st x) (st y) 1 (Nat.le_refl 1) with ⟨h1, h2⟩ | ⟨i, r, h1, h2, h3⟩
  · left
    refine ⟨?_, h1⟩
    cases q : cutT y x with
    | none => rfl
    | some p =>
      obtain ⟨g1, _⟩ := cut_some q
      refine (h2 p.1.length (at_iff.mpr ⟨?_, by have := cut_len q; omega⟩)).elim
      rw [g1, List.append_assoc, List.drop_left]
      exact pfx_iff.mpr (by simp)
  · right
    obtain ⟨p1, p2⟩ := at_iff.mp h2
    have q : cutT y x = some (x.take i, x.drop (i + y.length)) := by
      refine cut_eq ?_ fun k hk => ?_
      · conv => lhs; rw [← List.take_append_drop i x]
        rw [List.append_assoc]
        congr 1
        conv => lhs; rw [← List.take_append_drop y.length (x.drop i)]
        rw [pfx_iff.mp p1, List.drop_drop]
      · rw [List.length_take] at hk
        cases z : pfx y (x.drop k) with
        | false => rfl
        | true => exact (h3 k (by omega) (at_iff.mpr ⟨z, by omega⟩)).elim
    refine ⟨_, r, q, ?_⟩
    rw [h1]
    show i :: r = (x.take i).length :: r
    rw [List.length_take, Nat.min_eq_left p2]
theorem find_eq (x y : Tx) : Txt.find (st x) (st y) = findT y x := by
  unfold Txt.find findT
  rcases occ_first1 x y with ⟨h1, h2⟩ | ⟨p, r, h1, h2⟩
  · rw [h1, h2]
  · rw [h1, h2]
theorem occ_in (x y : Tx) : (!(occurrences (st x) (st y) 0 (st x).length 1).isEmpty) = (cutT y x).isSome := by
  rcases occ_first1 x y with ⟨h1, h2⟩ | ⟨p, r, h1, h2⟩
  · rw [h1, h2]; rfl
  · rw [h1, h2]; rfl
theorem part_eq (x y : Tx) : Txt.partition (st x) (st y) = (st (partT y x).1, st (partT y x).2.1, st (partT y x).2.2) := by
  unfold Txt.partition partT
  rcases occ_first1 x y with ⟨h1, h2⟩ | ⟨p, r, h1, h2⟩
  · rw [h1, h2]; rfl
  · rw [h1, h2]
    obtain ⟨g1, _⟩ := cut_some h1
    show (strSub (st x) 0 p.1.length, st y, strSub (st x) (p.1.length + (st y).length) (st x).length) = (st p.1, st y, st p.2)
    rw [sub_toList, sub_toList, st_len, st_len]
    have e1 : (x.drop 0).take (p.1.length - 0) = p.1 := by
      rw [List.drop_zero, Nat.sub_zero]
      conv => lhs; rw [g1]
      rw [List.append_assoc, List.take_left]
    have e2 : (x.drop (p.1.length + y.length)).take (x.length - (p.1.length + y.length)) = p.2 := by
      rw [List.take_of_length_le (by simp)]
      conv => lhs; rw [g1]
      rw [← List.length_append, List.drop_left]
    rw [e1, e2]
theorem parts_all (x y : Tx) (hw : 1 ≤ y.length) : Builtin.Str.partsBetween (st x) (occurrences (st x) (st y) 0 (st x).length ((st x).length + 1)) (st y).length = (splitT y x).map st := by
  obtain ⟨f, h1, h2⟩ := PySem.StrLaws.occ_tight (st x) (st y) (by rw [st_len]; exact hw)
  have := chain_split hw _ 0 f (x.length + 1) (Nat.zero_le _) (by omega) h1 h2
  rw [List.drop_zero] at this
  exact this
theorem split_eq (x y : Tx) (hw : 1 ≤ y.length) (hy : y.all (fun c => decide (c < 256)) = true) : Txt.split (st x) (st y) = (splitT y x).map st := by
  have hp := parts_all x y hw
  unfold Txt.split
  have hk : Builtin.Str.strKind (st y) = 1 := by
    unfold Builtin.Str.strKind
    have : (st y).cps.all (· < 256) = true := by simpa [st] using hy
    rw [if_pos this]
  have hk2 : decide (Builtin.Str.strKind (st x) < Builtin.Str.strKind (st y)) = false := by
    rw [hk]
    apply decide_eq_false
    unfold Builtin.Str.strKind
    split <;> (try split) <;> omega
  rw [hk2, Bool.or_false]
  have one : occurrences (st x) (st y) 0 (st x).length ((st x).length + 1) = [] → [st x] = (splitT y x).map st := fun e => by
    rw [e] at hp
    rw [← hp]
    show [st x] = [strSub (st x) 0 (st x).length]
    rw [sub_toList, List.drop_zero, st_len, Nat.sub_zero, List.take_of_length_le (Nat.le_refl _)]
  split
  · rename_i h
    apply one
    have hl : (st x).length < (st y).length := of_decide_eq_true h
    obtain ⟨f, h1, _⟩ := PySem.StrLaws.occ_tight (st x) (st y) (by rw [st_len]; exact hw)
    cases q : occurrences (st x) (st y) 0 (st x).length ((st x).length + 1) with
    | nil => rfl
    | cons c r =>
      rw [q] at h1
      have := h1.2.1.1
      omega
  · split
    · rename_i h
      exact one (List.isEmpty_iff.mp h)
    · exact hp
theorem count_eq (x y : Tx) (hw : 1 ≤ y.length) : Txt.count (st x) (st y) = countT y x := by
  have hp := congrArg List.length (parts_all x y hw)
  unfold Txt.count countT
  rw [List.length_map] at hp
  rw [← hp]
  unfold Builtin.Str.partsBetween
  simp only [List.length_map, List.length_zip, List.length_cons, List.length_append, List.length_singleton, List.length_nil]
  congr 1
  omega
theorem join_eq (y : Tx) : ∀ xs : List Tx, Txt.join (st y) (xs.map st) = st (joinT y xs) := by
  intro xs
  show Builtin.Str.glued (st y) (xs.map st) = _
  rw [PySem.StrLaws.glued_eq_join]
  induction xs with
  | nil => rfl
  | cons x r ih =>
    cases r with
    | nil => rfl
    | cons z r =>
      show st x ++ st y ++ Str.join (st y) ((z :: r).map st) = st (x ++ y ++ joinT y (z :: r))
      rw [ih, st_app, st_app]
theorem splitN_ok {y : Tx} : ∀ {n : Nat} {x : Tx}, okT x → ∀ p ∈ splitN y n x, okT p
  | 0, x, h, p, hp => by
    have e : p = x := by simpa [splitN] using hp
    rw [e]; exact h
  | n + 1, x, h, p, hp => by
    unfold splitN at hp
    split at hp
    · have e : p = x := by simpa using hp
      rw [e]; exact h
    · rename_i q e
      obtain ⟨g1, _⟩ := cut_some e
      rw [g1] at h
      rcases List.mem_cons.mp hp with z | z
      · rw [z]; exact fun c hc => h c (by simp [hc])
      · exact splitN_ok (fun c hc => h c (by simp [hc])) p z
theorem splitN_len {y : Tx} : ∀ {n : Nat} {x : Tx}, ∀ p ∈ splitN y n x, p.length ≤ x.length
  | 0, x, p, hp => by
    have e : p = x := by simpa [splitN] using hp
    rw [e]; exact Nat.le_refl _
  | n + 1, x, p, hp => by
    unfold splitN at hp
    split at hp
    · have e : p = x := by simpa using hp
      rw [e]; exact Nat.le_refl _
    · rename_i q e
      have := cut_len e
      rcases List.mem_cons.mp hp with z | z
      · rw [z]; omega
      · have := splitN_len p z; omega
theorem joinT_ok {y : Tx} (hy : okT y) : ∀ {xs : List Tx}, (∀ x ∈ xs, okT x) → okT (joinT y xs)
  | [], _ => fun c hc => by simp [joinT] at hc
  | [x], h => h x (by simp)
  | x :: z :: r, h => by
    show okT (x ++ y ++ joinT y (z :: r))
    exact okT_app (okT_app (h x (by simp)) hy) (joinT_ok hy fun q hq => h q (by simp [hq]))
theorem joinT_len {y : Tx} : ∀ xs : List Tx, (joinT y xs).length ≤ (xs.map List.length).sum + xs.length * y.length
  | [] => by simp [joinT]
  | [x] => by simp [joinT]
  | x :: z :: r => by
    have := joinT_len (y := y) (z :: r)
    show (x ++ y ++ joinT y (z :: r)).length ≤ _
    simp only [List.length_append, List.map_cons, List.sum_cons, List.length_cons, Nat.succ_mul] at this ⊢
    omega
end DL
set_option Elab.async false
set_option linter.all false
set_option maxRecDepth 100000
set_option maxHeartbeats 2000000
namespace DL
open PySem PySem.Spec PyProof.Rows L2
/-! ### == -/
mutual
def deq : D → D → Bool
  | .non, .non => true
  | .bl a, .bl b => a == b
  | .bl a, .int j => (if a then 1 else 0) == j
  | .int i, .bl b => i == (if b then 1 else 0)
  | .int i, .int j => i == j
  | .str x, .str y => decide (x = y)
  | .lst xs, .lst ys => deqL xs ys
  | .tup xs, .tup ys => deqL xs ys
  | _, _ => false
def deqL : List D → List D → Bool
  | [], [] => true
  | x :: xs, y :: ys => deq x y && deqL xs ys
  | _, _ => false
end
mutual
def dPy : D → PyData
  | .non => .none
  | .bl a => .bool a
  | .int i => .int i
  | .str x => .str (st x)
  | .lst xs => .list (dPyL xs)
  | .tup xs => .tuple (dPyL xs)
  | _ => .dict []
def dPyL : List D → List PyData
  | [] => []
  | x :: xs => dPy x :: dPyL xs
end
theorem st_inj {x y : Tx} : st x = st y ↔ x = y := by
  constructor
  · intro h
    have := congrArg (fun s : Str => s.cps.toList) h
    simpa [st] using this
  · intro h; rw [h]
mutual
theorem eqv_deq : ∀ x y : D, PyData.eqv (dPy x) (dPy y) = deq x y
  | .non, y => by cases y <;> simp [dPy, deq, PyData.eqv]
  | .bl a, y => by cases y <;> simp [dPy, deq, PyData.eqv]
  | .int i, y => by cases y <;> simp [dPy, deq, PyData.eqv]
  | .str x, y => by
    cases y <;> simp [dPy, deq, PyData.eqv]
    rename_i z
    by_cases h : x = z
    · subst h; simp
    · have : st x ≠ st z := fun e => h (st_inj.mp e)
      simp [h, this]
  | .lst xs, y => by
    cases y <;> simp [dPy, deq, PyData.eqv]
    exact eqv_deqL xs _
  | .tup xs, y => by
    cases y <;> simp [dPy, deq, PyData.eqv]
    exact eqv_deqL xs _
  | .rol xs, y => by cases y <;> simp [dPy, deq, PyData.eqv]
  | .dic xs, y => by cases y <;> simp [dPy, deq, PyData.eqv]
  | .obj c xs, y => by cases y <;> simp [dPy, deq, PyData.eqv]
  | .ref a, y => by cases y <;> simp [dPy, deq, PyData.eqv]
theorem eqv_deqL : ∀ x y : List D, PyData.eqvAll (dPyL x) (dPyL y) = deqL x y
  | [], [] => by simp [dPyL, deqL, PyData.eqvAll]
  | [], _ :: _ => by simp [dPyL, deqL, PyData.eqvAll]
  | _ :: _, [] => by simp [dPyL, deqL, PyData.eqvAll]
  | x :: xs, y :: ys => by
    simp only [dPyL, deqL, PyData.eqvAll]
    rw [eqv_deq x y, eqv_deqL xs ys]
end
/-- data whose == is asked: no dicts, no objects, not too deep -/
def shD : Nat → D → Bool
  | _, .non => true
  | _, .bl _ => true
  | _, .int _ => true
  | _, .str _ => true
  | n + 1, .lst xs => xs.all (shD n)
  | n + 1, .tup xs => xs.all (shD n)
  | _, _ => false
section
variable {T : Tb} {F : Fz} {H : Hp}
theorem depthAll_le {n : Nat} : ∀ {xs : List PyData}, (∀ x ∈ xs, x.depth ≤ n) → PyData.depthAll xs ≤ n
  | [], _ => by simp [PyData.depthAll]
  | x :: xs, h => by
    have h1 := h x (by simp)
    have h2 := depthAll_le (n := n) (xs := xs) fun y hy => h y (by simp [hy])
    simp only [PyData.depthAll]; omega
theorem canLayAll_of : ∀ {xs : List PyData}, (∀ x ∈ xs, x.canLay0 = true) → PyData.canLayAll0 xs = true
  | [], _ => by simp [PyData.canLayAll0]
  | x :: xs, h => by
    simp only [PyData.canLayAll0, Bool.and_eq_true]
    exact ⟨h x (by simp), canLayAll_of fun y hy => h y (by simp [hy])⟩
theorem dp_list {n : Nat} (ih : ∀ {d : D} {v : V}, shD n d = true → rep T F H d v → Dp T.K H v (dPy d) ∧ (dPy d).canLay0 = true ∧ (dPy d).depth ≤ n) :
    ∀ {xs : List D} {vs : List V}, xs.all (shD n) = true → repL T F H xs vs → DpAll T.K H vs (dPyL xs) ∧ (∀ x ∈ dPyL xs, x.canLay0 = true) ∧ (∀ x ∈ dPyL xs, x.depth ≤ n)
  | [], vs, _, r => by
    rw [repL_nil r]
    exact ⟨.nil, by simp [dPyL], by simp [dPyL]⟩
  | d :: ds, vs, h, r => by
    obtain ⟨v, vr, e, r1, r2⟩ := repL_cons r
    subst e
    simp only [List.all_cons, Bool.and_eq_true] at h
    obtain ⟨a1, a2, a3⟩ := ih h.1 r1
    obtain ⟨b1, b2, b3⟩ := dp_list ih h.2 r2
    simp only [dPyL, List.mem_cons, forall_eq_or_imp]
    exact ⟨.cons a1 b1, ⟨a2, b2⟩, ⟨a3, b3⟩⟩
theorem strOk_st {x : Tx} (o : okT x) : PyData.strOk (st x) = true := by
  simp [st, PyData.strOk]
  exact o
theorem dp_of : ∀ {n : Nat} {d : D} {v : V}, shD n d = true → rep T F H d v → Dp T.K H v (dPy d) ∧ (dPy d).canLay0 = true ∧ (dPy d).depth ≤ n := by
  intro n
  induction n with
  | zero =>
    intro d v h r
    cases d with
    | non => rw [rep_non r]; exact ⟨.non, by simp [dPy, PyData.canLay0], by simp [dPy, PyData.depth]⟩
    | bl b => rw [rep_bl r]; exact ⟨.bl b, by simp [dPy, PyData.canLay0], by simp [dPy, PyData.depth]⟩
    | int b => rw [rep_int r]; exact ⟨.int b, by simp [dPy, PyData.canLay0], by simp [dPy, PyData.depth]⟩
    | str x =>
      obtain ⟨e, _, o⟩ := rep_str r
      rw [e]
      exact ⟨.str _, by simp only [dPy, PyData.canLay0]; exact strOk_st o, by simp [dPy, PyData.depth]⟩
    | _ => cases h
  | succ n ih =>
    intro d v h r
    cases d with
    | non => rw [rep_non r]; exact ⟨.non, by simp [dPy, PyData.canLay0], by simp [dPy, PyData.depth]⟩
    | bl b => rw [rep_bl r]; exact ⟨.bl b, by simp [dPy, PyData.canLay0], by simp [dPy, PyData.depth]⟩
    | int b => rw [rep_int r]; exact ⟨.int b, by simp [dPy, PyData.canLay0], by simp [dPy, PyData.depth]⟩
    | str x =>
      obtain ⟨e, _, o⟩ := rep_str r
      rw [e]
      exact ⟨.str _, by simp only [dPy, PyData.canLay0]; exact strOk_st o, by simp [dPy, PyData.depth]⟩
    | lst xs =>
      obtain ⟨a, vs, rfl, _, h1, h2⟩ := rep_lst r
      obtain ⟨b1, b2, b3⟩ := dp_list ih (show xs.all (shD n) = true from h) h2
      refine ⟨.lst (SqL.of h1) b1, ?_, ?_⟩
      · simp only [dPy, PyData.canLay0]; exact canLayAll_of b2
      · have := depthAll_le b3
        simp only [dPy, PyData.depth]; omega
    | tup xs =>
      obtain ⟨a, vs, rfl, h1, h2⟩ := rep_tup r
      obtain ⟨b1, b2, b3⟩ := dp_list ih (show xs.all (shD n) = true from h) h2
      refine ⟨.tup h1 b1, ?_, ?_⟩
      · simp only [dPy, PyData.canLay0]; exact canLayAll_of b2
      · have := depthAll_le b3
        simp only [dPy, PyData.depth]; omega
    | rol xs => cases h
    | dic xs => cases h
    | obj c xs => cases h
    | ref a => cases h
end
/-- the same of what is tracked -/
theorem dp_view {T : Tb} {S : Sw} (R : Rh T S) {d : D} {v : V} (r : rep T S.fz S.hp d v) (h : shD 60 (view S.hd d) = true) : Dp T.K S.hp v (dPy (view S.hd d)) ∧ SeqAt.shaped (dPy (view S.hd d)) = true := by
  have key : Dp T.K S.hp v (dPy (view S.hd d)) ∧ (dPy (view S.hd d)).canLay0 = true ∧ (dPy (view S.hd d)).depth ≤ 60 := by
    rcases view_cases R r with e | ⟨a, o, e1, e2, e3, e4, e5⟩
    · rw [e] at h ⊢; exact dp_of h r
    · cases o with
      | lst xs =>
        simp only at e5
        rw [e5] at h ⊢
        obtain ⟨vs, h1, h2⟩ := e4
        rw [e2]
        obtain ⟨b1, b2, b3⟩ := dp_list (n := 59) (fun {d v} => dp_of) (show xs.all (shD 59) = true from h) h2
        refine ⟨.lst (SqL.of h1) b1, ?_, ?_⟩
        · simp only [dPy, PyData.canLay0]; exact canLayAll_of b2
        · have := depthAll_le b3
          simp only [dPy, PyData.depth]; omega
      | dic k => simp only at e5; rw [e5] at h; cases h
      | ins c f => simp only at e5; rw [e5] at h; cases h
  refine ⟨key.1, ?_⟩
  unfold SeqAt.shaped
  rw [key.2.1, Bool.true_and]
  exact decide_eq_true (by have := key.2.2; omega)
def oEq (neg : Bool) : DOp
  | hd, [x, y], Q => (shD 60 (view hd x) && shD 60 (view hd y)) = true ∧ Q (.v (.bl (xor neg (deq (view hd x) (view hd y))))) hd
  | _, _, _ => False
/-! ### dicts -/
def dget (kvs : List (DK × D)) (k : DK) : Option D := (kvs.find? fun p => decide (p.1 = k)).map (·.2)
def dput (kvs : List (DK × D)) (k : DK) (v : D) : List (DK × D) :=
  if (kvs.any fun p => decide (p.1 = k)) = true then kvs.map (fun p => if p.1 = k then (p.1, v) else p) else kvs ++ [(k, v)]
def dkOf : D → Option DK
  | .int i => some (.i i)
  | .str x => some (.s x)
  | _ => none
def dmerge (kvs more : List (DK × D)) : List (DK × D) := more.foldl (fun acc p => dput acc p.1 p.2) kvs
theorem dkK_inj {a b : DK} : dkK a = dkK b ↔ a = b := by
  constructor
  · intro h
    cases a with
    | i n => cases b with
      | i m => injection h with h; rw [h]
      | s y => cases h
    | s x => cases b with
      | i m => cases h
      | s y => injection h with h; rw [st_inj.mp h]
  · intro h; rw [h]
section
variable {T : Tb} {F : Fz} {H : Hp}
theorem dkOf_rep {d : D} {k : DK} {v : V} (h : dkOf d = some k) (r : rep T F H d v) : v = kV (dkK k) := by
  cases d with
  | int i => cases h; exact rep_int r
  | str x => cases h; exact (rep_str r).1
  | _ => cases h
theorem repK_cons {k : DK} {d : D} {ds : List (DK × D)} {vs : List (Key × V)} (h : repK T F H ((k, d) :: ds) vs) : ∃ v r, vs = (dkK k, v) :: r ∧ rep T F H d v ∧ repK T F H ds r := by unfold repK at h; obtain ⟨v, r, e, h1, _, h2⟩ := h; exact ⟨v, r, e, h1, h2⟩
theorem repK_ok {k : DK} {d : D} {ds : List (DK × D)} {vs : List (Key × V)} (h : repK T F H ((k, d) :: ds) vs) : okK k := by unfold repK at h; obtain ⟨v, r, e, h1, h2, _⟩ := h; exact h2
theorem dkOf_ok {d : D} {k : DK} {v : V} (h : dkOf d = some k) (r : rep T F H d v) : okK k := by
  cases d with
  | int i => cases h; trivial
  | str x => cases h; exact (rep_str r).2
  | _ => cases h
theorem repK_nil {vs : List (Key × V)} (h : repK T F H [] vs) : vs = [] := by unfold repK at h; exact h
theorem repK_mk {k : DK} {d : D} {ds : List (DK × D)} {v : V} {vs : List (Key × V)} (h : rep T F H d v) (ok : okK k) (r : repK T F H ds vs) : repK T F H ((k, d) :: ds) ((dkK k, v) :: vs) := by unfold repK; exact ⟨v, vs, rfl, h, ok, r⟩
theorem repK_mk0 : repK T F H [] [] := by unfold repK; rfl
theorem repK_get (k : DK) : ∀ {ds : List (DK × D)} {vs : List (Key × V)}, repK T F H ds vs →
    (dget ds k = none ∧ valV vs (dkK k) = none) ∨ ∃ d v, dget ds k = some d ∧ valV vs (dkK k) = some v ∧ rep T F H d v
  | [], vs, h => by rw [repK_nil h]; exact .inl ⟨rfl, rfl⟩
  | (q, d) :: ds, vs, h => by
    obtain ⟨v, r, e, h1, h2⟩ := repK_cons h
    subst e
    by_cases hq : q = k
    · subst hq
      exact .inr ⟨d, v, by simp [dget, List.find?_cons], by simp [valV, List.find?_cons], h1⟩
    · have hq2 : ¬ dkK q = dkK k := fun z => hq (dkK_inj.mp z)
      have e1 : dget ((q, d) :: ds) k = dget ds k := by simp [dget, List.find?_cons, hq]
      have e2 : valV ((dkK q, v) :: r) (dkK k) = valV r (dkK k) := by simp [valV, List.find?_cons, hq2]
      rw [e1, e2]
      exact repK_get k h2
theorem repK_any (k : DK) : ∀ {ds : List (DK × D)} {vs : List (Key × V)}, repK T F H ds vs → (ds.any fun p => decide (p.1 = k)) = vs.any fun p => decide (p.1 = dkK k)
  | [], vs, h => by rw [repK_nil h]; rfl
  | (q, d) :: ds, vs, h => by
    obtain ⟨v, r, e, h1, h2⟩ := repK_cons h
    subst e
    rw [List.any_cons, List.any_cons, repK_any k h2]
    by_cases hq : q = k
    · subst hq; simp
    · have hq2 : ¬ dkK q = dkK k := fun z => hq (dkK_inj.mp z)
      simp [hq, hq2]
theorem repK_map {k : DK} {d : D} {v : V} (q : rep T F H d v) : ∀ {ds : List (DK × D)} {vs : List (Key × V)}, repK T F H ds vs →
    repK T F H (ds.map fun p => if p.1 = k then (p.1, d) else p) (vs.map fun p => if p.1 = dkK k then (p.1, v) else p)
  | [], vs, h => by rw [repK_nil h]; exact repK_mk0
  | (j, e) :: ds, vs, h => by
    have ok := repK_ok h
    obtain ⟨w, r, ee, h1, h2⟩ := repK_cons h
    subst ee
    rw [List.map_cons, List.map_cons]
    by_cases hq : j = k
    · subst hq; rw [if_pos rfl, if_pos rfl]; exact repK_mk q ok (repK_map q h2)
    · have hq2 : ¬ dkK j = dkK k := fun z => hq (dkK_inj.mp z)
      rw [if_neg hq, if_neg hq2]; exact repK_mk h1 ok (repK_map q h2)
theorem repK_app {k : DK} {d : D} {v : V} (q : rep T F H d v) (okk : okK k) : ∀ {ds : List (DK × D)} {vs : List (Key × V)}, repK T F H ds vs → repK T F H (ds ++ [(k, d)]) (vs ++ [(dkK k, v)])
  | [], vs, h => by rw [repK_nil h]; exact repK_mk q okk repK_mk0
  | (j, e) :: ds, vs, h => by
    have ok := repK_ok h
    obtain ⟨w, r, ee, h1, h2⟩ := repK_cons h
    subst ee
    exact repK_mk h1 ok (repK_app q okk h2)
theorem repK_put {k : DK} {d : D} {v : V} (q : rep T F H d v) (okk : okK k) {ds : List (DK × D)} {vs : List (Key × V)} (h : repK T F H ds vs) : repK T F H (dput ds k d) (putK vs (dkK k) v) := by
  unfold dput putK
  rw [repK_any k h]
  split
  · exact repK_map q h
  · exact repK_app q okk h
theorem repK_merge : ∀ {more : List (DK × D)} {ms : List (Key × V)} {ds : List (DK × D)} {vs : List (Key × V)}, repK T F H more ms → repK T F H ds vs → repK T F H (dmerge ds more) (mergeK vs ms)
  | [], ms, ds, vs, h, r => by rw [repK_nil h]; exact r
  | (k, d) :: more, ms, ds, vs, h, r => by
    have ok := repK_ok h
    obtain ⟨w, ws, e, h1, h2⟩ := repK_cons h
    subst e
    show repK T F H (dmerge (dput ds k d) more) (mergeK (putK vs (dkK k) w) ws)
    exact repK_merge (more := more) h2 (repK_put h1 ok r)
end
def asPair : D → Option (DK × D)
  | .tup [k, v] => (dkOf k).map fun q => (q, v)
  | _ => none
def asPairs : List D → Option (List (DK × D))
  | [] => some []
  | d :: ds => match asPair d, asPairs ds with
    | some p, some r => some (p :: r)
    | _, _ => none
/-- dict(pairs) -/
def oDicOf : DOp
  | hd, [x], Q => match view hd x with
    | .lst a => match asPairs a with
      | some kvs => Q (.nd (dmerge [] kvs)) hd
      | none => False
    | _ => False
  | _, _, _ => False
/-! ### in -/
def flD : D → Bool
  | .non => true
  | .bl _ => true
  | .int _ => true
  | .str _ => true
  | _ => false
def oIn (neg : Bool) : DOp
  | hd, [x, y], Q => match view hd y with
    | .lst ys => (shD 60 x && ys.all (shD 59)) = true ∧ Q (.v (.bl (xor neg (ys.any fun z => deq z x)))) hd
    | .tup ys => (flD x && ys.all flD) = true ∧ Q (.v (.bl (xor neg (ys.any fun z => deq z x)))) hd
    | .dic kvs => match dkOf x with
      | some k => Q (.v (.bl (xor neg (dget kvs k).isSome))) hd
      | none => False
    | .str b => match x with
      | .str a => Q (.v (.bl (xor neg (cutT a b).isSome))) hd
      | _ => False
    | _ => False
  | _, _, _ => False
/-- x[y], a dict too -/
def oIdxA : DOp
  | hd, [x, y], Q => match view hd x with
    | .dic kvs => match dkOf y with
      | some k => match dget kvs k with
        | some d => Q (.v d) hd
        | none => False
      | none => False
    | _ => oIdx hd [x, y] Q
  | _, _, _ => False
/-! ### texts -/
def sepOk (y : Tx) : Bool := decide (1 ≤ y.length) && y.all (fun c => decide (c < 256))
def oSplit : DOp
  | hd, [x, y], Q => match x, y with
    | .str a, .str b => sepOk b = true ∧ a.length + 2 ≤ 16777216 ∧ Q (.nl ((splitT b a).map .str)) hd
    | _, _ => False
  | _, _, _ => False
def oPart : DOp
  | hd, [x, y], Q => match x, y with
    | .str a, .str b => sepOk b = true ∧ Q (.v (.tup [.str (partT b a).1, .str (partT b a).2.1, .str (partT b a).2.2])) hd
    | _, _ => False
  | _, _, _ => False
def asStr : D → Option Tx
  | .str x => some x
  | _ => none
def asStrs : List D → Option (List Tx)
  | [] => some []
  | d :: ds => match asStr d, asStrs ds with
    | some x, some r => some (x :: r)
    | _, _ => none
def oJoin : DOp
  | hd, [x, y], Q => match x with
    | .str a => match view hd y with
      | .lst ys => match asStrs ys with
        | some xs => (xs.map List.length).sum + xs.length * a.length ≤ 16777216 ∧ Q (.v (.str (joinT a xs))) hd
        | none => False
      | .tup ys => match asStrs ys with
        | some xs => (xs.map List.length).sum + xs.length * a.length ≤ 16777216 ∧ Q (.v (.str (joinT a xs))) hd
        | none => False
      | _ => False
    | _ => False
  | _, _, _ => False
def oFind : DOp
  | hd, [x, y], Q => match x, y with
    | .str a, .str b => Q (.v (.int (findT b a))) hd
    | _, _ => False
  | _, _, _ => False
def oCountT : DOp
  | hd, [x, y], Q => match x, y with
    | .str a, .str b => 1 ≤ b.length ∧ Q (.v (.int (countT b a))) hd
    | _, _ => False
  | _, _, _ => False
/-! ### what is written -/
def oAppend : DOp
  | hd, [x, y], Q => match x with
    | .ref p => match hd p with
      | some (.lst xs) => xs.length < 16777216 ∧ Q (.v .non) (put hd p (.lst (xs ++ [y])))
      | _ => False
    | _ => False
  | _, _, _ => False
def oExtend : DOp
  | hd, [x, y], Q => match x with
    | .ref p => match hd p with
      | some (.lst xs) => match view hd y with
        | .lst ys => xs.length + ys.length ≤ 16777216 ∧ Q (.v .non) (put hd p (.lst (xs ++ ys)))
        | _ => False
      | _ => False
    | _ => False
  | _, _, _ => False
def oPop : DOp
  | hd, [x], Q => match x with
    | .ref p => match hd p with
      | some (.lst xs) => match xs[xs.length - 1]? with
        | some y => Q (.v y) (put hd p (.lst xs.dropLast))
        | none => False
      | _ => False
    | _ => False
  | _, _, _ => False
def oInsert : DOp
  | hd, [x, i, y], Q => match x, i with
    | .ref p, .int k => match hd p with
      | some (.lst xs) => xs.length < 16777216 ∧ 0 ≤ k ∧ k < 2 ^ 63 ∧ Q (.v .non) (put hd p (.lst (xs.take k.toNat ++ [y] ++ xs.drop k.toNat)))
      | _ => False
    | _, _ => False
  | _, _, _ => False
/-! ### types -/
def tagD : D → Option TyT
  | .non => some .non
  | .bl _ => some .bl
  | .int _ => some .int
  | .str _ => some .str
  | .tup _ => some .tup
  | .lst _ => some .lst
  | .dic _ => some .dic
  | .obj c _ => some (.cls c)
  | _ => none
def oIsIn (T : Tb) (k : TyT) : DOp
  | hd, [x], Q => match tagD (view hd x) with
    | some t => match T.kc t k with
      | some b => Q (.v (.bl b)) hd
      | none => False
    | none => False
  | _, _, _ => False
/-! ### all, any, max, min, str of ints -/
def asBl : D → Option Bool
  | .bl b => some b
  | _ => none
def asBls : List D → Option (List Bool)
  | [] => some []
  | d :: ds => match asBl d, asBls ds with
    | some x, some r => some (x :: r)
    | _, _ => none
def oAll : DOp
  | hd, [x], Q => match view hd x with
    | .lst a => match asBls a with
      | some bs => Q (.v (.bl (bs.all id))) hd
      | none => False
    | _ => False
  | _, _, _ => False
def oAny : DOp
  | hd, [x], Q => match view hd x with
    | .lst a => match asBls a with
      | some bs => Q (.v (.bl (bs.any id))) hd
      | none => False
    | _ => False
  | _, _, _ => False
def oMax2 : DOp
  | hd, [x, y], Q => match view hd x, view hd y with
    | .int i, .int j => Q (.v (.int (if j > i then j else i))) hd
    | _, _ => False
  | _, _, _ => False
def oMin2 : DOp
  | hd, [x, y], Q => match view hd x, view hd y with
    | .int i, .int j => Q (.v (.int (if j < i then j else i))) hd
    | _, _ => False
  | _, _, _ => False
end DL
set_option Elab.async false
set_option linter.all false
set_option maxRecDepth 100000
set_option maxHeartbeats 2000000
namespace DL
open PySem PySem.Spec PyProof.Rows L2
def tyV' (T : Tb) : TyT → Value
  | .non => .type "NoneType"
  | .bl => .type "bool"
  | .int => .type "int"
  | .str => .type "str"
  | .tup => .type "tuple"
  | .lst => .type "list"
  | .dic => .type "dict"
  | .cls c => .ref (T.ca c)
section
variable {T : Tb} {S S' : Sw} {X : Cx}
def Sw.put (S : Sw) (a : Addr) (o : DO) (u : HO) : Sw := ⟨DL.put S.hd a o, S.fz, upd S.hp a u⟩
theorem Stp.put {a : Addr} {o o' : DO} {u : HO} (h : S.hd a = some o) : Stp S (S.put a o' u) :=
  ⟨fun _ z => z, fun b w e n => by
    have ne : b ≠ a := fun z => by rw [z, h] at n; cases n
    exact ⟨w, (upd_ne ne).trans e, fun _ => rfl, fun z => z, (put_ne ne).trans n, fun z => z⟩⟩
theorem Rh.put (R : Rh T S) {a : Addr} {o o' : DO} {u : HO} (h : S.hd a = some o) (q : repO T (S.put a o' u) a o') : Rh T (S.put a o' u) := by
  have s : Stp S (S.put a o' u) := Stp.put h
  refine ⟨fun b w e => ?_, fun b z => ?_⟩
  · by_cases hb : b = a
    · subst hb
      have e' : DL.put S.hd b o' b = some w := e
      rw [put_same] at e'
      cases e'
      exact ⟨q, (R.at_ b o h).2⟩
    · have e' : S.hd b = some w := (put_ne hb).symm.trans e
      obtain ⟨q1, nf⟩ := R.at_ b w e'
      exact ⟨q1.stp R s (upd_ne hb), nf⟩
  · obtain ⟨n, w, ew, nt⟩ := R.fzs b z
    have ne : b ≠ a := fun y => by rw [y, h] at n; cases n
    exact ⟨(put_ne ne).trans n, w, (upd_ne ne).trans ew, nt⟩
/-- a list that is tracked, written -/
theorem done_put {a : Addr} {xs ys : List D} {ws : List V} (R : Rh T S) (h : S.hd a = some (.lst xs)) (r : repL T S.fz S.hp ys ws) {d : D} {v : V} (rd : rep T S.fz S.hp d v) {Qd : EV → Hd → Prop} {Q : VK} (q : Qd (.v d) (DL.put S.hd a (.lst ys)))
    (k : ∀ ev S' v, Stp S S' → Rh T S' → repE T S S' ev v → Qd ev S'.hd → Q v S'.hp) : Q v (upd S.hp a (.lst ws)) := by
  have s : Stp S (S.put a (.lst ys) (.lst ws)) := Stp.put h
  exact k (.v d) (S.put a (.lst ys) (.lst ws)) v s (R.put h ⟨ws, upd_same, r.stp R s⟩) (rd.stp R s) q
theorem serves_eq (hK : X.K = T.K) : Serves T (r2 (rEqD X.K)) (oEq false) := by
  intro S ds vs Qd Q R r h k
  unfold oEq at h
  split at h
  · rename_i x y _
    obtain ⟨v, w, rfl, rx, ry⟩ := repL_2 r
    refine ⟨v, w, rfl, ?_⟩
    simp only [Bool.and_eq_true] at h
    obtain ⟨⟨h1, h2⟩, h3⟩ := h
    obtain ⟨a1, a2⟩ := dp_view R rx h1
    obtain ⟨b1, b2⟩ := dp_view R ry h2
    rw [hK]
    refine ⟨_, _, a1, b1, a2, b2, ?_⟩
    rw [eqv_deq]
    rw [Bool.false_xor] at h3
    exact done_v R mk_bl h3 k
  · exact h.elim
theorem serves_ne (hK : X.K = T.K) : Serves T (r2 (rNeD X.K)) (oEq true) := by
  intro S ds vs Qd Q R r h k
  unfold oEq at h
  split at h
  · rename_i x y _
    obtain ⟨v, w, rfl, rx, ry⟩ := repL_2 r
    refine ⟨v, w, rfl, ?_⟩
    simp only [Bool.and_eq_true] at h
    obtain ⟨⟨h1, h2⟩, h3⟩ := h
    obtain ⟨a1, a2⟩ := dp_view R rx h1
    obtain ⟨b1, b2⟩ := dp_view R ry h2
    rw [hK]
    refine ⟨_, _, a1, b1, a2, b2, ?_⟩
    rw [eqv_deq]
    rw [Bool.true_xor] at h3
    exact done_v R mk_bl h3 k
  · exact h.elim
theorem asPairs_rep {F : Fz} {H : Hp} : ∀ {ds : List D} {kvs : List (DK × D)} {vs : List V}, asPairs ds = some kvs → repL T F H ds vs →
    ∃ (ps : List Addr) (gs : List (Key × V)), vs = ps.map V.ref ∧ Paired (fun p kv => SqT T.K H p [kV kv.1, kv.2]) ps gs ∧ repK T F H kvs gs
  | [], kvs, vs, h, r => by
    cases h
    exact ⟨[], [], repL_nil r, .nil, repK_mk0⟩
  | d :: ds, kvs, vs, h, r => by
    obtain ⟨v, vr, e, r1, r2⟩ := repL_cons r
    subst e
    unfold asPairs at h
    split at h
    · rename_i p q e1 e2
      cases h
      obtain ⟨ps, gs, e3, h3, h4⟩ := asPairs_rep e2 r2
      unfold asPair at e1
      split at e1
      · rename_i kd dd
        cases hk : dkOf kd with
        | none => rw [hk] at e1; cases e1
        | some kk =>
          rw [hk] at e1
          cases e1
          obtain ⟨a, ws, e4, h5, h6⟩ := rep_tup r1
          obtain ⟨w1, w2, e5, h7, h8⟩ := repL_2 h6
          subst e4 e5 e3
          rw [dkOf_rep hk h7] at h5
          exact ⟨a :: ps, (dkK kk, w2) :: gs, rfl, .cons h5 h3, repK_mk h8 (dkOf_ok hk h7) h4⟩
      · cases e1
    · cases h
theorem serves_dicOf (hK : X.K = T.K) : Serves T (fun xs H Q => ∃ (a : Addr) (ps : List Addr) (kvs : List (Key × V)), xs = [.ref a] ∧ SqL X.K H a (ps.map V.ref) ∧ Paired (fun p kv => SqT X.K H p [kV kv.1, kv.2]) ps kvs ∧
    ∀ p, H p = none → Q (.ref p) (upd H p (.dK (mergeK [] kvs)))) oDicOf := by
  intro S ds vs Qd Q R r h k
  unfold oDicOf at h
  split at h
  · obtain ⟨v, rfl, rx⟩ := repL_1 r
    split at h
    · rename_i a ea
      obtain ⟨p, xs, rfl, h2, h3⟩ := view_lst R rx ea
      split at h
      · rename_i kvs ek
        obtain ⟨ps, gs, e1, e2, e3⟩ := asPairs_rep ek h3
        subst e1
        rw [hK]
        refine ⟨p, ps, gs, rfl, SqL.of h2, e2, fun q hq => ?_⟩
        exact k (.nd (dmerge [] kvs)) (S.new q (.dK (mergeK [] gs))) (.ref q) (Stp.new hq) (R.new hq) ⟨q, _, rfl, Sw.new_at, (repK_merge e3 repK_mk0).stp R (Stp.new hq), Fresh.new R hq⟩ h
      · exact h.elim
    · exact h.elim
  · exact h.elim
theorem flD_rep {F : Fz} {H : Hp} {d : D} {v : V} (h : flD d = true) (r : rep T F H d v) : flatV v = true ∧ ∀ e w, flD e = true → rep T F H e w → eqV v w = deq d e := by
  cases d with
  | non =>
    rw [rep_non r]
    refine ⟨rfl, fun e w he re => ?_⟩
    cases e with
    | non => rw [rep_non re]; rfl
    | bl b => rw [rep_bl re]; rfl
    | int b => rw [rep_int re]; rfl
    | str b => rw [(rep_str re).1]; rfl
    | _ => cases he
  | bl a =>
    rw [rep_bl r]
    refine ⟨rfl, fun e w he re => ?_⟩
    cases e with
    | non => rw [rep_non re]; rfl
    | bl b => rw [rep_bl re]; simp [eqV, deq]
    | int b => rw [rep_int re]; simp [eqV, deq]
    | str b => rw [(rep_str re).1]; rfl
    | _ => cases he
  | int a =>
    rw [rep_int r]
    refine ⟨rfl, fun e w he re => ?_⟩
    cases e with
    | non => rw [rep_non re]; rfl
    | bl b => rw [rep_bl re]; simp [eqV, deq]
    | int b => rw [rep_int re]; simp [eqV, deq]
    | str b => rw [(rep_str re).1]; rfl
    | _ => cases he
  | str a =>
    rw [(rep_str r).1]
    refine ⟨rfl, fun e w he re => ?_⟩
    cases e with
    | non => rw [rep_non re]; rfl
    | bl b => rw [rep_bl re]; rfl
    | int b => rw [rep_int re]; rfl
    | str b =>
      rw [(rep_str re).1]
      simp only [eqV, deq]
      by_cases q : a = b
      · subst q; simp
      · have : st a ≠ st b := fun z => q (st_inj.mp z)
        simp [q, this]
    | _ => cases he
  | _ => cases h
theorem in_rep {F : Fz} {H : Hp} {d : D} {v : V} (hd : flD d = true) (r : rep T F H d v) : ∀ {ys : List D} {ws : List V}, ys.all flD = true → repL T F H ys ws → ws.all flatV = true ∧ inV v ws = ys.any fun z => deq z d
  | [], ws, _, h => by rw [repL_nil h]; exact ⟨rfl, rfl⟩
  | y :: ys, ws, ha, h => by
    obtain ⟨w, wr, e, h1, h2⟩ := repL_cons h
    subst e
    simp only [List.all_cons, Bool.and_eq_true] at ha
    obtain ⟨b1, b2⟩ := in_rep hd r ha.2 h2
    obtain ⟨c1, c2⟩ := flD_rep ha.1 h1
    refine ⟨by simp only [List.all_cons, Bool.and_eq_true]; exact ⟨c1, b1⟩, ?_⟩
    unfold inV at b2 ⊢
    rw [List.any_cons, List.any_cons, b2]
    rw [← c2 d v hd r]
theorem any_deq' {d : D} : ∀ {ys : List D}, ((dPyL ys).any fun z => PyData.eqv z (dPy d)) = ys.any fun z => deq z d
  | [] => rfl
  | y :: ys => by simp only [dPyL, List.any_cons]; rw [eqv_deq, any_deq']
def rInAll (K : PySem.W.Frag) (neg : Bool) : R2 := fun x y H Q => rIn K neg x y H Q ∨
  ((∃ i j, x = .str i ∧ y = .str j ∧ Q (.bl (xor neg (!(Builtin.Str.occurrences j i 0 j.length 1).isEmpty))) H) ∨ ((∃ a o, y = .ref a ∧ DGet H a x o ∧ Q (.bl (xor neg o.isSome)) H) ∨ (∃ d ds, Dp K H x d ∧ Dp K H y (.list ds) ∧ SeqAt.shaped d = true ∧ SeqAt.shaped (.list ds) = true ∧ Q (.bl (xor neg (ds.any fun z => PyData.eqv z d))) H)))
theorem serves_in (hK : X.K = T.K) (neg : Bool) : Serves T (r2 (rInAll X.K neg)) (oIn neg) := by
  intro S ds vs Qd Q R r h k
  have hx : ∀ b : Bool, (if neg = true then !b else b) = xor neg b := by intro b; cases neg <;> cases b <;> rfl
  unfold oIn at h
  split at h
  · rename_i x y _
    obtain ⟨v, w, rfl, rx, ry⟩ := repL_2 r
    refine ⟨v, w, rfl, ?_⟩
    unfold rInAll
    rw [hK]
    split at h
    · rename_i ys ey
      obtain ⟨p, xs, rfl, h2, h3⟩ := view_lst R ry ey
      simp only [Bool.and_eq_true] at h
      obtain ⟨c1, c2, c3⟩ := dp_of h.1.1 rx
      obtain ⟨b1, b2, b3⟩ := dp_list (n := 59) (fun {d v} => dp_of) h.1.2 h3
      refine .inr (.inr (.inr ⟨_, _, c1, .lst (SqL.of h2) b1, ?_, ?_, ?_⟩))
      · unfold SeqAt.shaped; rw [c2, Bool.true_and]; exact decide_eq_true (by omega)
      · unfold SeqAt.shaped
        have e1 : (PyData.list (dPyL ys)).canLay0 = true := by simp only [PyData.canLay0]; exact canLayAll_of b2
        rw [e1, Bool.true_and]
        have := depthAll_le b3
        exact decide_eq_true (by simp only [PyData.depth]; omega)
      · rw [any_deq']
        exact done_v R mk_bl h.2 k
    · rename_i ys ey
      obtain ⟨p, xs, rfl, h2, h3⟩ := view_tup R ry ey
      simp only [Bool.and_eq_true] at h
      obtain ⟨b1, b2⟩ := in_rep h.1.1 rx h.1.2 h3
      refine .inl ⟨p, xs, rfl, .inr h2, (flD_rep h.1.1 rx).1, b1, ?_⟩
      rw [hx, b2]
      exact done_v R mk_bl h.2 k
    · rename_i kvs ey
      obtain ⟨p, gs, rfl, h2, h3⟩ := view_dic R ry ey
      split at h
      · rename_i kk ek
        rw [dkOf_rep ek rx]
        refine .inr (.inr (.inl ⟨p, _, rfl, DGet.k h2, ?_⟩))
        rcases repK_get kk h3 with ⟨g1, g2⟩ | ⟨d, w, g1, g2, _⟩
        · rw [g2]; rw [g1] at h; exact done_v R mk_bl h k
        · rw [g2]; rw [g1] at h; exact done_v R mk_bl h k
      · exact h.elim
    · rename_i b ey
      obtain ⟨e1, _, _⟩ := view_str R ry ey
      split at h
      · rename_i a
        refine .inr (.inl ⟨st a, st b, (rep_str rx).1, e1, ?_⟩)
        rw [occ_in]
        exact done_v R mk_bl h k
      · exact h.elim
    · exact h.elim
  · exact h.elim
theorem strs_rep {F : Fz} {H : Hp} : ∀ {xs : List Tx}, (∀ x ∈ xs, x.length ≤ 16777216 ∧ okT x) → repL T F H (xs.map .str) ((xs.map st).map V.str)
  | [], _ => repL_mk0
  | x :: xs, h => repL_mk (mk_str (h x (by simp)).1 (h x (by simp)).2) (strs_rep fun y hy => h y (by simp [hy]))
theorem sepOk_iff {y : Tx} (h : sepOk y = true) : 1 ≤ y.length ∧ y.all (fun c => decide (c < 256)) = true := by
  simp only [sepOk, Bool.and_eq_true, decide_eq_true_eq] at h
  exact h
def rm (r : V → List V → Hp → VK → Prop) : List V → Hp → VK → Prop := fun vs H Q => ∃ x xs, vs = x :: xs ∧ r x xs H Q
theorem serves_split : Serves T (rm fun x xs H Q => ∃ a b, x = .str a ∧ xs = [.str b] ∧ (b.length == 0) = false ∧ a.length + 2 ≤ sizeLine ∧ rNewStrs (Txt.split a b) H Q) oSplit := by
  intro S ds vs Qd Q R r h k
  unfold oSplit at h
  split at h
  · obtain ⟨v, w, rfl, rx, ry⟩ := repL_2 r
    refine ⟨v, [w], rfl, ?_⟩
    split at h
    · rename_i a b
      obtain ⟨e1, l1, o1⟩ := rep_str rx
      obtain ⟨e2, l2, o2⟩ := rep_str ry
      obtain ⟨h1, h2⟩ := sepOk_iff h.1
      refine ⟨st a, st b, e1, by rw [e2], by rw [st_len]; exact beq_false_of_ne (by omega), by rw [st_len, line]; exact h.2.1, ?_⟩
      rw [split_eq a b h1 h2]
      exact done_nl R (strs_rep fun x hx => ⟨by have := splitN_len x hx; omega, splitN_ok o1 x hx⟩) h.2.2 k
    · exact h.elim
  · exact h.elim
theorem part_ok {y x : Tx} (hy : okT y) (hx : okT x) (ly : y.length ≤ 16777216) (lx : x.length ≤ 16777216) :
    ((partT y x).1.length ≤ 16777216 ∧ okT (partT y x).1) ∧ ((partT y x).2.1.length ≤ 16777216 ∧ okT (partT y x).2.1) ∧ ((partT y x).2.2.length ≤ 16777216 ∧ okT (partT y x).2.2) := by
  unfold partT
  cases q : cutT y x with
  | none => exact ⟨⟨lx, hx⟩, ⟨by simp, fun c hc => by cases hc⟩, ⟨by simp, fun c hc => by cases hc⟩⟩
  | some p =>
    have hl := cut_len q
    obtain ⟨g, _⟩ := cut_some q
    rw [g] at hx
    exact ⟨⟨by show p.1.length ≤ _; omega, fun c hc => hx c (by simp [show c ∈ p.1 from hc])⟩, ⟨ly, hy⟩, ⟨by show p.2.length ≤ _; omega, fun c hc => hx c (by simp [show c ∈ p.2 from hc])⟩⟩
theorem serves_part : Serves T (rm fun x xs H Q => ∃ a b, x = .str a ∧ xs = [.str b] ∧ (b.length == 0) = false ∧ a.length ≤ sizeLine ∧
    ∀ p, H p = none → Q (.ref p) (upd H p (.tup [.str (Txt.partition a b).1, .str (Txt.partition a b).2.1, .str (Txt.partition a b).2.2]))) oPart := by
  intro S ds vs Qd Q R r h k
  unfold oPart at h
  split at h
  · obtain ⟨v, w, rfl, rx, ry⟩ := repL_2 r
    refine ⟨v, [w], rfl, ?_⟩
    split at h
    · rename_i a b
      obtain ⟨e1, l1, o1⟩ := rep_str rx
      obtain ⟨e2, l2, o2⟩ := rep_str ry
      obtain ⟨h1, h2⟩ := sepOk_iff h.1
      refine ⟨st a, st b, e1, by rw [e2], by rw [st_len]; exact beq_false_of_ne (by omega), by rw [st_len, line]; exact l1, ?_⟩
      rw [part_eq]
      obtain ⟨p1, p2, p3⟩ := part_ok o2 o1 l2 l1
      exact done_tup R (xs := [.str (partT b a).1, .str (partT b a).2.1, .str (partT b a).2.2]) (repL_mk (mk_str p1.1 p1.2) (repL_mk (mk_str p2.1 p2.2) (repL_mk (mk_str p3.1 p3.2) repL_mk0))) h.2 k
    · exact h.elim
  · exact h.elim
theorem asStrs_rep {F : Fz} {H : Hp} : ∀ {ds : List D} {xs : List Tx} {vs : List V}, asStrs ds = some xs → repL T F H ds vs → vs = (xs.map st).map V.str ∧ ∀ x ∈ xs, okT x
  | [], xs, vs, h, r => by cases h; exact ⟨repL_nil r, by simp⟩
  | d :: ds, xs, vs, h, r => by
    obtain ⟨v, vr, e, r1, r2⟩ := repL_cons r
    subst e
    unfold asStrs at h
    split at h
    · rename_i x q e1 e2
      cases h
      cases d with
      | str y =>
        cases e1
        obtain ⟨g1, g2⟩ := asStrs_rep e2 r2
        obtain ⟨g3, _, g4⟩ := rep_str r1
        refine ⟨by rw [g1, g3]; rfl, fun z hz => ?_⟩
        rcases List.mem_cons.mp hz with q | q
        · rw [q]; exact g4
        · exact g2 z q
      | _ => cases e1
    · cases h
theorem sum_len (xs : List Tx) : ((xs.map st).map (·.length)).sum = (xs.map List.length).sum := by
  rw [List.map_map]
  exact congrArg List.sum (List.map_congr_left fun x _ => st_len x)
theorem serves_join (hK : X.K = T.K) : Serves T (rm fun x xs H Q => ∃ a p, ∃ ys : List Str, x = .str a ∧ xs = [.ref p] ∧ (SqL X.K H p (ys.map V.str) ∨ SqT X.K H p (ys.map V.str)) ∧
    (ys.map (·.length)).sum + ys.length * a.length ≤ 16777216 ∧ Q (.str (Txt.join a ys)) H) oJoin := by
  intro S ds vs Qd Q R r h k
  unfold oJoin at h
  split at h
  · obtain ⟨v, w, rfl, rx, ry⟩ := repL_2 r
    refine ⟨v, [w], rfl, ?_⟩
    rw [hK]
    split at h
    · rename_i a
      obtain ⟨e1, l1, o1⟩ := rep_str rx
      split at h
      · rename_i ys ey
        obtain ⟨p, zs, rfl, h2, h3⟩ := view_lst R ry ey
        split at h
        · rename_i xs ex
          obtain ⟨g1, g2⟩ := asStrs_rep ex h3
          subst g1
          refine ⟨st a, p, xs.map st, e1, rfl, .inl (SqL.of h2), by rw [sum_len, List.length_map, st_len]; exact h.1, ?_⟩
          rw [join_eq]
          exact done_v R (mk_str (Nat.le_trans (joinT_len xs) h.1) (joinT_ok o1 g2)) h.2 k
        · exact h.elim
      · rename_i ys ey
        obtain ⟨p, zs, rfl, h2, h3⟩ := view_tup R ry ey
        split at h
        · rename_i xs ex
          obtain ⟨g1, g2⟩ := asStrs_rep ex h3
          subst g1
          refine ⟨st a, p, xs.map st, e1, rfl, .inr h2, by rw [sum_len, List.length_map, st_len]; exact h.1, ?_⟩
          rw [join_eq]
          exact done_v R (mk_str (Nat.le_trans (joinT_len xs) h.1) (joinT_ok o1 g2)) h.2 k
        · exact h.elim
      · exact h.elim
    · exact h.elim
  · exact h.elim
theorem serves_find : Serves T (rm fun x xs H Q => ∃ a b, x = .str a ∧ xs = [.str b] ∧ Q (.int (Txt.find a b)) H) oFind := by
  intro S ds vs Qd Q R r h k
  unfold oFind at h
  split at h
  · obtain ⟨v, w, rfl, rx, ry⟩ := repL_2 r
    refine ⟨v, [w], rfl, ?_⟩
    split at h
    · rename_i a b
      refine ⟨st a, st b, (rep_str rx).1, by rw [(rep_str ry).1], ?_⟩
      rw [find_eq]
      exact done_v R mk_int h k
    · exact h.elim
  · exact h.elim
theorem serves_countT : Serves T (rm fun x xs H Q => ∃ a b, x = .str a ∧ xs = [.str b] ∧ Q (.int (Txt.count a b)) H) oCountT := by
  intro S ds vs Qd Q R r h k
  unfold oCountT at h
  split at h
  · obtain ⟨v, w, rfl, rx, ry⟩ := repL_2 r
    refine ⟨v, [w], rfl, ?_⟩
    split at h
    · rename_i a b
      refine ⟨st a, st b, (rep_str rx).1, by rw [(rep_str ry).1], ?_⟩
      rw [count_eq a b h.1]
      exact done_v R mk_int h.2 k
    · exact h.elim
  · exact h.elim
theorem serves_append : Serves T (rm rAppend) oAppend := by
  intro S ds vs Qd Q R r h k
  unfold oAppend at h
  split at h
  · obtain ⟨v, w, rfl, rx, ry⟩ := repL_2 r
    refine ⟨v, [w], rfl, ?_⟩
    split at h
    · rename_i p
      split at h
      · rename_i xs ex
        obtain ⟨⟨us, e1, r1⟩, _⟩ := R.at_ p _ ex
        refine ⟨p, us, w, rep_ref rx, rfl, e1, by rw [← repL_len r1, line]; exact h.1, ?_⟩
        exact done_put R ex (repL_app r1 (repL_mk ry repL_mk0)) mk_non h.2 k
      · exact h.elim
    · exact h.elim
  · exact h.elim
theorem serves_extend : Serves T (rm rExtend) oExtend := by
  intro S ds vs Qd Q R r h k
  unfold oExtend at h
  split at h
  · obtain ⟨v, w, rfl, rx, ry⟩ := repL_2 r
    refine ⟨v, [w], rfl, ?_⟩
    split at h
    · rename_i p
      split at h
      · rename_i xs ex
        obtain ⟨⟨us, e1, r1⟩, _⟩ := R.at_ p _ ex
        split at h
        · rename_i ys ey
          obtain ⟨q, zs, rfl, h2, h3⟩ := view_lst R ry ey
          refine ⟨p, q, us, zs, rep_ref rx, rfl, e1, h2, by rw [← repL_len r1, ← repL_len h3, line]; exact h.1, ?_⟩
          exact done_put R ex (repL_app r1 h3) mk_non h.2 k
        · exact h.elim
      · exact h.elim
    · exact h.elim
  · exact h.elim
theorem repL_dropLast {F : Fz} {H : Hp} {ds : List D} {vs : List V} (h : repL T F H ds vs) : repL T F H ds.dropLast vs.dropLast := by
  rw [List.dropLast_eq_take, List.dropLast_eq_take, repL_len h]
  exact repL_take _ h
theorem serves_pop : Serves T (rm rPop) oPop := by
  intro S ds vs Qd Q R r h k
  unfold oPop at h
  split at h
  · obtain ⟨v, rfl, rx⟩ := repL_1 r
    refine ⟨v, [], rfl, ?_⟩
    split at h
    · rename_i p
      split at h
      · rename_i xs ex
        obtain ⟨⟨us, e1, r1⟩, _⟩ := R.at_ p _ ex
        split at h
        · rename_i y ey
          rw [repL_len r1] at ey
          obtain ⟨z, ez, rz⟩ := repL_at r1 ey
          exact ⟨p, us, z, rep_ref rx, rfl, e1, ez, done_put R ex (repL_dropLast r1) rz h k⟩
        · exact h.elim
      · exact h.elim
    · exact h.elim
  · exact h.elim
theorem serves_insert : Serves T (rm fun x vs H Q => ∃ (l : Addr) (xs : List V) (i : Int) (y : V), x = .ref l ∧ vs = [.int i, y] ∧ H l = some (.lst xs) ∧ xs.length < sizeLine ∧ 0 ≤ i ∧ i < 2 ^ 63 ∧
    Q .non (upd H l (.lst (xs.take i.toNat ++ [y] ++ xs.drop i.toNat)))) oInsert := by
  intro S ds vs Qd Q R r h k
  unfold oInsert at h
  split at h
  · obtain ⟨v, w, z, rfl, rx, ry, rz⟩ := repL_3 r
    refine ⟨v, [w, z], rfl, ?_⟩
    split at h
    · rename_i p i
      split at h
      · rename_i xs ex
        obtain ⟨⟨us, e1, r1⟩, _⟩ := R.at_ p _ ex
        refine ⟨p, us, i, z, rep_ref rx, by rw [rep_int ry], e1, by rw [← repL_len r1, line]; exact h.1, h.2.1, h.2.2.1, ?_⟩
        exact done_put R ex (repL_app (repL_app (repL_take _ r1) (repL_mk rz repL_mk0)) (repL_drop _ r1)) mk_non h.2.2.2 k
      · exact h.elim
    · exact h.elim
  · exact h.elim
theorem asBls_rep {F : Fz} {H : Hp} : ∀ {ds : List D} {xs : List Bool} {vs : List V}, asBls ds = some xs → repL T F H ds vs → vs = xs.map V.bl
  | [], xs, vs, h, r => by cases h; exact repL_nil r
  | d :: ds, xs, vs, h, r => by
    obtain ⟨v, vr, e, r1, r2⟩ := repL_cons r
    subst e
    unfold asBls at h
    split at h
    · rename_i x q e1 e2
      cases h
      cases d with
      | bl y => cases e1; rw [rep_bl r1, asBls_rep e2 r2]; rfl
      | _ => cases e1
    · cases h
theorem serves_all (hK : X.K = T.K) : Serves T (rAll X.K) oAll := by
  intro S ds vs Qd Q R r h k
  unfold oAll at h
  split at h
  · obtain ⟨v, rfl, rx⟩ := repL_1 r
    split at h
    · rename_i a ea
      obtain ⟨p, xs, rfl, h2, h3⟩ := view_lst R rx ea
      split at h
      · rename_i bs eb
        have e := asBls_rep eb h3
        subst e
        exact ⟨p, bs, rfl, SqL.of h2, done_v R mk_bl h k⟩
      · exact h.elim
    · exact h.elim
  · exact h.elim
theorem serves_any (hK : X.K = T.K) : Serves T (rAny X.K) oAny := by
  intro S ds vs Qd Q R r h k
  unfold oAny at h
  split at h
  · obtain ⟨v, rfl, rx⟩ := repL_1 r
    split at h
    · rename_i a ea
      obtain ⟨p, xs, rfl, h2, h3⟩ := view_lst R rx ea
      split at h
      · rename_i bs eb
        have e := asBls_rep eb h3
        subst e
        exact ⟨p, bs, rfl, SqL.of h2, done_v R mk_bl h k⟩
      · exact h.elim
    · exact h.elim
  · exact h.elim
theorem serves_max2 : Serves T (fun xs H Q => ∃ i j, xs = [.int i, .int j] ∧ Q (.int (if j > i then j else i)) H) oMax2 := by
  intro S ds vs Qd Q R r h k
  unfold oMax2 at h
  split at h
  · obtain ⟨v, w, rfl, rx, ry⟩ := repL_2 r
    split at h
    · rename_i i j ei ej
      rw [view_int R rx ei, view_int R ry ej]
      exact ⟨i, j, rfl, done_v R mk_int h k⟩
    · exact h.elim
  · exact h.elim
theorem serves_min2 : Serves T (fun xs H Q => ∃ i j, xs = [.int i, .int j] ∧ Q (.int (if j < i then j else i)) H) oMin2 := by
  intro S ds vs Qd Q R r h k
  unfold oMin2 at h
  split at h
  · obtain ⟨v, w, rfl, rx, ry⟩ := repL_2 r
    split at h
    · rename_i i j ei ej
      rw [view_int R rx ei, view_int R ry ej]
      exact ⟨i, j, rfl, done_v R mk_int h k⟩
    · exact h.elim
  · exact h.elim
/-- what the table says is so -/
structure ClsOk (K : PySem.W.Frag) (C : Addr) : Prop where
  c : Cls K C
  ha : PySem.W.findIn K (.ref C) "__class__" = some (some (.builtin "object.__class__"))
  hm : PySem.W.mroIn K C (.type "object") = some true
structure TbOk (T : Tb) : Prop where
  inj : ∀ i j, T.sym i = T.sym j → i = j
  na : ∀ c f, T.na c f = true → ClsOk T.K (T.ca c) ∧ NoAttr T.K (T.ca c) (T.sym f)
  kc : ∀ t u b, T.kc t u = some b → PySem.W.kitOne T.K (tyV' T t) (tyV' T u) = some b
  ko : ∀ c u b, T.kc (.cls c) u = some b → ClsOk T.K (T.ca c)
  hn : PySem.W.specialIn T.K (.builtin "object.__class__") "__get__" = some (some (.builtin "getset_descriptor.__get__"))
  htk : PySem.W.takesIn T.K (.builtin "object.__class__") = some true
theorem tag_rep (K : TbOk T) (R : Rh T S) {d : D} {v : V} {t u : TyT} {b : Bool} (r : rep T S.fz S.hp d v) (h : tagD (view S.hd d) = some t) (hk : T.kc t u = some b) : TyX T.K S.hp v (tyV' T t) := by
  cases e : view S.hd d with
  | non => rw [e] at h; cases h; rw [view_non R r e]; exact .base .non
  | bl x => rw [e] at h; cases h; rw [view_bl R r e]; exact .base (.bl x)
  | int x => rw [e] at h; cases h; rw [view_int R r e]; exact .base (.int x)
  | str x => rw [e] at h; cases h; rw [(view_str R r e).1]; exact .base (.str _)
  | tup x =>
    rw [e] at h; cases h
    obtain ⟨a, vs, rfl, q, _⟩ := view_tup R r e
    rcases q with (q | ⟨o, q⟩) | ⟨o, its, n, q, c, _⟩
    · exact .base (.tup q)
    · exact .fTuple q
    · exact .kTuple q c
  | lst x =>
    rw [e] at h; cases h
    obtain ⟨a, vs, rfl, q, _⟩ := view_lst R r e
    exact .base (.lst q)
  | dic x =>
    rw [e] at h; cases h
    obtain ⟨a, vs, rfl, q, _⟩ := view_dic R r e
    exact .base (.dK q)
  | obj c x =>
    rw [e] at h; cases h
    obtain ⟨a, dx, vs, rfl, q, _⟩ := view_obj R r e
    obtain ⟨c1, c2, c3⟩ := K.ko c u b hk
    exact .base (.ins q c1 c2 K.hn K.htk c3)
  | rol x => rw [e] at h; cases h
  | ref x => rw [e] at h; cases h
/-- isinstance of a class that is written in the text -/
def rIsiV (T : Tb) (u : TyT) : V → Hp → VK → Prop := fun x H Q => ∃ (t : Value) (b : Bool), TyX T.K H x t ∧ PySem.W.kitOne T.K t (tyV' T u) = some b ∧ Q (.bl b) H
theorem serves_isIn (K : TbOk T) (u : TyT) : Serves T (r1 (rIsiV T u)) (oIsIn T u) := by
  intro S ds vs Qd Q R r h k
  unfold oIsIn at h
  split at h
  · obtain ⟨v, rfl, rx⟩ := repL_1 r
    refine ⟨v, rfl, ?_⟩
    split at h
    · rename_i t et
      split at h
      · rename_i b eb
        exact ⟨_, b, tag_rep K R rx et eb, K.kc t u b eb, done_v R mk_bl h k⟩
      · exact h.elim
    · exact h.elim
  · exact h.elim
/-! ### fields -/
def fget (fs : List (Nat × D)) (f : Nat) : Option D := (fs.find? fun p => p.1 == f).map (·.2)
def fput (fs : List (Nat × D)) (f : Nat) (d : D) : List (Nat × D) := match fs with
  | [] => [(f, d)]
  | (g, e) :: r => if g == f then (f, d) :: r else (g, e) :: fput r f d
/-- o.f -/
def oAttr (T : Tb) (f : Nat) : DOp
  | hd, [x], Q => match view hd x with
    | .obj c fs => T.na c f = true ∧ match fget fs f with
      | some d => Q (.v d) hd
      | none => False
    | _ => False
  | _, _, _ => False
theorem repF_cons {F : Fz} {H : Hp} {k : Nat} {d : D} {ds : List (Nat × D)} {vs : List (Str × V)} (h : repF T F H ((k, d) :: ds) vs) : ∃ v r, vs = (T.sym k, v) :: r ∧ rep T F H d v ∧ repF T F H ds r := by unfold repF at h; exact h
theorem repF_nil {F : Fz} {H : Hp} {vs : List (Str × V)} (h : repF T F H [] vs) : vs = [] := by unfold repF at h; exact h
theorem repF_mk {F : Fz} {H : Hp} {k : Nat} {d : D} {ds : List (Nat × D)} {v : V} {vs : List (Str × V)} (h : rep T F H d v) (r : repF T F H ds vs) : repF T F H ((k, d) :: ds) ((T.sym k, v) :: vs) := by unfold repF; exact ⟨v, vs, rfl, h, r⟩
theorem repF_mk0 {F : Fz} {H : Hp} : repF T F H [] [] := by unfold repF; rfl
theorem repF_get (K : TbOk T) {F : Fz} {H : Hp} {f : Nat} {d : D} : ∀ {ds : List (Nat × D)} {vs : List (Str × V)}, repF T F H ds vs → fget ds f = some d → ∃ v, vs.lookup (T.sym f) = some v ∧ rep T F H d v
  | [], vs, h, e => by cases e
  | (g, x) :: ds, vs, h, e => by
    obtain ⟨v, r, ev, h1, h2⟩ := repF_cons h
    subst ev
    by_cases q : g = f
    · subst q
      have : x = d := by simpa [fget, List.find?_cons] using e
      subst this
      exact ⟨v, by simp [List.lookup], h1⟩
    · have e2 : fget ds f = some d := by simpa [fget, List.find?_cons, q] using e
      obtain ⟨w, e3, h3⟩ := repF_get K h2 e2
      have ne : (T.sym f == T.sym g) = false := beq_false_of_ne fun z => q (K.inj g f z.symm)
      exact ⟨w, by simp [List.lookup, ne, e3], h3⟩
theorem repF_put (K : TbOk T) {F : Fz} {H : Hp} {f : Nat} {d : D} {v : V} (q : rep T F H d v) : ∀ {ds : List (Nat × D)} {vs : List (Str × V)}, repF T F H ds vs → repF T F H (fput ds f d) (putF (T.sym f) v vs)
  | [], vs, h => by
    rw [repF_nil h]
    exact repF_mk q repF_mk0
  | (g, x) :: ds, vs, h => by
    obtain ⟨w, r, ev, h1, h2⟩ := repF_cons h
    subst ev
    by_cases z : g = f
    · subst z
      simp only [fput, putF, beq_self_eq_true, if_true]
      exact repF_mk q h2
    · have ne : ¬ T.sym g = T.sym f := fun y => z (K.inj g f y)
      simp only [fput, putF, beq_false_of_ne z, if_neg ne, Bool.false_eq_true, if_false]
      exact repF_mk h1 (repF_put K q h2)
def rAttr (T : Tb) (f : Nat) : V → Hp → VK → Prop := fun x H1 Q => ∃ a C dx fs v, x = .ref a ∧ H1 a = some (.ins C dx fs) ∧ Cls T.K C ∧ NoAttr T.K C (T.sym f) ∧ fs.lookup (T.sym f) = some v ∧ Q v H1
theorem serves_attr (K : TbOk T) (f : Nat) : Serves T (r1 (rAttr T f)) (oAttr T f) := by
  intro S ds vs Qd Q R r h k
  unfold oAttr at h
  split at h
  · obtain ⟨v, rfl, rx⟩ := repL_1 r
    refine ⟨v, rfl, ?_⟩
    split at h
    · rename_i c fs eo
      obtain ⟨a, dx, gs, rfl, q1, q2⟩ := view_obj R rx eo
      obtain ⟨hn, h⟩ := h
      split at h
      · rename_i d ed
        obtain ⟨w, e1, r1⟩ := repF_get K q2 ed
        obtain ⟨n1, n2⟩ := K.na c f hn
        exact ⟨a, T.ca c, dx, gs, w, rfl, q1, n1.c, n2, e1, done_v R r1 h k⟩
      · exact h.elim
    · exact h.elim
  · exact h.elim
def rIxAll (K : PySem.W.Frag) : R2 := fun x y H Q => rIx K x y H Q ∨ ∃ a v, x = .ref a ∧ DGet H a y (some v) ∧ Q v H
theorem serves_idxA (hK : X.K = T.K) : Serves T (r2 (rIxAll X.K)) oIdxA := by
  intro S ds vs Qd Q R r h k
  unfold oIdxA at h
  split at h
  · rename_i x y _
    split at h
    · rename_i kvs ex
      obtain ⟨v, w, rfl, rx, ry⟩ := repL_2 r
      refine ⟨v, w, rfl, .inr ?_⟩
      obtain ⟨p, gs, rfl, h2, h3⟩ := view_dic R rx ex
      split at h
      · rename_i q eq
        split at h
        · rename_i d ed
          rw [dkOf_rep eq ry]
          rcases repK_get q h3 with ⟨g1, _⟩ | ⟨d', z, g1, g2, g3⟩
          · rw [ed] at g1; cases g1
          · rw [ed] at g1; cases g1
            refine ⟨p, z, rfl, ?_, done_v R g3 h k⟩
            rw [← g2]
            exact DGet.k h2
        · exact h.elim
      · exact h.elim
    · obtain ⟨v, w, e, z⟩ := serves_idx hK S _ vs _ Q R r h k
      exact ⟨v, w, e, .inl z⟩
  · exact h.elim
end
end DL
set_option Elab.async false
set_option linter.all false
set_option maxRecDepth 100000
set_option maxHeartbeats 2000000
namespace DL
open PySem PySem.Spec PyProof.Rows L2
inductive Op where
  | add | sub | mul | fdiv | mod | pow | neg | lt | le | gt | ge | eq | ne | isN | notN | inn | notin
  | tup | lst | dic0 | idx | len | abs | int | tupof | lstof | dicof | divmod | max2 | min2 | all | any
  | split | part | join | find | countT | append | extend | pop | insert | get2 | strI | sl (lo hi : Bool)
  | isin (k : TyT) | attr (f : Nat) | fstr | sortI | sortP | itemsL | maxL | sumL | reprO
  deriving DecidableEq
/-- what a method is asked of -/
inductive Tg where
  | str | lst | dic
  deriving DecidableEq
inductive IG where
  | nm (i : Nat) | tp (is : List Nat)
mutual
inductive IE where
  | var (i : Nat) | lit (d : D) | glob (n : Nat)
  | op (o : Op) (es : IEs) | meth (g : Tg) (o : Op) (r : IE) (es : IEs)
  | andv (a b : IE) | orv (a b : IE) | tst (t : IT) | ife (t : IT) (a b : IE) | chain (o o2 : Op) (a b c : IE)
  | call (f : Nat) (es : IEs) | ucall (m : Nat) (r : IE) (es : IEs) | prop (m : Nat) (r : IE) | make (shut : Bool) (c : Nat) (es : IEs)
  | comp (e : IE) (g : IG) (it : II) (own : List Nat) | compIf (e : IE) (g : IG) (it : II) (t : IT) (own : List Nat)
  | star (l : Bool) (es : ISt) | rel (e : IE) | compD (e : IE) (g : IG) (d : IE) (own : List Nat)
inductive IT where
  | val (e : IE) | op (o : Op) (es : IEs) | chain (o o2 : Op) (a b c : IE) | and (a b : IT) | or (a b : IT) | not (a : IT)
inductive IEs where
  | nil | cons (trk : Bool) (e : IE) (r : IEs)
inductive ISt where
  | nil | one (e : IE) (r : ISt) | all (e : IE) (r : ISt)
inductive II where
  | val (e : IE) | rng1 (a : IE) | rng2 (a b : IE) | enum (e : IE) | items (e : IE)
end
/-- where a value is stored -/
inductive IGt where
  | nm (i : Nat) | at_ (o : IE) (f : Nat) | sub (o i : IE)
mutual
inductive IS where
  | expr (e : IE) | asg (trk : Bool) (g : IG) (e : IE) | par (is : List Nat) (es : IEs)
  | st (trk : Bool) (g : IGt) (e : IE) | unp (gs : List IGt) (e : IE)
  | ret (un : Bool) (e : IE) | retN | ife (t : IT) (a b : ISs) | for_ (g : IG) (it : II) (b : ISs) | whl (t : IT) (b : ISs)
  | brk | cont | pass | never
inductive ISs where
  | nil | cons (s : IS) (r : ISs)
end
/-- a def: how many parameters, how many names, its body -/
structure Fn where
  np : Nat
  nn : Nat
  body : ISs
structure Pg where
  fn : Nat → Option Fn
  me : Nat → Nat → Option Nat
  pr : Nat → Nat → Option Nat
  ini : Nat → Option Nat
  gl : Nat → Option D
abbrev Gam := Nat → List D → Hd → (EV → Hd → Prop) → Prop
/-! ### operations not told yet -/
def oGet2 : DOp
  | hd, [x, k, y], Q => match view hd x with
    | .dic kvs => match dkOf k with
      | some q => Q (.v ((dget kvs q).getD y)) hd
      | none => False
    | _ => False
  | _, _, _ => False
/-- the signs of a number's text -/
def intT (i : Int) : Tx := (toString i).toList.map Char.toNat
def oStrI : DOp
  | hd, [x], Q => match view hd x with
    | .int i => i.natAbs.log2 < 1920 ∧ Q (.v (.str (intT i))) hd
    | .str a => Q (.v (.str a)) hd
    | _ => False
  | _, _, _ => False
def asI : D → Option Int
  | .int i => some i
  | _ => none
def cutD {α : Type} (xs : List α) (lo hi : Option Int) : List α := (xs.drop (HT.sIx xs.length 0 lo)).take (HT.sIx xs.length xs.length hi - HT.sIx xs.length 0 lo)
def oCut (hd : Hd) (x : D) (lo hi : Option Int) (Q : EV → Hd → Prop) : Prop := match view hd x with
  | .lst a => Q (.nl (cutD a lo hi)) hd
  | .rol a => Q (.nl (cutD a lo hi)) hd
  | .tup a => Q (.v (.tup (cutD a lo hi))) hd
  | .str a => Q (.v (.str (cutD a lo hi))) hd
  | _ => False
def oSl : Bool → Bool → DOp
  | true, true, hd, [x, a, b], Q => match asI a, asI b with
    | some i, some j => oCut hd x (some i) (some j) Q
    | _, _ => False
  | true, false, hd, [x, a], Q => match asI a with
    | some i => oCut hd x (some i) none Q
    | _ => False
  | false, true, hd, [x, a], Q => match asI a with
    | some i => oCut hd x none (some i) Q
    | _ => False
  | false, false, hd, [x], Q => oCut hd x none none Q
  | _, _, _, _, _ => False
/-- f'..': texts one behind the other -/
def oFstr : DOp := fun hd xs Q => match asStrs xs with
  | some l => (l.map List.length).sum ≤ 16777216 ∧ Q (.v (.str l.flatten)) hd
  | none => False
/-- sorted: ints; pairs (text, number) -/
def ltTI (p q : Tx × Int) : Bool := if p.1 = q.1 then decide (p.2 < q.2) else decide (p.1 < q.1)
def asTI : D → Option (Tx × Int)
  | .tup [.str x, .int i] => some (x, i)
  | _ => none
def asTIs : List D → Option (List (Tx × Int))
  | [] => some []
  | d :: ds => match asTI d, asTIs ds with
    | some x, some r => some (x :: r)
    | _, _ => none
def tiD (p : Tx × Int) : D := .tup [.str p.1, .int p.2]
def asInts : List D → Option (List Int)
  | [] => some []
  | d :: ds => match asI d, asInts ds with
    | some x, some r => some (x :: r)
    | _, _ => none
def oSortI : DOp
  | hd, [x], Q => match view hd x with
    | .lst a => match asInts a with
      | some ns => ∀ ns' : List Int, ns'.Perm ns → ns'.Pairwise (· ≤ ·) → Q (.nl (ns'.map .int)) hd
      | none => False
    | _ => False
  | _, _, _ => False
def oSortP : DOp
  | hd, [x], Q => match view hd x with
    | .lst a => match asTIs a with
      | some ps => ∀ ps' : List (Tx × Int), ps'.Perm ps → ps'.Pairwise (fun p q => ltTI q p = false) → Q (.nl (ps'.map tiD)) hd
      | none => False
    | _ => False
  | _, _, _ => False
/-- repr of a list or tuple of plain data -/
def reprT (d : D) : Tx := (dPy d).shown.cps.toList
def isSeq : D → Bool
  | .lst _ => true
  | .tup _ => true
  | _ => false
def oRepr : DOp
  | hd, [x], Q => isSeq (view hd x) = true ∧ shD 60 (view hd x) = true ∧ (dPy (view hd x)).showable = true ∧ (reprT (view hd x)).length ≤ 16777216 ∧ okT (reprT (view hd x)) ∧ Q (.v (.str (reprT (view hd x)))) hd
  | _, _, _ => False
/-- max, sum of numbers -/
def oMaxL : DOp
  | hd, [x], Q => match view hd x with
    | .lst a => match asInts a with
      | some (n :: ns) => Q (.v (.int (ns.foldl max n))) hd
      | _ => False
    | .tup a => match asInts a with
      | some (n :: ns) => Q (.v (.int (ns.foldl max n))) hd
      | _ => False
    | _ => False
  | _, _, _ => False
def oSumL : DOp
  | hd, [x], Q => match view hd x with
    | .lst a => match asInts a with
      | some ns => Q (.v (.int ns.sum)) hd
      | none => False
    | _ => False
  | _, _, _ => False
def pairD (kvs : List (DK × D)) : List D := kvs.map fun p => .tup [dkD p.1, p.2]
def oItemsL : DOp
  | hd, [x], Q => match view hd x with
    | .dic kvs => kvs.length ≤ 16777216 ∧ Q (.nl (pairD kvs)) hd
    | _ => False
  | _, _, _ => False
def dop (T : Tb) : Op → DOp
  | .add => oAdd
  | .sub => oInt cAll (· - ·)
  | .mul => oInt cMul (· * ·)
  | .fdiv => oInt cDiv (· / ·)
  | .mod => oInt cMod (· % ·)
  | .pow => oInt cPow fPow
  | .neg => oNeg
  | .lt => oCmp fun i j => decide (i < j)
  | .le => oCmp fun i j => decide (i ≤ j)
  | .gt => oCmp fun i j => decide (j < i)
  | .ge => oCmp fun i j => decide (j ≤ i)
  | .eq => oEq false
  | .ne => oEq true
  | .isN => oIsN false
  | .notN => oIsN true
  | .inn => oIn false
  | .notin => oIn true
  | .tup => oTup
  | .lst => oLst
  | .dic0 => oDic0
  | .idx => oIdxA
  | .len => oLen
  | .abs => oAbs
  | .int => oIntOf
  | .tupof => oTupOf
  | .lstof => oLstOf
  | .dicof => oDicOf
  | .divmod => oDivmod
  | .max2 => oMax2
  | .min2 => oMin2
  | .all => oAll
  | .any => oAny
  | .split => oSplit
  | .part => oPart
  | .join => oJoin
  | .find => oFind
  | .countT => oCountT
  | .append => oAppend
  | .extend => oExtend
  | .pop => oPop
  | .insert => oInsert
  | .get2 => oGet2
  | .strI => oStrI
  | .sl a b => oSl a b
  | .isin k => oIsIn T k
  | .attr f => oAttr T f
  | .fstr => oFstr
  | .sortI => oSortI
  | .sortP => oSortP
  | .itemsL => oItemsL
  | .maxL => oMaxL
  | .sumL => oSumL
  | .reprO => oRepr
/-! ### the reading -/
def isTg (g : Tg) (hd : Hd) (d : D) : Bool := match g, view hd d with
  | .str, .str _ => true
  | .lst, .lst _ => true
  | .dic, .dic _ => true
  | _, _ => false
def truth (hd : Hd) (d : D) : Option Bool := match view hd d with
  | .non => some false
  | .bl b => some b
  | .int i => some (i != 0)
  | .str x => some (!x.isEmpty)
  | .lst x => some (!x.isEmpty)
  | .tup x => some (!x.isEmpty)
  | .dic x => some (!x.isEmpty)
  | _ => none
/-- a fresh object is tracked from now on -/
def trk (ev : EV) (hd : Hd) (Q : D → Hd → Prop) : Prop := match ev with
  | .v d => Q d hd
  | .nl xs => ∀ p, hd p = none → Q (.ref p) (put hd p (.lst xs))
  | .nd k => ∀ p, hd p = none → Q (.ref p) (put hd p (.dic k))
  | .no c f => ∀ p, hd p = none → Q (.ref p) (put hd p (.ins c f))
def take (b : Bool) (ev : EV) (hd : Hd) (Q : D → Hd → Prop) : Prop := match b with
  | true => trk ev hd Q
  | false => Q ev.d hd
/-- a tracked object that is the only one's is let go -/
def rel (b : Bool) (ev : EV) (hd : Hd) (Q : EV → Hd → Prop) : Prop := match b with
  | false => Q ev hd
  | true => match ev with
    | .v (.ref p) => match hd p with
      | some (.lst xs) => Q (.nl xs) (del hd p)
      | some (.dic k) => Q (.nd k) (del hd p)
      | some (.ins c f) => Q (.no c f) (del hd p)
      | none => False
    | _ => False
/-- the fields of an object: what they alone hold stands still from now on -/
def shutF (hd : Hd) : List (Nat × D) → List (Nat × D) × Hd
  | [] => ([], hd)
  | (n, d) :: r => match d with
    | .ref q => match hd q with
      | some (.lst xs) => let z := shutF (del hd q) r; ((n, .lst xs) :: z.1, z.2)
      | some (.dic k) => let z := shutF (del hd q) r; ((n, .dic k) :: z.1, z.2)
      | _ => let z := shutF hd r; ((n, .ref q) :: z.1, z.2)
    | d => let z := shutF hd r; ((n, d) :: z.1, z.2)
def bindG (g : IG) (d : D) (ds : Slt) (Q : Slt → Prop) : Prop := match g with
  | .nm i => Q (ds.set i (some d))
  | .tp is => match d with
    | .tup xs => xs.length = is.length ∧ Q ((is.zip xs).foldl (fun a p => a.set p.1 (some p.2)) ds)
    | .lst xs => xs.length = is.length ∧ Q ((is.zip xs).foldl (fun a p => a.set p.1 (some p.2)) ds)
    | _ => False
abbrev Gd := Option (Addr × List D)
def gdOk (g : Gd) (hd : Hd) : Prop := match g with
  | none => True
  | some (p, xs) => hd p = some (.lst xs)
def gdOf (d : D) (xs : List D) : Gd := match d with
  | .ref p => some (p, xs)
  | _ => none
/-- what is walked, by a value -/
def walkD (hd : Hd) (d : D) (Q : List D → Gd → Prop) : Prop := match view hd d with
  | .lst xs => Q xs (gdOf d xs)
  | .rol xs => Q xs none
  | .tup xs => Q xs none
  | .str x => Q (x.map fun c => .str [c]) none
  | _ => False
def rngD (lo : Int) (n : Nat) : List D := (List.range n).map fun (i : Nat) => .int (lo + i)
def enumD : Nat → List D → List D
  | _, [] => []
  | i, x :: r => .tup [.int i, x] :: enumD (i + 1) r
def wipeD (ds : Slt) : List Nat → Slt
  | [] => ds
  | v :: vs => (wipeD ds vs).set v none
def rng2D (d e : D) (hd : Hd) (Q : List D → Gd → Hd → Prop) : Prop := match d, e with
  | .int i, .int j => (-(2 ^ 62) ≤ i ∧ i < 2 ^ 62 ∧ -(2 ^ 62) ≤ j ∧ j < 2 ^ 62) ∧ Q (rngD i (j - i).toNat) none hd
  | _, _ => False
/-- the turns of a comprehension -/
def turns (one : D → Hd → (Option D → Hd → Prop) → Prop) (gd : Gd) : List D → List D → Hd → (List D → Hd → Prop) → Prop
  | [], acc, hd, K => gdOk gd hd ∧ K acc hd
  | x :: r, acc, hd, K => gdOk gd hd ∧ one x hd fun o hd' => match o with
    | some d => turns one gd r (acc ++ [d]) hd' K
    | none => turns one gd r acc hd' K
section
variable (T : Tb) (P : Pg) (G : Gam)
mutual
def wpE : IE → DTE
  | .var i, ds, hd, Q => match ds[i]? with
    | some (some d) => Q (.v d) hd
    | _ => False
  | .lit d, ds, hd, Q => Q (.v d) hd
  | .glob n, ds, hd, Q => match P.gl n with
    | some d => Q (.v d) hd
    | none => False
  | .op o es, ds, hd, Q => wpEs es ds hd fun l hd1 => dop T o hd1 l Q
  | .meth g o r es, ds, hd, Q => wpE r ds hd fun ev hd1 => isTg g hd1 ev.d = true ∧ wpEs es ds hd1 fun l hd2 => dop T o hd2 (ev.d :: l) Q
  | .andv a b, ds, hd, Q => wpE a ds hd fun ev hd1 => match truth hd1 ev.d with
    | some true => wpE b ds hd1 Q
    | some false => Q (.v ev.d) hd1
    | none => False
  | .orv a b, ds, hd, Q => wpE a ds hd fun ev hd1 => match truth hd1 ev.d with
    | some true => Q (.v ev.d) hd1
    | some false => wpE b ds hd1 Q
    | none => False
  | .tst t, ds, hd, Q => wpT t ds hd fun b hd1 => Q (.v (.bl b)) hd1
  | .ife t a b, ds, hd, Q => wpT t ds hd fun c hd1 => match c with
    | true => wpE a ds hd1 Q
    | false => wpE b ds hd1 Q
  | .chain o o2 a b c, ds, hd, Q => wpE a ds hd fun x hd1 => wpE b ds hd1 fun y hd2 => dop T o hd2 [x.d, y.d] fun z hd3 => match z with
    | .v (.bl true) => wpE c ds hd3 fun w hd4 => dop T o2 hd4 [y.d, w.d] Q
    | .v (.bl false) => Q (.v (.bl false)) hd3
    | _ => False
  | .call f es, ds, hd, Q => wpEs es ds hd fun l hd1 => G f l hd1 Q
  | .ucall m r es, ds, hd, Q => wpE r ds hd fun ev hd1 => match view hd1 ev.d with
    | .obj c fs => match P.me c m with
      | some f => fget fs m = none ∧ wpEs es ds hd1 fun l hd2 => G f (ev.d :: l) hd2 Q
      | none => False
    | _ => False
  | .prop m r, ds, hd, Q => wpE r ds hd fun ev hd1 => match view hd1 ev.d with
    | .obj c _ => match P.pr c m with
      | some f => G f [ev.d] hd1 Q
      | none => False
    | _ => False
  | .make sl c es, ds, hd, Q => wpEs es ds hd fun l hd1 => match P.ini c with
    | some f => ∀ p, hd1 p = none → G f (.ref p :: l) (put hd1 p (.ins c [])) fun ev hd2 => match ev with
      | .v .non => match sl with
        | false => Q (.v (.ref p)) hd2
        | true => match hd2 p with
          | some (.ins c' fs) => Q (.no c' (shutF (del hd2 p) fs).1) (shutF (del hd2 p) fs).2
          | _ => False
      | _ => False
    | none => False
  | .comp e g it own, ds, hd, Q => wpI it ds hd fun its gd hd1 => its.length ≤ 16777216 ∧
      turns (fun x hd' K => bindG g x (wipeD ds own) fun ds1 => wpE e ds1 hd' fun ev hd'' => K (some ev.d) hd'') gd its [] hd1 fun l hd2 => Q (.nl l) hd2
  | .compIf e g it t own, ds, hd, Q => wpI it ds hd fun its gd hd1 => its.length ≤ 16777216 ∧
      turns (fun x hd' K => bindG g x (wipeD ds own) fun ds1 => wpT t ds1 hd' fun b hd2 => match b with
        | true => wpE e ds1 hd2 fun ev hd'' => K (some ev.d) hd''
        | false => K none hd2) gd its [] hd1 fun l hd2 => Q (.nl l) hd2
  | .star l es, ds, hd, Q => wpSt es ds hd fun xs hd1 => xs.length ≤ 16777216 ∧ match l with
    | true => Q (.nl xs) hd1
    | false => Q (.v (.tup xs)) hd1
  | .rel e, ds, hd, Q => wpE e ds hd fun ev hd1 => rel true ev hd1 Q
  | .compD e g d own, ds, hd, Q => ∃ p kvs, hd p = some (.dic kvs) ∧ wpE d ds (del hd p) fun ev hd1 => (ev.d = .ref p ∧ hd1 p = none) ∧ (kvs.length ≤ 16777216 ∧
      turns (fun x hd' K => bindG g x (wipeD ds own) fun ds1 => wpE e ds1 hd' fun ev hd'' => K (some ev.d) hd'') none (kvs.map fun q => dkD q.1) [] hd1 fun l hd2 => hd2 p = none ∧ Q (.nl l) (put hd2 p (.dic kvs)))
def wpT : IT → DTT
  | .val e, ds, hd, Q => wpE e ds hd fun ev hd1 => match truth hd1 ev.d with
    | some b => Q b hd1
    | none => False
  | .op o es, ds, hd, Q => wpEs es ds hd fun l hd1 => dop T o hd1 l fun ev hd2 => match ev with
    | .v (.bl b) => Q b hd2
    | _ => False
  | .chain o o2 a b c, ds, hd, Q => wpE a ds hd fun x hd1 => wpE b ds hd1 fun y hd2 => dop T o hd2 [x.d, y.d] fun z hd3 => match z with
    | .v (.bl true) => wpE c ds hd3 fun w hd4 => dop T o2 hd4 [y.d, w.d] fun ev hd5 => match ev with
      | .v (.bl b) => Q b hd5
      | _ => False
    | .v (.bl false) => Q false hd3
    | _ => False
  | .and a b, ds, hd, Q => wpT a ds hd fun c hd1 => match c with
    | true => wpT b ds hd1 Q
    | false => Q false hd1
  | .or a b, ds, hd, Q => wpT a ds hd fun c hd1 => match c with
    | true => Q true hd1
    | false => wpT b ds hd1 Q
  | .not a, ds, hd, Q => wpT a ds hd fun c hd1 => Q (!c) hd1
def wpEs : IEs → DTL
  | .nil, ds, hd, Q => Q [] hd
  | .cons b e r, ds, hd, Q => wpE e ds hd fun ev hd1 => take b ev hd1 fun d hd2 => wpEs r ds hd2 fun l hd3 => Q (d :: l) hd3
def wpSt : ISt → DTL
  | .nil, ds, hd, Q => Q [] hd
  | .one e r, ds, hd, Q => wpE e ds hd fun ev hd1 => wpSt r ds hd1 fun l hd2 => Q (ev.d :: l) hd2
  | .all e r, ds, hd, Q => wpE e ds hd fun ev hd1 => match view hd1 ev.d with
    | .lst xs => wpSt r ds hd1 fun l hd2 => Q (xs ++ l) hd2
    | .tup xs => wpSt r ds hd1 fun l hd2 => Q (xs ++ l) hd2
    | _ => False
def wpI : II → Slt → Hd → (List D → Gd → Hd → Prop) → Prop
  | .val e, ds, hd, Q => wpE e ds hd fun ev hd1 => walkD hd1 ev.d fun xs g => Q xs g hd1
  | .rng1 a, ds, hd, Q => wpE a ds hd fun ev hd1 => match ev.d with
    | .int j => -(2 ^ 62) ≤ j ∧ j < 2 ^ 62 ∧ Q (rngD 0 j.toNat) none hd1
    | _ => False
  | .rng2 a b, ds, hd, Q => wpE a ds hd fun ev hd1 => wpE b ds hd1 fun ev2 hd2 => rng2D ev.d ev2.d hd2 Q
  | .enum e, ds, hd, Q => wpE e ds hd fun ev hd1 => match view hd1 ev.d with
    | .lst xs => Q (enumD 0 xs) (gdOf ev.d xs) hd1
    | .tup xs => Q (enumD 0 xs) none hd1
    | _ => False
  | .items e, ds, hd, Q => wpE e ds hd fun ev hd1 => match view hd1 ev.d with
    | .dic k => Q (pairD k) none hd1
    | _ => False
end
/-- what is wanted behind a statement -/
structure DEn where
  nx : Slt → Hd → Prop
  rt : EV → Hd → Prop
  bk : Slt → Hd → Prop
  ct : Slt → Hd → Prop
/-- a loop's turns -/
def loop (g : IG) (gd : Gd) (E : DEn) (body : DEn → Slt → Hd → Prop) : List D → Slt → Hd → Prop
  | [], ds, hd => gdOk gd hd ∧ E.nx ds hd
  | x :: r, ds, hd => gdOk gd hd ∧ bindG g x ds fun ds1 => body { E with nx := loop g gd E body r, ct := loop g gd E body r, bk := E.nx } ds1 hd
def whileN (t : DTT) (E : DEn) (body : DEn → Slt → Hd → Prop) : Nat → Slt → Hd → Prop
  | 0, _, _ => False
  | n + 1, ds, hd => t ds hd fun b hd1 => match b with
    | true => body { E with nx := whileN t E body n, ct := whileN t E body n, bk := E.nx } ds hd1
    | false => E.nx ds hd1
def setAt (T : Tb) (f : Nat) (d w : D) (hd : Hd) (Q : Hd → Prop) : Prop := match w with
  | .ref p => match hd p with
    | some (.ins c fs) => T.na c f = true ∧ fs.length < 1000 ∧ Q (put hd p (.ins c (fput fs f d)))
    | _ => False
  | _ => False
def setIx (d w k : D) (hd : Hd) (Q : Hd → Prop) : Prop := match w with
  | .ref p => match hd p with
    | some (.lst xs) => match k with
      | .int j => match ixN xs.length j with
        | some n => Q (put hd p (.lst (xs.set n d)))
        | none => False
      | _ => False
    | some (.dic kvs) => match dkOf k with
      | some q => kvs.length < 16777216 ∧ Q (put hd p (.dic (dput kvs q d)))
      | none => False
    | _ => False
  | _ => False
def setG : IGt → D → Slt → Hd → (Slt → Hd → Prop) → Prop
  | .nm i, d, ds, hd, Q => Q (ds.set i (some d)) hd
  | .at_ o f, d, ds, hd, Q => wpE T P G o ds hd fun w hd2 => setAt T f d w.d hd2 fun hd3 => Q ds hd3
  | .sub o i, d, ds, hd, Q => wpE T P G o ds hd fun w hd2 => wpE T P G i ds hd2 fun k hd3 => setIx d w.d k.d hd3 fun hd4 => Q ds hd4
def setGs : List IGt → List D → Slt → Hd → (Slt → Hd → Prop) → Prop
  | [], [], ds, hd, Q => Q ds hd
  | g :: gs, d :: l, ds, hd, Q => setG T P G g d ds hd fun ds1 hd1 => setGs gs l ds1 hd1 Q
  | _, _, _, _, _ => False
mutual
def wpS : IS → DEn → Slt → Hd → Prop
  | .expr e, E, ds, hd => wpE T P G e ds hd fun _ hd1 => E.nx ds hd1
  | .asg b g e, E, ds, hd => wpE T P G e ds hd fun ev hd1 => take b ev hd1 fun d hd2 => bindG g d ds fun ds1 => E.nx ds1 hd2
  | .par is es, E, ds, hd => wpEs T P G es ds hd fun l hd1 => l.length = is.length ∧ E.nx ((is.zip l).foldl (fun a p => a.set p.1 (some p.2)) ds) hd1
  | .st b g e, E, ds, hd => wpE T P G e ds hd fun ev hd1 => take b ev hd1 fun d hd2 => setG T P G g d ds hd2 E.nx
  | .unp gs e, E, ds, hd => wpE T P G e ds hd fun ev hd1 => match ev.d with
    | .tup xs => xs.length = gs.length ∧ setGs T P G gs xs ds hd1 E.nx
    | _ => False
  | .ret b e, E, ds, hd => wpE T P G e ds hd fun ev hd1 => rel b ev hd1 E.rt
  | .retN, E, ds, hd => E.rt (.v .non) hd
  | .ife t a b, E, ds, hd => wpT T P G t ds hd fun c hd1 => match c with
    | true => wpSs a E ds hd1
    | false => wpSs b E ds hd1
  | .for_ g it b, E, ds, hd => wpI T P G it ds hd fun its gd hd1 => loop g gd E (wpSs b) its ds hd1
  | .whl t b, E, ds, hd => ∃ n, whileN (wpT T P G t) E (wpSs b) n ds hd
  | .brk, E, ds, hd => E.bk ds hd
  | .cont, E, ds, hd => E.ct ds hd
  | .pass, E, ds, hd => E.nx ds hd
  | .never, _, _, _ => False
def wpSs : ISs → DEn → Slt → Hd → Prop
  | .nil, E, ds, hd => E.nx ds hd
  | .cons s r, E, ds, hd => wpS s { E with nx := wpSs r E } ds hd
end
/-- a def runs: at most so deep -/
def wpF (F : Fn) (args : List D) (hd : Hd) (Q : EV → Hd → Prop) : Prop :=
  args.length = F.np ∧ wpSs T P G F.body { nx := fun _ hd' => ∃ h2, Sub h2 hd' ∧ Q (.v .non) h2, rt := fun ev hd' => ∃ h2, Sub h2 hd' ∧ Q ev h2, bk := fun _ _ => False, ct := fun _ _ => False } (args.map some ++ List.replicate (F.nn - F.np) none) hd
end
def gam (T : Tb) (P : Pg) : Nat → Gam
  | 0, _, _, _, _ => False
  | n + 1, f, args, hd, Q => match P.fn f with
    | some F => wpF T P (gam T P n) F args hd Q
    | none => False
end DL
set_option Elab.async false
set_option linter.all false
set_option maxRecDepth 100000
set_option maxHeartbeats 2000000
namespace DL
open PySem PySem.Spec PyProof.Rows L2
section
variable {T : Tb} {S0 S S' : Sw} {X : Cx}
def Sw.thaw (S : Sw) (a : Addr) (o : DO) : Sw := { S with hd := DL.put S.hd a o }
theorem Stp.thaw {a : Addr} {o : DO} (s : Stp S S') (f : Fresh S S' a) : Stp S (S'.thaw a o) :=
  ⟨s.fz, fun b w e n => by
    obtain ⟨o', h1, e1, t1, n1, f1⟩ := s.uu b w e n
    have ne : b ≠ a := fun z => by
      subst z
      rcases f.2.2 with q | q
      · rw [q] at e; cases e
      · exact q n
    exact ⟨o', h1, e1, t1, (put_ne ne).trans n1, f1⟩⟩
theorem Rh.thaw {a : Addr} {o : DO} (r : Rh T S') (f : Fresh S S' a) (q : repO T S' a o) : Rh T (S'.thaw a o) := by
  refine ⟨fun b w e => ?_, fun b z => ?_⟩
  · by_cases hb : b = a
    · subst hb
      have e' : DL.put S'.hd b o b = some w := e
      rw [put_same] at e'
      cases e'
      refine ⟨?_, f.2.1⟩
      cases o <;> exact q
    · have e' : S'.hd b = some w := (put_ne hb).symm.trans e
      obtain ⟨q1, nf⟩ := r.at_ b w e'
      refine ⟨?_, nf⟩
      cases w <;> exact q1
  · obtain ⟨n, w, ew, nt⟩ := r.fzs b z
    have ne : b ≠ a := fun y => by rw [y] at z; exact f.2.1 z
    exact ⟨(put_ne ne).trans n, w, ew, nt⟩
def tkD (b : Bool) (t : DTE) : DTD := fun ds hd Q => t ds hd fun ev hd1 => take b ev hd1 Q
/-- a value is taken: as data, or tracked from now on -/
theorem take_ok {b : Bool} {ev : EV} {v : V} {Qd : D → Hd → Prop} {Q : V → Hp → Prop} (s : Stp S S') (r : Rh T S') (q : repE T S S' ev v) (h : take b ev S'.hd Qd)
    (k : ∀ d S1 v, Stp S S1 → Rh T S1 → rep T S1.fz S1.hp d v → Qd d S1.hd → Q v S1.hp) : Q v S'.hp := by
  cases b with
  | false =>
    cases ev with
    | v d => exact k d S' v s r q h
    | nl xs =>
      obtain ⟨a, vs, e1, q1, r1, f⟩ := q
      exact k (.lst xs) (S'.frz a) v (s.frz f) (r.frz_ f q1 (by intro _ z; cases z)) (by unfold rep; exact ⟨a, vs, e1, .inr rfl, q1, r1.fz fun _ => .inl⟩) h
    | nd xs =>
      obtain ⟨a, vs, e1, q1, r1, f⟩ := q
      exact k (.dic xs) (S'.frz a) v (s.frz f) (r.frz_ f q1 (by intro _ z; cases z)) (by unfold rep; exact ⟨a, vs, e1, .inr rfl, q1, r1.fz fun _ => .inl⟩) h
    | no c xs =>
      obtain ⟨a, dx, vs, e1, q1, r1, f⟩ := q
      exact k (.obj c xs) (S'.frz a) v (s.frz f) (r.frz_ f q1 (by intro _ z; cases z)) (by unfold rep; exact ⟨a, dx, vs, e1, .inr rfl, q1, r1.fz fun _ => .inl⟩) h
  | true =>
    cases ev with
    | v d => exact k d S' v s r q h
    | nl xs =>
      obtain ⟨a, vs, e1, q1, r1, f⟩ := q
      exact k (.ref a) (S'.thaw a (.lst xs)) v (s.thaw f) (r.thaw f ⟨vs, q1, r1⟩) (by unfold rep; exact e1) (h a f.1)
    | nd xs =>
      obtain ⟨a, vs, e1, q1, r1, f⟩ := q
      exact k (.ref a) (S'.thaw a (.dic xs)) v (s.thaw f) (r.thaw f ⟨vs, q1, r1⟩) (by unfold rep; exact e1) (h a f.1)
    | no c xs =>
      obtain ⟨a, dx, vs, e1, q1, r1, f⟩ := q
      exact k (.ref a) (S'.thaw a (.ins c xs)) v (s.thaw f) (r.thaw f ⟨dx, vs, q1, r1⟩) (by unfold rep; exact e1) (h a f.1)
theorem pe_tk {e : Expr} {t : DTE} (b : Bool) (h : PE X e (lE T S0 t)) : PE X e (lD T S0 (tkD b t)) := pe_imp h fun σ H Q ⟨S, ds, eh, A, Qd, ht, k⟩ =>
  ⟨S, ds, eh, A, fun ev hd' => take b ev hd' Qd, ht, fun ev S' v s r q qd => take_ok s r q qd k⟩
/-! ### a list of expressions -/
inductive PL (X : Cx) (T : Tb) (S0 : Sw) (u : IE → DTE) : List Expr → IEs → Prop where
  | nil : PL X T S0 u [] .nil
  | cons {a : Expr} {as : List Expr} {b : Bool} {e : IE} {r : IEs} (h : PE X a (lE T S0 (u e))) (hn : starEach (a :: as) X.env = (false, eval a X.env) :: starEach as X.env) (t : PL X T S0 u as r) : PL X T S0 u (a :: as) (.cons b e r)
/-- the reading of a list of expressions, by the parts' -/
def wEs (u : IE → DTE) : IEs → DTL
  | .nil => dNil
  | .cons b e r => dCons (tkD b (u e)) (wEs u r)
theorem PL.pa {u : IE → DTE} : ∀ {as : List Expr} {es : IEs}, PL X T S0 u as es → PA X as (lL T S0 (wEs u es))
  | _, _, .nil => da_nil
  | _, _, .cons h hn t => da_cons (pe_tk _ h) t.pa hn
theorem PL.one {u : IE → DTE} {a : Expr} {es : IEs} (h : PL X T S0 u [a] es) : ∃ b e, es = .cons b e .nil ∧ PE X a (lD T S0 (tkD b (u e))) := by
  cases h with
  | cons h hn t => cases t; exact ⟨_, _, rfl, pe_tk _ h⟩
theorem PL.two {u : IE → DTE} {a b : Expr} {es : IEs} (h : PL X T S0 u [a, b] es) : ∃ k e j f, es = .cons k e (.cons j f .nil) ∧ PE X a (lD T S0 (tkD k (u e))) ∧ PE X b (lD T S0 (tkD j (u f))) := by
  cases h with
  | cons h hn t =>
    cases t with
    | cons h2 hn2 t2 => cases t2; exact ⟨_, _, _, _, rfl, pe_tk _ h, pe_tk _ h2⟩
theorem PL.three {u : IE → DTE} {a b c : Expr} {es : IEs} (h : PL X T S0 u [a, b, c] es) : ∃ k e j f i g, es = .cons k e (.cons j f (.cons i g .nil)) ∧ PE X a (lD T S0 (tkD k (u e))) ∧ PE X b (lD T S0 (tkD j (u f))) ∧ PE X c (lD T S0 (tkD i (u g))) := by
  cases h with
  | cons h hn t =>
    cases t with
    | cons h2 hn2 t2 =>
      cases t2 with
      | cons h3 hn3 t3 => cases t3; exact ⟨_, _, _, _, _, _, rfl, pe_tk _ h, pe_tk _ h2, pe_tk _ h3⟩
theorem three_lL {t u w : DTD} {σ : L2.St} {H : Hp} {Q : List V → Hp → Prop} (h : lL T S0 (dCons t (dCons u (dCons w dNil))) σ H Q) : lD T S0 t σ H (fun v H1 => lD T S0 u σ H1 fun x H2 => lD T S0 w σ H2 fun y H3 => Q [v, x, y] H3) := by
  obtain ⟨S, ds, eh, A, Qd, ht, k⟩ := h
  subst eh
  refine seq_lD (u := fun d ds hd Q => u ds hd fun e hd2 => w ds hd2 fun f hd3 => Q [d, e, f] hd3) A ht fun d S1 v s1 A1 q1 h1 => ?_
  refine seq_lD (u := fun e ds hd Q => w ds hd fun f hd3 => Q [d, e, f] hd3) A1 h1 fun e S2 x s2 A2 q2 h2 => ?_
  refine ⟨S2, ds, rfl, A2, _, h2, fun f S3 y s3 r3 q3 h3 => ?_⟩
  exact k [d, e, f] S3 [v, x, y] ((s1.trans s2).trans s3) r3 (repL_mk (q1.stp A1.rh (s2.trans s3)) (repL_mk (q2.stp A2.rh s3) (repL_mk q3 repL_mk0))) h3
/-- weaken what is wanted behind data -/
theorem lD_mono {t : DTD} {σ : L2.St} {H : Hp} {Q Q' : V → Hp → Prop} (h : lD T S0 t σ H Q) (k : ∀ v H, Q v H → Q' v H) : lD T S0 t σ H Q' := by
  obtain ⟨S, ds, eh, A, Qd, ht, z⟩ := h
  exact ⟨S, ds, eh, A, Qd, ht, fun d S' v s r q qd => k _ _ (z d S' v s r q qd)⟩
theorem lL_mono {t : DTL} {σ : L2.St} {H : Hp} {Q Q' : List V → Hp → Prop} (h : lL T S0 t σ H Q) (k : ∀ v H, Q v H → Q' v H) : lL T S0 t σ H Q' := by
  obtain ⟨S, ds, eh, A, Qd, ht, z⟩ := h
  exact ⟨S, ds, eh, A, Qd, ht, fun d S' v s r q qd => k _ _ (z d S' v s r q qd)⟩
/-! ### operations, by their syntax -/
section
variable {u : IE → DTE} {o : DOp} {a b : Expr} {es : IEs} {pos : Pos}
/-- two parts, by a rule that asks for them one after the other -/
theorem op2_of {r : R2} (hs : Serves T (r2 r) o) (hp : ∀ ta tb, PE X a ta → PE X b tb → ∃ e, PE X e (tOp r ta tb)) : True := trivial
theorem two_op {r : R2} (hs : Serves T (r2 r) o) {t w : DTD} {σ : L2.St} {H : Hp} {Q : VK} (h : lE T S0 (dApp o (dCons t (dCons w dNil))) σ H Q) : tOp r (lD T S0 t) (lD T S0 w) σ H Q := by
  refine lD_mono (two_lL (app_lL hs h)) fun v H1 q => lD_mono q fun x H2 q2 => ?_
  obtain ⟨x1, y1, e, z⟩ := q2
  cases e
  exact z
theorem snd_bin {op : Operator} {r : R2} (hr : OpR X (binaryOp op) r) (hs : Serves T (r2 r) o) (h : PL X T S0 u [a, b] es) : PE X (.BinOp a op b pos) (lE T S0 (dApp o (wEs u es))) := by
  obtain ⟨k, e, j, f, rfl, h1, h2⟩ := h.two
  exact pe_imp (pe_op hr h1 h2) fun σ H Q q => two_op hs q
theorem snd_cmp {op : CmpOp} {r : R2} (hr : OpR X (compareOp op) r) (hs : Serves T (r2 r) o) (hm : behindInMarks op b = false) (h : PL X T S0 u [a, b] es) : PE X (.Compare a [op] [b] pos) (lE T S0 (dApp o (wEs u es))) := by
  obtain ⟨k, e, j, f, rfl, h1, h2⟩ := h.two
  exact pe_imp (pe_cmpR hr h1 h2 hm) fun σ H Q q => two_op hs q
theorem snd_idx {r : R2} (hr : IxR X r) (hx : PlainIx b) (hs : Serves T (r2 r) o) (h : PL X T S0 u [a, b] es) : PE X (.Subscript a b pos) (lE T S0 (dApp o (wEs u es))) := by
  obtain ⟨k, e, j, f, rfl, h1, h2⟩ := h.two
  exact pe_imp (pe_ix hr h1 h2 hx) fun σ H Q q => two_op hs q
theorem one_op {r : V → Hp → VK → Prop} (hs : Serves T (r1 r) o) {t : DTD} {σ : L2.St} {H : Hp} {Q : VK} (h : lE T S0 (dApp o (dCons t dNil)) σ H Q) : lD T S0 t σ H fun x H1 => r x H1 Q := by
  refine lD_mono (one_lL (app_lL hs h)) fun v H1 q => ?_
  obtain ⟨x1, e, z⟩ := q
  cases e
  exact z
theorem snd_neg (hs : Serves T (r1 (rU fun i => .int (-i))) o) (h : PL X T S0 u [a] es) : PE X (.UnaryOp .USub a pos) (lE T S0 (dApp o (wEs u es))) := by
  obtain ⟨k, e, rfl, h1⟩ := h.one
  exact pe_imp (pe_un un_neg h1) fun σ H Q q => one_op hs q
theorem snd_isN {j : Nat} {p : Pos} (h : PL X T S0 u [a] es) : PE X (.Compare a [.Is] [.Constant .none j p] pos) (lE T S0 (dApp (oIsN false) (wEs u es))) := by
  obtain ⟨k, e, rfl, h1⟩ := h.one
  exact pe_imp (pe_cmp (pc_isN h1)) fun σ H Q q => one_op serves_isN q
theorem snd_notN {j : Nat} {p : Pos} (h : PL X T S0 u [a] es) : PE X (.Compare a [.IsNot] [.Constant .none j p] pos) (lE T S0 (dApp (oIsN true) (wEs u es))) := by
  obtain ⟨k, e, rfl, h1⟩ := h.one
  exact pe_imp (pe_cmp (pc_notN h1)) fun σ H Q q => one_op serves_notN q
theorem snd_tup {as : List Expr} {k : Nat} (h : PL X T S0 u as es) : PE X (.Tuple as k pos) (lE T S0 (dApp oTup (wEs u es))) :=
  pe_imp (pe_tup h.pa) fun σ H Q q => app_lL serves_tup q
theorem snd_lst {as : List Expr} (h : PL X T S0 u as es) : PE X (.List as pos) (lE T S0 (dApp oLst (wEs u es))) :=
  pe_imp (pe_lst h.pa) fun σ H Q q => app_lL serves_lst q
theorem snd_dic0 : PE X (.Dict [] [] pos) (lE T S0 (dApp oDic0 dNil)) := pe_imp pe_dnewK fun σ H Q ⟨S, ds, eh, A, Qd, ht, k⟩ => by
  subst eh
  intro p hp
  exact k (.nd []) (S.new p (.dK [])) (.ref p) (Stp.new hp) (A.rh.new hp) ⟨p, [], rfl, Sw.new_at, repK_mk0, Fresh.new A.rh hp⟩ ht
/-- a built-in by its name -/
theorem snd_callB {x : Str} {id : String} {p : Pos} {as : List Expr} {r : List V → Hp → VK → Prop} (hc : CallR X (.builtin id) r) (hs : Serves T r o) (hg : Gl X x) (hm : X.mg x = none) (hv : bootBuiltins x = some (.builtin id)) (h : PL X T S0 u (a :: as) es)
    (hn : x ≠ "__name__") (hdb : (x == ("__debug__" : Str)) = false) (hpl : (backTo pos (starEach as X.env)).any (·.1) = false) : PE X (.Call (.Name x p) (a :: as) [] pos) (lE T S0 (dApp o (wEs u es))) := by
  cases h with
  | cons h1 hn1 t => exact pe_imp (pe_callB hc hg hm hv (PL.cons (b := _) h1 hn1 t).pa hn hdb (he := hn1) (hpl := hpl)) fun σ H Q q => app_lL hs q
theorem snd_callTy {x : Str} {id : String} {p : Pos} {as : List Expr} {r : List V → Hp → VK → Prop} (hc : CallR X (.type id) r) (hs : Serves T r o) (hg : Gl X x) (hm : X.mg x = none) (hv : bootBuiltins x = some (.type id)) (h : PL X T S0 u (a :: as) es)
    (hn : x ≠ "__name__") (hdb : (x == ("__debug__" : Str)) = false) (hpl : (backTo pos (starEach as X.env)).any (·.1) = false) : PE X (.Call (.Name x p) (a :: as) [] pos) (lE T S0 (dApp o (wEs u es))) := by
  cases h with
  | cons h1 hn1 t => exact pe_imp (pe_callTy hc hg hm hv (PL.cons (b := _) h1 hn1 t).pa hn hdb (he := hn1) (hpl := hpl)) fun σ H Q q => app_lL hs q
end
end
section
variable {T : Tb} {S0 S S' : Sw} {X : Cx} {u : IE → DTE} {o : DOp} {a b : Expr} {es : IEs} {pos : Pos}
/-! ### what is asked of the syntax -/
def nBase : Expr → Bool
  | .Call (.Name _ _) [] [] _ => false
  | _ => true
theorem base_of {o : Expr} {n : Str} {env : Env} {w : Sem Value} (h : nBase o = true) : attributeBase o n env w = w := by
  unfold attributeBase
  split
  · cases h
  · rfl
def noStar : Expr → Bool
  | .Starred _ _ => false
  | _ => true
theorem star_of {e : Expr} {es : List Expr} {env : Env} (h : noStar e = true) : starEach (e :: es) env = (false, eval e env) :: starEach es env := by
  cases e <;> first | rfl | cases h
theorem PL.stars {as : List Expr} {es : IEs} (h : PL X T S0 u as es) (p : Pos) : (backTo p (starEach as X.env)).any (·.1) = false ∧ (backTo p (starEach as X.env)).all (fun x => !x.1) = true := by
  induction h with
  | nil => exact ⟨rfl, rfl⟩
  | cons h hn t ih =>
    rw [hn]
    exact ⟨by show (false || (backTo p (starEach _ X.env)).any (·.1)) = false; rw [ih.1]; rfl, by show (!false && (backTo p (starEach _ X.env)).all (fun x => !x.1)) = true; rw [ih.2]; rfl⟩
def tgN : Tg → String
  | .str => "str"
  | .lst => "list"
  | .dic => "dict"
theorem tg_rep (hK : X.K = T.K) (R : Rh T S) {g : Tg} {d : D} {v : V} (r : rep T S.fz S.hp d v) (h : isTg g S.hd d = true) : tyV X.K (tgN g) v S.hp := by
  rw [hK]
  unfold isTg at h
  split at h
  · rename_i e; rw [(view_str R r e).1]; rfl
  · rename_i e
    obtain ⟨p, vs, rfl, q, _⟩ := view_lst R r e
    exact .inl ⟨rfl, vs, SqL.of q⟩
  · rename_i e
    obtain ⟨p, vs, rfl, q, _⟩ := view_dic R r e
    exact .inr (.inr (.inl ⟨rfl, .inl ⟨vs, q⟩⟩))
  · cases h
def dMeth (g : Tg) (o : DOp) (t : DTE) (w : DTL) : DTE := fun ds hd Q => t ds hd fun ev hd1 => isTg g hd1 ev.d = true ∧ w ds hd1 fun l hd2 => o hd2 (ev.d :: l) Q
theorem meth_lE (hK : X.K = T.K) {g : Tg} {t : DTE} {w : DTL} {r : V → List V → Hp → VK → Prop} (hs : Serves T (rm r) o) {σ : L2.St} {H : Hp} {Q : VK} (h : lE T S0 (dMeth g o t w) σ H Q) :
    lD T S0 (frz t) σ H fun x H1 => tyV X.K (tgN g) x H1 ∧ lL T S0 w σ H1 fun xs H2 => r x xs H2 Q := by
  obtain ⟨S, ds, eh, A, Qd, ht, k⟩ := h
  subst eh
  refine seq_lD (u := fun d ds hd1 Q => isTg g hd1 d = true ∧ w ds hd1 fun l hd2 => o hd2 (d :: l) Q) A ht fun d S1 v s1 A1 q1 h1 => ⟨tg_rep hK A1.rh q1 h1.1, ?_⟩
  refine ⟨S1, ds, rfl, A1, _, h1.2, fun l S2 vs s2 r2 q2 h2 => ?_⟩
  obtain ⟨x, xs, e, z⟩ := hs S2 (d :: l) (v :: vs) Qd Q r2 (repL_mk (q1.stp A1.rh s2) q2) h2 fun ev S' v' s' r' q' h' => k ev S' v' ((s1.trans s2).trans s') r' (q'.back (s1.trans s2)) h'
  cases e
  exact z
theorem snd_bm {g : Tg} {name : Str} {apos : Pos} {id : String} {as : List Expr} {t : DTE} {r : V → List V → Hp → VK → Prop} (hK : X.K = T.K) (pa : PlainAttrs (tgN g)) (slot : Slot (tgN g) name id) (hty : typeOf (.builtin id) = pure (.type "method_descriptor")) (hm : MtR X id r)
    (hs : Serves T (rm r) o) (h : PE X a (lE T S0 t)) (hl : PL X T S0 u (b :: as) es) (hb : nBase a = true) (hp : (apos.endLine == pos.line) = true) (hlen : as.length < 20) : PE X (.Call (.Attribute a name apos) (b :: as) [] pos) (lE T S0 (dMeth g o t (wEs u es))) := by
  have hst := hl.stars pos
  cases hl with
  | cons h1 hn1 tl =>
    refine pe_imp (pe_bm pa slot hty hm (pe_frz h) (PL.cons (b := _) h1 hn1 tl).pa (base_of hb) ?_ hp hn1 (tl.stars pos).1) fun σ H Q q => meth_lE hK hs q
    rw [hst.2]
    simp [backToKw, keywordEach]
    omega
theorem snd_bm0 {g : Tg} {name : Str} {apos : Pos} {id : String} {t : DTE} {r : V → List V → Hp → VK → Prop} (hK : X.K = T.K) (pa : PlainAttrs (tgN g)) (slot : Slot (tgN g) name id) (hty : typeOf (.builtin id) = pure (.type "method_descriptor")) (hm : MtR X id r)
    (hs : Serves T (rm r) o) (h : PE X a (lE T S0 t)) (hb : nBase a = true) (hp : (apos.endLine == pos.line) = true) : PE X (.Call (.Attribute a name apos) [] [] pos) (lE T S0 (dMeth g o t dNil)) :=
  pe_imp (pe_bm0 pa slot hty hm (pe_frz h) (base_of hb) hp) fun σ H Q q => by
    refine lD_mono (meth_lE hK hs q) fun v H1 ⟨z1, z2⟩ => ⟨z1, ?_⟩
    obtain ⟨S, ds, eh, A, Qd, ht, k⟩ := z2
    subst eh
    exact k [] S [] (Stp.refl S) A.rh repL_mk0 ht
/-- e.f -/
theorem snd_attr (K : TbOk T) (hK : X.K = T.K) {f : Nat} (h : PL X T S0 u [a] es) (hb : nBase a = true) : PE X (.Attribute a (T.sym f) pos) (lE T S0 (dApp (oAttr T f) (wEs u es))) := by
  obtain ⟨k, e, rfl, h1⟩ := h.one
  refine pe_imp (pe_fld h1 (base_of hb)) fun σ H Q q => ?_
  have z := one_op (serves_attr K f) q
  unfold rAttr at z
  unfold tFld
  rw [hK]
  exact z
/-- isinstance(e, a class that is written) -/
theorem snd_isin (K : TbOk T) (hK : X.K = T.K) {k : TyT} {p q : Pos} {y : Str} (hg : Gl X "isinstance") (hm : X.mg "isinstance" = none)
    (hc : ∃ cv, ClsV cv (tyV' T k) ∧ PE X (.Name y q) (tC cv)) (h : PL X T S0 u [a] es) (hn : noStar a = true) :
    PE X (.Call (.Name "isinstance" p) [a, .Name y q] [] pos) (lE T S0 (dApp (oIsIn T k) (wEs u es))) := by
  obtain ⟨j, e, rfl, h1⟩ := h.one
  obtain ⟨cv, hcv, hc⟩ := hc
  refine pe_imp (pe_callB call_isi hg hm (by decide +kernel) (pa_cons h1 (pa_cons hc pa_nil (star_of rfl)) (star_of hn)) (he := star_of hn) (hpl := by rw [star_of (e := .Name y q) rfl]; rfl)) fun σ H Q w => ?_
  refine lD_mono (one_op (serves_isIn K k) w) fun x H1 z => ?_
  obtain ⟨t, bb, z1, z2, z3⟩ := z
  refine ⟨x, cv, t, tyV' T k, bb, rfl, hcv, ?_, ?_, z3⟩
  · rw [hK]; exact z1
  · rw [hK]; exact z2
theorem cls_ty {n : String} {y : Str} {q : Pos} (hg : Gl X y) (hm : X.mg y = none) (hv : bootBuiltins y = some (.type n)) (hn : y ≠ "__name__") (hd : (y == ("__debug__" : Str)) = false) : PE X (.Name y q) (tC (.ty n)) := ⟨fun _ _ _ H _ I h => ld_blt I hg hm hv ⟨.ty n, H, I, rfl, h⟩ hn hd⟩
theorem cls_own {C : Addr} {y : Str} {q : Pos} (hg : Gl X y) (hm : X.mg y = some (.ref C)) (hd : (y == ("__debug__" : Str)) = false) : PE X (.Name y q) (tC (.ref C)) := ⟨fun _ _ _ H _ I h => ld_glob I hg hm ⟨.ref C, H, I, rfl, h⟩ hd⟩
end
end DL
set_option Elab.async false
set_option linter.all false
set_option maxRecDepth 100000
set_option maxHeartbeats 2000000
namespace DL
open PySem PySem.Spec PyProof.Rows L2
section
variable {T : Tb} {S0 S S' : Sw} {X : Cx}
/-- the iterator J yields its, from S on, as long as the guard holds -/
structure Wk (T : Tb) (S : Sw) (J : It) (its : List D) (gd : Gd) : Prop where
  go : ∀ (i : Nat) (S1 : Sw), Stp S S1 → Rh T S1 → gdOk gd S1.hd → i < its.length → J.go i S1.hp
  yld : ∀ (i : Nat) (S1 : Sw) (x : V) (H' : Hp) (d : D), Stp S S1 → Rh T S1 → gdOk gd S1.hd → its[i]? = some d → J.yld i S1.hp x H' → ∃ S2, S2.hp = H' ∧ S2.hd = S1.hd ∧ Stp S1 S2 ∧ Rh T S2 ∧ rep T S2.fz S2.hp d x
  stop : ∀ (i : Nat) (S1 : Sw), Stp S S1 → Rh T S1 → gdOk gd S1.hd → its.length = i → J.stop i S1.hp
abbrev DTI := Slt → Hd → (List D → Gd → Hd → Prop) → Prop
def lI (T : Tb) (S0 : Sw) (t : DTI) : TI := fun σ H R => ∃ S ds, S.hp = H ∧ At T S0 S ds σ ∧ ∃ Qd, t ds S.hd Qd ∧ ∀ its gd S' J, Stp S S' → Rh T S' → Wk T S' J its gd → Qd its gd S'.hd → R J S'.hp
theorem pi_imp {tg e : Expr} {t t' : TI} (h : PI X tg e t) (k : ∀ σ H R, t' σ H R → t σ H R) : PI X tg e t' := ⟨fun p s σ H R I q => h.run p s σ H R I (k σ H R q)⟩
/-- a value that is walked -/
def iVal (K : PySem.W.Frag) (te : TE) : TI := fun σ H R => te σ H fun x H1 => (∃ a, x = .ref a ∧ (∃ xs, SqL K H1 a xs) ∧ R (Itl K a) H1) ∨ (∃ a, x = .ref a ∧ (∃ xs, SqT K H1 a xs) ∧ R (Itt K a) H1) ∨ (∃ y, x = .str y ∧ R (Its y) H1)
theorem pi_val {tg e : Expr} {te : TE} (he : PE X e te) : PI X tg e (iVal X.K te) := by
  refine ⟨fun pins s σ H R I h => ?_⟩
  refine thn (he.run pins s σ H _ I h) fun v s1 ⟨x, H1, I1, r1, q1⟩ => ?_
  rcases q1 with ⟨a, e, ⟨xs, hq⟩, q⟩ | ⟨a, e, ⟨xs, hq⟩, q⟩ | ⟨y, e, q⟩
  · subst e
    cases r1
    obtain ⟨its, rv, p, hz⟩ := I1.list hq
    refine wpAny_pyIter_list p.isList ?_
    refine ⟨s1.heap.objs.size, [s1.heap.objs.size], _, _, H1, rfl, I1.kept (t' := s1.toks) fun b o e => Heap.get?_push_of_some _ e, turn_list a _, ⟨_, Heap.get?_push_size _ rfl, rfl, rfl⟩, fun b hb => ?_, q⟩
    have e : b = s1.heap.objs.size := by simpa using hb
    subst e
    exact I1.fpOk (Nat.le_refl _) (I1.hok.fresh (Nat.le_refl _))
  · subst e
    cases r1
    obtain ⟨its, rv, p, hz⟩ := I1.tuple hq
    refine wpAny_pyIter_tuple (show s1.heap.IsTuple a its.toArray from p) ?_
    refine ⟨s1.heap.objs.size, [s1.heap.objs.size], _, _, H1, rfl, I1.kept (t' := s1.toks) fun b o e => Heap.get?_push_of_some _ e, turn_tuple a _, ⟨_, Heap.get?_push_size _ rfl, rfl, rfl⟩, fun b hb => ?_, q⟩
    have e : b = s1.heap.objs.size := by simpa using hb
    subst e
    exact I1.fpOk (Nat.le_refl _) (I1.hok.fresh (Nat.le_refl _))
  · subst e
    obtain ⟨t, rfl⟩ := r1
    cases ha : y.cps.all (· < 128)
    · exact wpAny_pyIter_wide ha (pi_one (tk := s1.toks) I1 _ (turn_str _ y t "str_iterator" (.inr rfl)) ⟨_, Heap.get?_push_size _ rfl, rfl, rfl⟩ q)
    · exact wpAny_pyIter_ascii ha (pi_one (tk := s1.toks) I1 _ (turn_str _ y t "str_ascii_iterator" (.inl rfl)) ⟨_, Heap.get?_push_size _ rfl, rfl, rfl⟩ q)
/-- a list of the layer that stands at a -/
theorem wk_list {a : Addr} {its : List D} {gd : Gd} (h : ∀ S1, Stp S S1 → Rh T S1 → gdOk gd S1.hd → ∃ vs, SqL T.K S1.hp a vs ∧ repL T S1.fz S1.hp its vs) : Wk T S (Itl T.K a) its gd where
  go := fun i S1 s r g hi => by
    obtain ⟨vs, q, rp⟩ := h S1 s r g
    obtain ⟨v, ev, _⟩ := repL_at (i := i) rp (List.getElem?_eq_getElem hi)
    exact ⟨vs, v, q, ev⟩
  yld := fun i S1 x H' d s r g hi hy => by
    obtain ⟨vs, q, rp⟩ := h S1 s r g
    obtain ⟨v, ev, rv⟩ := repL_at rp hi
    obtain ⟨e1, e2⟩ := hy
    have := e2 vs q
    rw [ev] at this
    cases this
    exact ⟨S1, e1.symm, rfl, Stp.refl S1, r, rv⟩
  stop := fun i S1 s r g hj => by
    have hi := Nat.le_of_eq hj
    obtain ⟨vs, q, rp⟩ := h S1 s r g
    exact ⟨vs, q, by rw [← repL_len rp]; exact hi⟩
theorem wk_tup {a : Addr} {its : List D} {gd : Gd} (h : ∀ S1, Stp S S1 → Rh T S1 → gdOk gd S1.hd → ∃ vs, SqT T.K S1.hp a vs ∧ repL T S1.fz S1.hp its vs) : Wk T S (Itt T.K a) its gd where
  go := fun i S1 s r g hi => by
    obtain ⟨vs, q, rp⟩ := h S1 s r g
    obtain ⟨v, ev, _⟩ := repL_at (i := i) rp (List.getElem?_eq_getElem hi)
    exact ⟨vs, v, q, ev⟩
  yld := fun i S1 x H' d s r g hi hy => by
    obtain ⟨vs, q, rp⟩ := h S1 s r g
    obtain ⟨v, ev, rv⟩ := repL_at rp hi
    obtain ⟨e1, e2⟩ := hy
    have := e2 vs q
    rw [ev] at this
    cases this
    exact ⟨S1, e1.symm, rfl, Stp.refl S1, r, rv⟩
  stop := fun i S1 s r g hj => by
    have hi := Nat.le_of_eq hj
    obtain ⟨vs, q, rp⟩ := h S1 s r g
    exact ⟨vs, q, by rw [← repL_len rp]; exact hi⟩
theorem wk_str {x : Tx} {gd : Gd} (hx : x.length ≤ 16777216) (ho : okT x) : Wk T S (Its (st x)) (x.map fun c => .str [c]) gd where
  go := fun i S1 s r g hi => by
    show i < (st x).cps.size
    simpa [st] using hi
  yld := fun i S1 y H' d s r g hi hy => by
    obtain ⟨e1, c, ec, e2⟩ := hy
    have ec' : x[i]? = some c := by simpa [st] using ec
    rw [List.getElem?_map, ec'] at hi
    cases hi
    refine ⟨S1, e1.symm, rfl, Stp.refl S1, r, ?_⟩
    rw [e2]
    have hm : c ∈ x := List.mem_of_getElem? ec'
    exact mk_str (x := [c]) (by simp) fun q hq => by
      have e : q = c := by simpa using hq
      rw [e]
      exact ho c hm
  stop := fun i S1 s r g hj => by
    have hi := Nat.le_of_eq hj
    show (st x).cps.size ≤ i
    simpa [st] using hi
theorem wk_rng {lo : Int} {n : Nat} {gd : Gd} : Wk T S (Itr lo n) (rngD lo n) gd where
  go := fun i S1 s r g hi => by
    show i < n
    simpa [rngD] using hi
  yld := fun i S1 y H' d s r g hi hy => by
    obtain ⟨e1, e2⟩ := hy
    refine ⟨S1, e1.symm, rfl, Stp.refl S1, r, ?_⟩
    rw [e2]
    have : d = .int (lo + i) := by
      unfold rngD at hi
      rw [List.getElem?_map] at hi
      cases q : (List.range n)[i]? with
      | none => rw [q] at hi; cases hi
      | some j =>
        rw [q] at hi
        cases hi
        have := List.getElem?_range (n := n) (i := i)
        have hj : j = i := by
          have h2 := List.getElem?_eq_some_iff.mp q
          obtain ⟨h3, h4⟩ := h2
          simp at h4
          exact h4.symm
        rw [hj]
    rw [this]
    exact mk_int
  stop := fun i S1 s r g hj => by
    have hi := Nat.le_of_eq hj
    show n ≤ i
    simpa [rngD] using hi
/-- the list behind a value, as long as the guard holds -/
theorem list_stays (R : Rh T S) {d : D} {v : V} (r : rep T S.fz S.hp d v) {xs : List D} (h : view S.hd d = .lst xs) : ∃ a, v = .ref a ∧ ∀ S1, Stp S S1 → Rh T S1 → gdOk (gdOf d xs) S1.hd → ∃ vs, S1.hp a = some (.lst vs) ∧ repL T S1.fz S1.hp xs vs := by
  rcases view_cases R r with e | ⟨a, o, e1, e2, e3, e4, e5⟩
  · rw [e] at h
    subst h
    obtain ⟨a, vs, e1, f, e2, e3⟩ := rep_lst r
    refine ⟨a, e1, fun S1 s r1 _ => ⟨vs, (s.un a _ e2 (R.fzs a f).1 (by intro _ z; cases z)).1, e3.stp R s⟩⟩
  · subst e1
    refine ⟨a, e2, fun S1 s r1 g => ?_⟩
    have g' : S1.hd a = some (.lst xs) := g
    exact (r1.at_ a _ g').1
def dWalk (t : DTE) : DTI := fun ds hd Q => t ds hd fun ev hd1 => walkD hd1 ev.d fun xs g => Q xs g hd1
theorem walk_lI (hK : X.K = T.K) {t : DTE} {σ : L2.St} {H : Hp} {R : It → Hp → Prop} (h : lI T S0 (dWalk t) σ H R) : iVal X.K (lD T S0 (frz t)) σ H R := by
  obtain ⟨S, ds, eh, A, Qd, ht, k⟩ := h
  subst eh
  refine seq_lD (u := fun d ds hd1 Q => walkD hd1 d fun xs g => Qd xs g hd1) (Qa := fun (_ : Unit) _ => True) A ht fun d S1 v s1 A1 q1 h1 => ?_
  rw [hK]
  unfold walkD at h1
  split at h1
  · rename_i xs e
    obtain ⟨a, e1, hst⟩ := list_stays A1.rh q1 e
    obtain ⟨a', vs, e2, q2, _⟩ := view_lst A1.rh q1 e
    refine .inl ⟨a, e1, ⟨vs, ?_⟩, k xs _ S1 _ s1 A1.rh (wk_list fun S2 s2 r2 g2 => ?_) h1⟩
    · rw [e1] at e2; cases e2; exact SqL.of q2
    · obtain ⟨vs, z1, z2⟩ := hst S2 s2 r2 g2
      exact ⟨vs, SqL.of z1, z2⟩
  · rename_i xs e
    obtain ⟨a, vs, e1, q2, q3⟩ := view_rol A1.rh q1 e
    refine .inl ⟨a, e1, ⟨vs, q2.l⟩, k xs _ S1 _ s1 A1.rh (wk_list fun S2 s2 r2 _ => ⟨vs, (s2.sqO A1.rh q2).l, q3.stp A1.rh s2⟩) h1⟩
  · rename_i xs e
    obtain ⟨a, vs, e1, q2, q3⟩ := view_tup A1.rh q1 e
    exact .inr (.inl ⟨a, e1, ⟨vs, q2⟩, k xs _ S1 _ s1 A1.rh (wk_tup fun S2 s2 r2 _ => ⟨vs, s2.sqT A1.rh q2, q3.stp A1.rh s2⟩) h1⟩)
  · rename_i x e
    obtain ⟨e1, e2, e3⟩ := view_str A1.rh q1 e
    exact .inr (.inr ⟨st x, e1, k _ _ S1 _ s1 A1.rh (wk_str e2 e3) h1⟩)
  · exact h1.elim
theorem snd_walk (hK : X.K = T.K) {tg e : Expr} {t : DTE} (h : PE X e (lE T S0 t)) : PI X tg e (lI T S0 (dWalk t)) := pi_imp (pi_val (pe_frz h)) fun σ H R q => walk_lI hK q
def dRng1 (t : DTE) : DTI := fun ds hd Q => t ds hd fun ev hd1 => match ev.d with
    | .int j => -(2 ^ 62) ≤ j ∧ j < 2 ^ 62 ∧ Q (rngD 0 j.toNat) none hd1
    | _ => False
def dRng2 (t w : DTE) : DTI := fun ds hd Q => t ds hd fun ev hd1 => w ds hd1 fun ev2 hd2 => rng2D ev.d ev2.d hd2 Q
theorem snd_rng1 {tg a : Expr} {t : DTE} {p pos : Pos} (hg : Gl X "range") (hm : X.mg "range" = none) (ha : noStar a = true) (h : PE X a (lE T S0 t)) : PI X tg (.Call (.Name "range" p) [a] [] pos) (lI T S0 (dRng1 t)) :=
  pi_imp (pi_range1 hg hm (pa_cons (pe_frz h) pa_nil (star_of ha)) (by rw [star_of ha]; rfl)) fun σ H R ⟨S, ds, eh, A, Qd, ht, k⟩ => by
    subst eh
    refine seq_lD (u := fun d ds hd1 (Q : Unit → Hd → Prop) => match d with
      | .int j => -(2 ^ 62) ≤ j ∧ j < 2 ^ 62 ∧ Qd (rngD 0 j.toNat) none hd1
      | _ => False) (Qa := fun (_ : Unit) _ => True) A ht fun d S1 v s1 A1 q1 h1 => ?_
    split at h1
    · rename_i j
      exact ⟨j, by rw [rep_int q1], h1.1, h1.2.1, k _ _ S1 _ s1 A1.rh wk_rng h1.2.2⟩
    · exact h1.elim
theorem snd_rng2 {tg a b : Expr} {t w : DTE} {p pos : Pos} (hg : Gl X "range") (hm : X.mg "range" = none) (ha : noStar a = true) (hb : noStar b = true) (h : PE X a (lE T S0 t)) (h2 : PE X b (lE T S0 w)) :
    PI X tg (.Call (.Name "range" p) [a, b] [] pos) (lI T S0 (dRng2 t w)) :=
  pi_imp (pi_range2 hg hm (pa_cons (pe_frz h) (pa_cons (pe_frz h2) pa_nil (star_of hb)) (star_of ha)) (by rw [star_of ha, star_of hb]; rfl) (by rw [star_of hb]; rfl)) fun σ H R ⟨S, ds, eh, A, Qd, ht, k⟩ => by
    subst eh
    show lD T S0 (frz t) σ S.hp fun x H1 => lD T S0 (frz w) σ H1 fun y H2 => ∃ i j : Int, [x, y] = [.int i, .int j] ∧ (-(2 ^ 62) ≤ i ∧ i < 2 ^ 62 ∧ -(2 ^ 62) ≤ j ∧ j < 2 ^ 62) ∧ R (Itr i (j - i).toNat) H2
    refine seq_lD (t := frz t) (u := fun d ds hd1 (Q : Unit → Hd → Prop) => frz w ds hd1 fun e hd2 => rng2D d e hd2 Qd) (Qa := fun (_ : Unit) _ => True) A ht fun d S1 v s1 A1 q1 h1 => ?_
    refine seq_lD (u := fun e ds hd2 (Q : Unit → Hd → Prop) => rng2D d e hd2 Qd) (Qa := fun (_ : Unit) _ => True) A1 h1 fun e S2 x s2 A2 q2 h2 => ?_
    unfold rng2D at h2
    split at h2
    · rename_i i j
      exact ⟨i, j, by rw [rep_int q1, rep_int q2], h2.1, k _ _ S2 _ (s1.trans s2) A2.rh wk_rng h2.2⟩
    · exact h2.elim
theorem enumD_at : ∀ {its : List D} {n i : Nat} {d : D}, (enumD n its)[i]? = some d → ∃ x, its[i]? = some x ∧ d = .tup [.int ((n + i : Nat) : Int), x]
  | [], n, i, d, h => by simp [enumD] at h
  | x :: r, n, 0, d, h => by
    have : D.tup [.int n, x] = d := by simpa [enumD] using h
    exact ⟨x, rfl, by rw [← this]; rfl⟩
  | x :: r, n, i + 1, d, h => by
    obtain ⟨y, h1, h2⟩ := enumD_at (its := r) (n := n + 1) (i := i) (by simpa [enumD] using h)
    refine ⟨y, by simpa using h1, ?_⟩
    rw [h2, Nat.add_right_comm, Nat.add_assoc]
theorem enumD_len : ∀ {its : List D} {n : Nat}, (enumD n its).length = its.length
  | [], _ => rfl
  | _ :: r, n => by simp [enumD, enumD_len (its := r)]
theorem wk_enum {a : Addr} {its : List D} {gd : Gd} (h : ∀ S1, Stp S S1 → Rh T S1 → gdOk gd S1.hd → ∃ vs, SqL T.K S1.hp a vs ∧ repL T S1.fz S1.hp its vs) : Wk T S (Ite T.K a) (enumD 0 its) gd where
  go := fun i S1 s r g hi => by
    obtain ⟨vs, q, rp⟩ := h S1 s r g
    rw [enumD_len] at hi
    obtain ⟨v, ev, _⟩ := repL_at (i := i) rp (List.getElem?_eq_getElem hi)
    exact ⟨vs, v, q, ev⟩
  yld := fun i S1 x H' d s r g hi hy => by
    obtain ⟨vs, q, rp⟩ := h S1 s r g
    obtain ⟨y, hy1, hy2⟩ := enumD_at hi
    obtain ⟨v, ev, rv⟩ := repL_at rp hy1
    obtain ⟨p, z, e1, hp, e2, e3⟩ := hy
    have := e3 vs q
    rw [ev] at this
    cases this
    subst e2 e1
    refine ⟨S1.new p (.tup [.int (i : Nat), v]), rfl, rfl, Stp.new hp, r.new hp, ?_⟩
    rw [hy2, Nat.zero_add]
    exact mk_tup (SqT.of Sw.new_at) (repL_mk mk_int (repL_mk (rv.stp r (Stp.new hp)) repL_mk0))
  stop := fun i S1 s r g hj => by
    have hi := Nat.le_of_eq hj
    obtain ⟨vs, q, rp⟩ := h S1 s r g
    rw [enumD_len] at hi
    exact ⟨vs, q, by rw [← repL_len rp]; exact hi⟩
end
end DL
set_option Elab.async false
set_option linter.all false
set_option maxRecDepth 100000
set_option maxHeartbeats 2000000
namespace DL
open PySem PySem.Spec PyProof.Rows L2
section
variable {T : Tb} {S0 S S' : Sw} {X : Cx}
section
variable {F : Fz} {H H' : Hp}
mutual
theorem rep_keep (k1 : ∀ a xs, SqT T.K H a xs → SqT T.K H' a xs) (k2 : ∀ a o, F a → H a = some o → H' a = some o) (k3 : ∀ a o u, H a = some (.frz o u) → H' a = some (.frz o u)) : ∀ {d : D} {v : V}, rep T F H d v → rep T F H' d v
  | .non, _, h => h
  | .bl _, _, h => h
  | .int _, _, h => h
  | .str _, _, h => h
  | .ref _, _, h => h
  | .tup xs, v, h => by
    unfold rep at h ⊢
    obtain ⟨a, vs, e, q, r⟩ := h
    exact ⟨a, vs, e, k1 a vs q, repL_keep k1 k2 k3 r⟩
  | .lst xs, v, h => by
    unfold rep at h ⊢
    obtain ⟨a, vs, e, f, q, r⟩ := h
    exact ⟨a, vs, e, f, k2 a _ f q, repL_keep k1 k2 k3 r⟩
  | .rol xs, v, h => by
    unfold rep at h ⊢
    obtain ⟨a, vs, e, q, r⟩ := h
    refine ⟨a, vs, e, ?_, repL_keep k1 k2 k3 r⟩
    rcases q with ⟨o, q⟩ | q
    · exact .inl ⟨o, k3 a o _ q⟩
    · exact .inr q
  | .dic kvs, v, h => by
    unfold rep at h ⊢
    obtain ⟨a, vs, e, f, q, r⟩ := h
    exact ⟨a, vs, e, f, k2 a _ f q, repK_keep k1 k2 k3 r⟩
  | .obj c fs, v, h => by
    unfold rep at h ⊢
    obtain ⟨a, dx, vs, e, f, q, r⟩ := h
    exact ⟨a, dx, vs, e, f, k2 a _ f q, repF_keep k1 k2 k3 r⟩
theorem repL_keep (k1 : ∀ a xs, SqT T.K H a xs → SqT T.K H' a xs) (k2 : ∀ a o, F a → H a = some o → H' a = some o) (k3 : ∀ a o u, H a = some (.frz o u) → H' a = some (.frz o u)) : ∀ {d : List D} {v : List V}, repL T F H d v → repL T F H' d v
  | [], _, h => by unfold repL at h ⊢; exact h
  | d :: ds, _, h => by
    unfold repL at h ⊢
    obtain ⟨v, r, e, h1, h2⟩ := h
    exact ⟨v, r, e, rep_keep k1 k2 k3 h1, repL_keep k1 k2 k3 h2⟩
theorem repK_keep (k1 : ∀ a xs, SqT T.K H a xs → SqT T.K H' a xs) (k2 : ∀ a o, F a → H a = some o → H' a = some o) (k3 : ∀ a o u, H a = some (.frz o u) → H' a = some (.frz o u)) : ∀ {d : List (DK × D)} {v : List (Key × V)}, repK T F H d v → repK T F H' d v
  | [], _, h => by unfold repK at h ⊢; exact h
  | (q, d) :: ds, _, h => by
    unfold repK at h ⊢
    obtain ⟨v, r, e, h1, ho, h2⟩ := h
    exact ⟨v, r, e, rep_keep k1 k2 k3 h1, ho, repK_keep k1 k2 k3 h2⟩
theorem repF_keep (k1 : ∀ a xs, SqT T.K H a xs → SqT T.K H' a xs) (k2 : ∀ a o, F a → H a = some o → H' a = some o) (k3 : ∀ a o u, H a = some (.frz o u) → H' a = some (.frz o u)) : ∀ {d : List (Nat × D)} {v : List (Str × V)}, repF T F H d v → repF T F H' d v
  | [], _, h => by unfold repF at h ⊢; exact h
  | (q, d) :: ds, _, h => by
    unfold repF at h ⊢
    obtain ⟨v, r, e, h1, h2⟩ := h
    exact ⟨v, r, e, rep_keep k1 k2 k3 h1, repF_keep k1 k2 k3 h2⟩
end
end
section
variable {p : Addr} {vs ws : List V}
theorem chg_1 (h : S.hp p = some (.lst vs)) : ∀ a xs, SqT T.K S.hp a xs → SqT T.K (upd S.hp p (.lst ws)) a xs := fun a xs q => by
  rcases q with (q | ⟨o, q⟩) | q
  · exact .inl (.inl ((upd_ne fun z => by rw [z, h] at q; cases q).trans q))
  · exact .inl (.inr ⟨o, (upd_ne fun z => by rw [z, h] at q; cases q).trans q⟩)
  · exact .inr q
theorem chg_2 (f : ¬ S.fz p) : ∀ a o, S.fz a → S.hp a = some o → upd S.hp p (.lst ws) a = some o := fun a o z q => (upd_ne fun e => by rw [e] at z; exact f z).trans q
theorem chg_3 (h : S.hp p = some (.lst vs)) : ∀ a o u, S.hp a = some (.frz o u) → upd S.hp p (.lst ws) a = some (.frz o u) := fun a o u q => (upd_ne fun z => by rw [z, h] at q; cases q).trans q
theorem Rh.chg (R : Rh T S) (h : S.hp p = some (.lst vs)) (n : S.hd p = none) (f : ¬ S.fz p) : Rh T (S.new p (.lst ws)) := by
  refine ⟨fun a o e => ?_, fun a z => ?_⟩
  · obtain ⟨q, nf⟩ := R.at_ a o e
    have ne : a ≠ p := fun z => by rw [z] at e; have e' : S.hd p = some o := e; rw [n] at e'; cases e'
    refine ⟨?_, nf⟩
    cases o with
    | lst xs => obtain ⟨us, q1, q2⟩ := q; exact ⟨us, (upd_ne ne).trans q1, repL_keep (chg_1 h) (chg_2 f) (chg_3 h) q2⟩
    | dic xs => obtain ⟨us, q1, q2⟩ := q; exact ⟨us, (upd_ne ne).trans q1, repK_keep (chg_1 h) (chg_2 f) (chg_3 h) q2⟩
    | ins c xs => obtain ⟨dx, us, q1, q2⟩ := q; exact ⟨dx, us, (upd_ne ne).trans q1, repF_keep (chg_1 h) (chg_2 f) (chg_3 h) q2⟩
  · obtain ⟨n2, w, ew, nt⟩ := R.fzs a z
    have ne : a ≠ p := fun e => f (e ▸ z)
    exact ⟨n2, w, (upd_ne ne).trans ew, nt⟩
theorem Stp.chg {B : Sw} (s : Stp B S) (hb : B.hp p = none) : Stp B (S.new p (.lst ws)) :=
  ⟨s.fz, fun a o e n => by
    obtain ⟨o', h1, e1, t1, n1, f1⟩ := s.uu a o e n
    have ne : a ≠ p := fun z => by rw [z, hb] at e; cases e
    exact ⟨o', (upd_ne ne).trans h1, e1, t1, n1, f1⟩⟩
end
/-! ### slots -/
theorem wipe_at : ∀ {vs : List Nat} {σ : L2.St} {j : Nat}, (wipe σ vs)[j]? = if j ∈ vs ∧ j < σ.length then some none else σ[j]?
  | [], σ, j => by simp [wipe]
  | v :: vs, σ, j => by
    show ((wipe σ vs).set v none)[j]? = _
    rw [List.getElem?_set, wipe_length, wipe_at (vs := vs)]
    by_cases hv : v = j
    · subst hv
      by_cases hl : v < σ.length
      · simp [hl]
      · simp [hl]
    · have : ¬ j = v := fun e => hv e.symm
      simp [hv, this]
theorem wipe_set {vs : List Nat} {σ : L2.St} {i : Nat} {x : Option V} (h : i ∈ vs) : wipe (σ.set i x) vs = wipe σ vs := by
  apply List.ext_getElem?
  intro j
  rw [wipe_at, wipe_at, List.length_set, List.getElem?_set]
  by_cases hi : i = j
  · subst hi
    by_cases hl : i < σ.length
    · simp [h, hl]
    · simp [h, hl]
  · simp [hi]
theorem wipeD_at : ∀ {vs : List Nat} {σ : Slt} {j : Nat}, (wipeD σ vs)[j]? = if j ∈ vs ∧ j < σ.length then some none else σ[j]?
  | [], σ, j => by simp [wipeD]
  | v :: vs, σ, j => by
    have hl' : (wipeD σ vs).length = σ.length := by
      have : ∀ vs : List Nat, (wipeD σ vs).length = σ.length := by
        intro vs
        induction vs with
        | nil => rfl
        | cons w ws ih => show ((wipeD σ ws).set w none).length = _; rw [List.length_set, ih]
      exact this vs
    show ((wipeD σ vs).set v none)[j]? = _
    rw [List.getElem?_set, hl', wipeD_at (vs := vs)]
    by_cases hv : v = j
    · subst hv
      by_cases hl : v < σ.length
      · simp [hl]
      · simp [hl]
    · have : ¬ j = v := fun e => hv e.symm
      simp [hv, this]
theorem wipeD_len {vs : List Nat} {σ : Slt} : (wipeD σ vs).length = σ.length := by
  induction vs with
  | nil => rfl
  | cons w ws ih => show ((wipeD σ ws).set w none).length = _; rw [List.length_set, ih]
theorem Rs.wipe {ds : Slt} {σ : L2.St} (r : Rs T S ds σ) (vs : List Nat) : Rs T S (wipeD ds vs) (L2.wipe σ vs) :=
  ⟨by rw [wipeD_len, wipe_length, r.len], fun i d e => by
    rw [wipeD_at] at e
    rw [wipe_at]
    by_cases h : i ∈ vs ∧ i < ds.length
    · rw [if_pos h] at e; cases e
    · rw [if_neg h] at e
      rw [if_neg (by rw [← r.len]; exact h)]
      exact r.at_ i d e⟩
theorem Rs.set {ds : Slt} {σ : L2.St} (r : Rs T S ds σ) {d : D} {v : V} (q : rep T S.fz S.hp d v) (i : Nat) : Rs T S (ds.set i (some d)) (σ.set i (some v)) :=
  ⟨by rw [List.length_set, List.length_set, r.len], fun j e h => by
    rw [List.getElem?_set] at h ⊢
    by_cases hi : i = j
    · subst hi
      rw [if_pos rfl] at h ⊢
      by_cases hl : i < ds.length
      · rw [if_pos hl] at h
        rw [if_pos (by rw [← r.len]; exact hl)]
        cases h
        exact ⟨v, rfl, q⟩
      · rw [if_neg hl] at h; cases h
    · rw [if_neg hi] at h ⊢
      exact r.at_ j e h⟩
/-! ### targets -/
def gNames : List Nat → TGs
  | [] => gNil
  | i :: r => gCons (gName i) (gNames r)
def gOr (t u : TG) : TG := fun v σ H Q => t v σ H Q ∨ u v σ H Q
theorem pg_or {X : Cx} {e : Expr} {t u : TG} (h1 : PG X e t) (h2 : PG X e u) : PG X e (gOr t u) := ⟨fun pins s σ H v w Q I r q => q.elim (h1.run pins s σ H v w Q I r) (h2.run pins s σ H v w Q I r)⟩
def gV (T : Tb) : IG → TG
  | .nm i => gName i
  | .tp is => gOr (gTup T.K is.length (gNames is)) (gUnl T.K is.length (gNames is))
def gIx : IG → List Nat
  | .nm i => [i]
  | .tp is => is
theorem names_ok {own : List Nat} {Qd : Slt → Prop} {Q : L2.St → Hp → Prop} : ∀ {is : List Nat} {xs : List D} {vs : List V} {ds : Slt} {σ : L2.St}, (∀ i ∈ is, i ∈ own) → xs.length = is.length → repL T S.fz S.hp xs vs → Rs T S ds σ →
    Qd ((is.zip xs).foldl (fun a p => a.set p.1 (some p.2)) ds) → (∀ ds1 σ1, Rs T S ds1 σ1 → L2.wipe σ1 own = L2.wipe σ own → Qd ds1 → Q σ1 S.hp) → gNames is vs σ S.hp Q
  | [], xs, vs, ds, σ, _, hl, r, rs, h, k => by
    have : xs = [] := List.length_eq_zero_iff.mp hl
    subst this
    exact ⟨repL_nil r, k ds σ rs rfl h⟩
  | i :: is, [], _, _, _, _, hl, _, _, _, _ => by cases hl
  | i :: is, x :: xs, vs, ds, σ, ho, hl, r, rs, h, k => by
    obtain ⟨v, vr, e, r1, r2⟩ := repL_cons r
    subst e
    refine ⟨v, vr, rfl, ?_⟩
    exact names_ok (own := own) (ds := ds.set i (some x)) (fun j hj => ho j (by simp [hj])) (by simpa using hl) r2 (rs.set r1 i) h fun ds1 σ1 a b c => k ds1 σ1 a (b.trans (wipe_set (ho i (by simp)))) c
theorem bind_ok {own : List Nat} {g : IG} {d : D} {v : V} {ds : Slt} {σ : L2.St} {Qd : Slt → Prop} {Q : L2.St → Hp → Prop} (ho : ∀ i ∈ gIx g, i ∈ own) (r : rep T S.fz S.hp d v) (rs : Rs T S ds σ) (h : bindG g d ds Qd)
    (k : ∀ ds1 σ1, Rs T S ds1 σ1 → L2.wipe σ1 own = L2.wipe σ own → Qd ds1 → Q σ1 S.hp) : gV T g v σ S.hp Q := by
  cases g with
  | nm i => exact k _ _ (rs.set r i) (wipe_set (ho i (by simp [gIx]))) h
  | tp is =>
    unfold bindG at h
    split at h
    · rename_i i hi; cases hi
    · rename_i is' hi
      cases hi
      split at h
      · rename_i xs
        obtain ⟨a, vs, e, q, rl⟩ := rep_tup r
        exact .inl ⟨a, vs, e, q, by rw [← repL_len rl]; exact h.1, names_ok ho h.1 rl rs h.2 k⟩
      · rename_i xs
        obtain ⟨a, vs, e, _, q, rl⟩ := rep_lst r
        exact .inr ⟨a, vs, e, SqL.of q, by rw [← repL_len rl]; exact h.1, names_ok ho h.1 rl rs h.2 k⟩
      · exact h.elim
end
end DL
set_option Elab.async false
set_option linter.all false
set_option maxRecDepth 100000
set_option maxHeartbeats 2000000
namespace DL
open PySem PySem.Spec PyProof.Rows L2
section
variable {T : Tb} {S0 S S' : Sw} {X : Cx}
def dYes : DTT := fun _ hd Q => Q true hd
def dOne (g : IG) (tt : DTT) (te : DTE) (own : List Nat) (ds : Slt) : D → Hd → (Option D → Hd → Prop) → Prop := fun x hd' K => bindG g x (wipeD ds own) fun ds1 => tt ds1 hd' fun b hd2 => match b with
    | true => te ds1 hd2 fun ev hd'' => K (some ev.d) hd''
    | false => K none hd2
def dComp (tI : DTI) (g : IG) (tt : DTT) (te : DTE) (own : List Nat) : DTE := fun ds hd Q => tI ds hd fun its gd hd1 => its.length ≤ 16777216 ∧
  turns (dOne g tt te own ds) gd its [] hd1 fun l hd2 => Q (.nl l) hd2
theorem wipe_wipe {vs : List Nat} {σ : L2.St} : wipe (wipe σ vs) vs = wipe σ vs := by
  apply List.ext_getElem?
  intro j
  rw [wipe_at, wipe_length, wipe_at]
  by_cases h : j ∈ vs ∧ j < σ.length
  · rw [if_pos h, if_pos h]
  · rw [if_neg h, if_neg h]
theorem lT_yes {Y : Cx} {own : List Nat} : ∀ {σ : L2.St} {H : Hp} {Q : Bool → Hp → Prop}, lT T S0 dYes σ H Q → tYes σ H Q := fun {σ H Q} ⟨S, ds, eh, A, Qd, ht, k⟩ => by
  subst eh
  exact k true S (Stp.refl S) A.rh ht
theorem comp_lE {own : List (Str × Nat)} {g : IG} {tI : DTI} {tt : DTT} {te : DTE} (ho : ∀ i ∈ gIx g, i ∈ own.map (·.2)) : ∀ σ H Q, lE T S0 (dComp tI g tt te (own.map (·.2))) σ H Q →
    tLc (lI T S0 tI) (gV T g) (lT T S0 tt) (lD T S0 (frz te)) (own.map (·.2)) σ H Q := by
  intro σ H Q ⟨S, ds, eh, A, Qd, htt, k⟩
  subst eh
  refine ⟨S, ds, rfl, A, _, htt, fun its gd B J s1 R1 wk hq L hD => ?_⟩
  obtain ⟨hlen, hq⟩ := hq
  refine ⟨fun i m H => ∃ (S2 : Sw) (acc : List DL.D) (vs : List V), S2.hp = H ∧ Stp B S2 ∧ Rh T S2 ∧ S2.hp L = some (.lst vs) ∧ S2.hd L = none ∧ ¬ S2.fz L ∧ repL T S2.fz S2.hp acc vs ∧ i + m = its.length ∧ acc.length ≤ i ∧ turns (dOne g tt te (own.map (·.2)) ds) gd (its.drop i) acc S2.hd fun l hd2 => Qd (.nl l) hd2, ?_, ?_⟩
  · refine ⟨its.length, B.new L (.lst []), [], [], rfl, Stp.new hD, R1.new hD, Sw.new_at, (R1.there hD).1, (R1.there hD).2, repL_mk0, by omega, Nat.le_refl _, ?_⟩
    rw [List.drop_zero]
    exact hq
  · rintro i m H ⟨S2, acc, vs, rfl, s2, R2, e1, e2, e3, rp, him, hacc, hw⟩
    cases m with
    | zero =>
      have hdrop : its.drop i = [] := List.drop_eq_nil_of_le (by omega)
      rw [hdrop] at hw
      obtain ⟨hg0, hk⟩ := hw
      refine .inl ⟨wk.stop i S2 s2 R2 hg0 (by omega), ?_⟩
      refine k (.nl acc) S2 (.ref L) (s1.trans s2) R2 ⟨L, vs, rfl, e1, rp, e2, e3, ?_⟩ hk
      cases q : S.hp L with
      | none => exact .inl rfl
      | some o =>
        by_cases hn : S.hd L = none
        · obtain ⟨o', h1, _⟩ := s1.uu L o q hn
          rw [hD] at h1; cases h1
        · exact .inr hn
    | succ m =>
      have hi : i < its.length := by omega
      have hdrop : its.drop i = its[i] :: its.drop (i + 1) := (List.getElem_cons_drop hi).symm
      rw [hdrop] at hw
      obtain ⟨hg0, hk⟩ := hw
      refine .inr ⟨wk.go i S2 s2 R2 hg0 hi, fun H' => ∃ (S2 : Sw) (acc : List DL.D) (vs : List V), S2.hp = H' ∧ Stp B S2 ∧ Rh T S2 ∧ S2.hp L = some (.lst vs) ∧ S2.hd L = none ∧ ¬ S2.fz L ∧ repL T S2.fz S2.hp acc vs ∧ i + 1 + m = its.length ∧ acc.length ≤ i + 1 ∧ turns (dOne g tt te (own.map (·.2)) ds) gd (its.drop (i + 1)) acc S2.hd fun l hd2 => Qd (.nl l) hd2,
        fun H' w => ⟨m, Nat.lt_succ_self m, w⟩, fun x H' hy => ?_⟩
      obtain ⟨S3, rfl, ehd, s3, R3, rx⟩ := wk.yld i S2 x H' its[i] s2 R2 hg0 (List.getElem?_eq_getElem hi) hy
      rw [← ehd] at hk
      refine bind_ok (own := own.map (·.2)) ho rx (((A.rs.stp A.rh (s1.trans (s2.trans s3)))).wipe (own.map (·.2))) hk fun ds1 σ1 rs1 hw1 hb => ⟨hw1.trans wipe_wipe, ?_⟩
      refine ⟨S3, ds1, rfl, ⟨A.stp.trans (s1.trans (s2.trans s3)), R3, rs1⟩, _, hb, fun b S4 s4 R4 hb4 => ?_⟩
      obtain ⟨q1, q2, q3⟩ := (s3.trans s4).un L _ e1 e2 (by intro _ z; cases z)
      cases b with
      | false =>
        rw [if_neg Bool.false_ne_true]
        exact ⟨S4, acc, vs, rfl, s2.trans (s3.trans s4), R4, q1, q2, fun z => e3 (q3 z), rp.stp R2 (s3.trans s4), by omega, by omega, hb4⟩
      | true =>
        rw [if_pos rfl]
        refine ⟨S4, ds1, rfl, ⟨A.stp.trans (s1.trans (s2.trans (s3.trans s4))), R4, rs1.stp R3 s4⟩, fun d hd'' => turns (dOne g tt te (own.map (·.2)) ds) gd (its.drop (i + 1)) (acc ++ [d]) hd'' fun l hd2 => Qd (.nl l) hd2, hb4, fun d S5 y s5 R5 q5 h5 => ?_⟩
        obtain ⟨p1, p2, p3⟩ := s5.un L _ q1 q2 (by intro _ z; cases z)
        have nf5 : ¬ S5.fz L := fun z => e3 (q3 (p3 z))
        refine ⟨vs, p1, by rw [← repL_len rp, line]; omega, S5.new L (.lst (vs ++ [y])), acc ++ [d], vs ++ [y], rfl, (s2.trans (s3.trans (s4.trans s5))).chg hD, R5.chg p1 p2 nf5, Sw.new_at, p2, nf5, ?_, by omega, by rw [List.length_append, List.length_singleton]; omega, h5⟩
        exact repL_keep (chg_1 p1) (chg_2 nf5) (chg_3 p1) (repL_app (rp.stp R2 (s3.trans (s4.trans s5))) (repL_mk q5 repL_mk0))
theorem snd_comp {elt tg iter : Expr} {ifs : List Expr} {scope : Scope} {own : List (Str × Nat)} {pos : Pos} {g : IG} {tI : DTI} {tt : DTT} {te : DTE} (hc : X.calm = true) (hN : X.N.Nodup) (hi : PI X tg iter (lI T S0 tI)) (ok : BlkOk X.N X.env.scope scope own)
    (hg : ∀ (s : Shared) (H : Hp) (C : Addr) (cl : List (Str × Addr)) (fp : List Addr), PG (X.blk s H scope (compEnvC scope cl C X.env) fp) tg (gV T g))
    (ht : ∀ (s : Shared) (H : Hp) (C : Addr) (cl : List (Str × Addr)) (fp : List Addr), PTs (X.blk s H scope (compEnvC scope cl C X.env) fp) ifs (lT T S0 tt))
    (he : ∀ (s : Shared) (H : Hp) (C : Addr) (cl : List (Str × Addr)) (fp : List Addr), PE (X.blk s H scope (compEnvC scope cl C X.env) fp) elt (lD T S0 (frz te)))
    (ho : ∀ i ∈ gIx g, i ∈ own.map (·.2)) (hs : ∀ x, foldedSetIterable iter X.env x = pure x) : PE X (.ListComp elt [⟨tg, iter, ifs, 0⟩] scope pos) (lE T S0 (dComp tI g tt te (own.map (·.2)))) := by
  exact pe_imp (pe_lc hc hN hi ok hg ht he hs) (comp_lE ho)
end
end DL
set_option Elab.async false
set_option linter.all false
set_option maxRecDepth 100000
set_option maxHeartbeats 2000000
/-! a comprehension over the keys of a tracked dict: locked while it runs -/
namespace DL
open PySem PySem.Spec PyProof.Rows L2
section
variable {T : Tb} {S0 S S' : Sw} {X : Cx}
/-- the keys of the dict at p, which is away from what is tracked -/
def dKeys (p : Addr) (kvs : List (DK × D)) (t : DTE) : DTI := fun ds hd Q => t ds hd fun ev hd1 => (ev.d = .ref p ∧ hd1 p = none) ∧ Q (kvs.map fun q => dkD q.1) none hd1
def dCompD (td : DTE) (g : IG) (te : DTE) (own : List Nat) : DTE := fun ds hd Q => ∃ p kvs, hd p = some (.dic kvs) ∧ td ds (del hd p) fun ev hd1 => (ev.d = .ref p ∧ hd1 p = none) ∧ (kvs.length ≤ 16777216 ∧
  turns (dOne g dYes te own ds) none (kvs.map fun q => dkD q.1) [] hd1 fun l hd2 => hd2 p = none ∧ Q (.nl l) (put hd2 p (.dic kvs)))
theorem repK_keys {F : Fz} {H : Hp} : ∀ {kvs : List (DK × D)} {gs : List (Key × V)}, repK T F H kvs gs → gs.map (·.1) = kvs.map fun q => dkK q.1
  | [], gs, h => by unfold repK at h; subst h; rfl
  | (k, d) :: kvs, gs, h => by
    unfold repK at h
    obtain ⟨v, r, e, _, _, h2⟩ := h
    subst e
    simp [repK_keys h2]
theorem repK_okk {F : Fz} {H : Hp} : ∀ {kvs : List (DK × D)} {gs : List (Key × V)}, repK T F H kvs gs → ∀ q ∈ kvs, okK q.1
  | [], gs, h, q, hq => by cases hq
  | (k, d) :: kvs, gs, h, q, hq => by
    unfold repK at h
    obtain ⟨v, r, e, _, ok, h2⟩ := h
    rcases List.mem_cons.mp hq with rfl | hq
    · exact ok
    · exact repK_okk h2 q hq
theorem rep_key {F : Fz} {H : Hp} {k : DK} (ok : okK k) : rep T F H (dkD k) (kV (dkK k)) := by
  cases k with
  | i n => exact mk_int
  | s x => exact mk_str ok.1 ok.2
theorem wk_keys {p : Addr} {od : Obj} {kvs : List (DK × D)} {gs : List (Key × V)} (h : S.hp p = some (.frz od (.dK gs))) (hn : S.hd p = none) (hk : gs.map (·.1) = kvs.map fun q => dkK q.1) (ok : ∀ q ∈ kvs, okK q.1) : Wk T S (Itk p od gs) (kvs.map fun q => dkD q.1) none where
  go := fun i S1 s r g hi => by
    have hl : gs.length = kvs.length := by simpa using congrArg List.length hk
    exact ⟨(s.un p _ h hn (by intro _ z; cases z)).1, by rw [hl]; simpa using hi⟩
  yld := fun i S1 x H' d s r g hi hy => by
    obtain ⟨e1, k, v, e2, e3⟩ := hy
    rw [List.getElem?_map] at hi
    cases e4 : kvs[i]? with
    | none => rw [e4] at hi; cases hi
    | some q =>
      rw [e4] at hi
      cases hi
      have e5 : (gs.map (·.1))[i]? = some k := by rw [List.getElem?_map, e2]; rfl
      rw [hk, List.getElem?_map, e4] at e5
      have e6 : dkK q.1 = k := by simpa using e5
      refine ⟨S1, e1.symm, rfl, Stp.refl S1, r, ?_⟩
      rw [e3, ← e6]
      exact rep_key (ok q (List.mem_of_getElem? e4))
  stop := fun i S1 s r g hj => by
    have hl : gs.length = kvs.length := by simpa using congrArg List.length hk
    have hj' : kvs.length = i := by simpa using hj
    exact ⟨(s.un p _ h hn (by intro _ z; cases z)).1, by omega⟩
theorem keys_lI {p : Addr} {od : Obj} {kvs : List (DK × D)} {gs : List (Key × V)} {t : DTE} (hk : gs.map (·.1) = kvs.map fun q => dkK q.1) (ok : ∀ q ∈ kvs, okK q.1) {σ : L2.St} {H : Hp} {R : It → Hp → Prop} (hH : H p = some (.frz od (.dK gs)))
    (h : lI T S0 (fun ds hd Q => hd p = none ∧ dKeys p kvs t ds hd Q) σ H R) : iKeys (lD T S0 (frz t)) σ H R := by
  obtain ⟨S, ds, eh, A, Qd, ⟨hn, ht⟩, k⟩ := h
  subst eh
  refine seq_lD (u := fun d ds hd1 (Q : Unit → Hd → Prop) => (d = .ref p ∧ hd1 p = none) ∧ Qd (kvs.map fun q => dkD q.1) none hd1) (Qa := fun (_ : Unit) _ => True) A ht fun d S1 v s1 A1 q1 h1 => ?_
  obtain ⟨⟨e1, e2⟩, h1⟩ := h1
  subst e1
  have hp := (s1.un p _ hH hn (by intro _ z; cases z)).1
  exact ⟨p, od, rep_ref q1, .inl ⟨gs, hp, k _ _ S1 _ s1 A1.rh (wk_keys hp e2 hk ok) h1⟩⟩
theorem del_sq {h : Hd} {a : Addr} : del h a a = none := by unfold del; rw [if_pos rfl]
theorem del_nq {h : Hd} {a b : Addr} (n : b ≠ a) : del h a b = h b := by unfold del; rw [if_neg n]
/-- the dict at p is locked -/
def Sw.lck (S : Sw) (p : Addr) (o : HO) : Sw := ⟨del S.hd p, S.fz, upd S.hp p o⟩
def Sw.ulk (S : Sw) (p : Addr) (kvs : List (DK × D)) (gs : List (Key × V)) : Sw := ⟨DL.put S.hd p (.dic kvs), S.fz, upd S.hp p (.dK gs)⟩
section
variable {p : Addr} {gs : List (Key × V)} {od : Obj} {kvs : List (DK × D)}
theorem lck_1 (h : S.hp p = some (.dK gs)) : ∀ a xs, SqT T.K S.hp a xs → SqT T.K (upd S.hp p (.frz od (.dK gs))) a xs := fun a xs q => by
  rcases q with (q | ⟨o, q⟩) | q
  · exact .inl (.inl ((upd_ne fun z => by rw [z, h] at q; cases q).trans q))
  · exact .inl (.inr ⟨o, (upd_ne fun z => by rw [z, h] at q; cases q).trans q⟩)
  · exact .inr q
theorem lck_2 {o : HO} (f : ¬ S.fz p) : ∀ a u, S.fz a → S.hp a = some u → upd S.hp p o a = some u := fun a o z q => (upd_ne fun e => by rw [e] at z; exact f z).trans q
theorem lck_3 (h : S.hp p = some (.dK gs)) : ∀ a o u, S.hp a = some (.frz o u) → upd S.hp p (.frz od (.dK gs)) a = some (.frz o u) := fun a o u q => (upd_ne fun z => by rw [z, h] at q; cases q).trans q
theorem ulk_1 (h : S.hp p = some (.frz od (.dK gs))) : ∀ a xs, SqT T.K S.hp a xs → SqT T.K (upd S.hp p (.dK gs)) a xs := fun a xs q => by
  rcases q with (q | ⟨o, q⟩) | q
  · exact .inl (.inl ((upd_ne fun z => by rw [z, h] at q; cases q).trans q))
  · exact .inl (.inr ⟨o, (upd_ne fun z => by rw [z, h] at q; cases q).trans q⟩)
  · exact .inr q
theorem ulk_3 (h : S.hp p = some (.frz od (.dK gs))) : ∀ a o (u : HO), (∃ vs, u = .lst vs) → S.hp a = some (.frz o u) → upd S.hp p (.dK gs) a = some (.frz o u) := fun a o u ⟨vs, e⟩ q => (upd_ne fun z => by rw [z, h, e] at q; cases q).trans q
end
section
variable {F : Fz} {H H' : Hp}
mutual
theorem rep_keep2 (k1 : ∀ a xs, SqT T.K H a xs → SqT T.K H' a xs) (k2 : ∀ a o, F a → H a = some o → H' a = some o) (k3 : ∀ a o (u : HO), (∃ vs, u = .lst vs) → H a = some (.frz o u) → H' a = some (.frz o u)) : ∀ {d : D} {v : V}, rep T F H d v → rep T F H' d v
  | .non, _, h => h
  | .bl _, _, h => h
  | .int _, _, h => h
  | .str _, _, h => h
  | .ref _, _, h => h
  | .tup xs, v, h => by
    unfold rep at h ⊢
    obtain ⟨a, vs, e, q, r⟩ := h
    exact ⟨a, vs, e, k1 a vs q, repL_keep2 k1 k2 k3 r⟩
  | .lst xs, v, h => by
    unfold rep at h ⊢
    obtain ⟨a, vs, e, f, q, r⟩ := h
    exact ⟨a, vs, e, f, k2 a _ f q, repL_keep2 k1 k2 k3 r⟩
  | .rol xs, v, h => by
    unfold rep at h ⊢
    obtain ⟨a, vs, e, q, r⟩ := h
    refine ⟨a, vs, e, ?_, repL_keep2 k1 k2 k3 r⟩
    rcases q with ⟨o, q⟩ | q
    · exact .inl ⟨o, k3 a o _ ⟨_, rfl⟩ q⟩
    · exact .inr q
  | .dic kvs, v, h => by
    unfold rep at h ⊢
    obtain ⟨a, vs, e, f, q, r⟩ := h
    exact ⟨a, vs, e, f, k2 a _ f q, repK_keep2 k1 k2 k3 r⟩
  | .obj c fs, v, h => by
    unfold rep at h ⊢
    obtain ⟨a, dx, vs, e, f, q, r⟩ := h
    exact ⟨a, dx, vs, e, f, k2 a _ f q, repF_keep2 k1 k2 k3 r⟩
theorem repL_keep2 (k1 : ∀ a xs, SqT T.K H a xs → SqT T.K H' a xs) (k2 : ∀ a o, F a → H a = some o → H' a = some o) (k3 : ∀ a o (u : HO), (∃ vs, u = .lst vs) → H a = some (.frz o u) → H' a = some (.frz o u)) : ∀ {d : List D} {v : List V}, repL T F H d v → repL T F H' d v
  | [], _, h => by unfold repL at h ⊢; exact h
  | d :: ds, _, h => by
    unfold repL at h ⊢
    obtain ⟨v, r, e, h1, h2⟩ := h
    exact ⟨v, r, e, rep_keep2 k1 k2 k3 h1, repL_keep2 k1 k2 k3 h2⟩
theorem repK_keep2 (k1 : ∀ a xs, SqT T.K H a xs → SqT T.K H' a xs) (k2 : ∀ a o, F a → H a = some o → H' a = some o) (k3 : ∀ a o (u : HO), (∃ vs, u = .lst vs) → H a = some (.frz o u) → H' a = some (.frz o u)) : ∀ {d : List (DK × D)} {v : List (Key × V)}, repK T F H d v → repK T F H' d v
  | [], _, h => by unfold repK at h ⊢; exact h
  | (q, d) :: ds, _, h => by
    unfold repK at h ⊢
    obtain ⟨v, r, e, h1, ho, h2⟩ := h
    exact ⟨v, r, e, rep_keep2 k1 k2 k3 h1, ho, repK_keep2 k1 k2 k3 h2⟩
theorem repF_keep2 (k1 : ∀ a xs, SqT T.K H a xs → SqT T.K H' a xs) (k2 : ∀ a o, F a → H a = some o → H' a = some o) (k3 : ∀ a o (u : HO), (∃ vs, u = .lst vs) → H a = some (.frz o u) → H' a = some (.frz o u)) : ∀ {d : List (Nat × D)} {v : List (Str × V)}, repF T F H d v → repF T F H' d v
  | [], _, h => by unfold repF at h ⊢; exact h
  | (q, d) :: ds, _, h => by
    unfold repF at h ⊢
    obtain ⟨v, r, e, h1, h2⟩ := h
    exact ⟨v, r, e, rep_keep2 k1 k2 k3 h1, repF_keep2 k1 k2 k3 h2⟩
end
end
section
variable {p : Addr} {gs : List (Key × V)} {od : Obj} {kvs : List (DK × D)}
theorem Stp.lck {o : HO} (n : S.hd p ≠ none) : Stp S (S.lck p o) :=
  ⟨fun a z => z, fun a u e m => by
    have ne : a ≠ p := fun z => by rw [z] at m; exact n m
    exact ⟨u, (upd_ne ne).trans e, fun _ => rfl, fun z => z, (del_nq ne).trans m, fun z => z⟩⟩
theorem Rh.lck (R : Rh T S) (h : S.hp p = some (.dK gs)) (f : ¬ S.fz p) : Rh T (S.lck p (.frz od (.dK gs))) := by
  refine ⟨fun a o e => ?_, fun a z => ?_⟩
  · by_cases ne : a = p
    · have : del S.hd p a = some o := e
      rw [ne, del_sq] at this; cases this
    · have e' : S.hd a = some o := (del_nq ne).symm.trans e
      obtain ⟨q, nf⟩ := R.at_ a o e'
      refine ⟨?_, nf⟩
      cases o with
      | lst xs => obtain ⟨us, q1, q2⟩ := q; exact ⟨us, (upd_ne ne).trans q1, repL_keep (lck_1 h) (lck_2 f) (lck_3 h) q2⟩
      | dic xs => obtain ⟨us, q1, q2⟩ := q; exact ⟨us, (upd_ne ne).trans q1, repK_keep (lck_1 h) (lck_2 f) (lck_3 h) q2⟩
      | ins c xs => obtain ⟨dx, us, q1, q2⟩ := q; exact ⟨dx, us, (upd_ne ne).trans q1, repF_keep (lck_1 h) (lck_2 f) (lck_3 h) q2⟩
  · obtain ⟨n2, w, ew, nt⟩ := R.fzs a z
    have ne : a ≠ p := fun e => f (e ▸ z)
    exact ⟨(del_nq ne).trans n2, w, (upd_ne ne).trans ew, nt⟩
theorem Rs.lck {ds : Slt} {σ : L2.St} (r : Rs T S ds σ) (h : S.hp p = some (.dK gs)) (f : ¬ S.fz p) : Rs T (S.lck p (.frz od (.dK gs))) ds σ :=
  ⟨r.len, fun i d e => let ⟨v, h1, h2⟩ := r.at_ i d e; ⟨v, h1, rep_keep (lck_1 h) (lck_2 f) (lck_3 h) h2⟩⟩
/-- behind the lock -/
theorem ulk_all (R : Rh T S) (hS : S.hd p = some (.dic kvs)) (h : S.hp p = some (.dK gs)) (s : Stp (S.lck p (.frz od (.dK gs))) S') (R' : Rh T S') (n' : S'.hd p = none) :
    S'.hp p = some (.frz od (.dK gs)) ∧ Stp S (S'.ulk p kvs gs) ∧ Rh T (S'.ulk p kvs gs) ∧ ∀ ev v, repE T (S.lck p (.frz od (.dK gs))) S' ev v → repE T S (S'.ulk p kvs gs) ev v := by
  have f : ¬ S.fz p := (R.at_ p _ hS).2
  obtain ⟨h1, h2, h3⟩ := s.un p _ (show (S.lck p (.frz od (.dK gs))).hp p = _ from upd_same) (show (S.lck p (.frz od (.dK gs))).hd p = none from del_sq) (by intro _ z; cases z)
  have f' : ¬ S'.fz p := fun z => f (h3 z)
  have st : Stp S (S'.ulk p kvs gs) := ⟨fun a z => s.fz a z, fun a u e m => by
    have ne : a ≠ p := fun z => by rw [z, hS] at m; cases m
    obtain ⟨o', q1, q2, q3, q4, q5⟩ := s.uu a u (show (S.lck p (.frz od (.dK gs))).hp a = some u from (upd_ne ne).trans e) (show (S.lck p (.frz od (.dK gs))).hd a = none from (del_nq ne).trans m)
    exact ⟨o', (upd_ne ne).trans q1, q2, q3, (DL.put_ne ne).trans q4, q5⟩⟩
  have k1 := ulk_1 (T := T) (S := S') h1
  have k2 := lck_2 (S := S') (o := HO.dK gs) f'
  have k3 := ulk_3 (S := S') h1
  refine ⟨h1, st, ⟨fun a o e => ?_, fun a z => ?_⟩, fun ev v q => ?_⟩
  · by_cases ne : a = p
    · subst ne
      have e' : DL.put S'.hd a (.dic kvs) a = some o := e
      rw [DL.put_same] at e'
      cases e'
      obtain ⟨⟨gs', g1, g2⟩, _⟩ := R.at_ a _ hS
      rw [h] at g1
      cases g1
      exact ⟨⟨gs, upd_same, g2.stp R st⟩, f'⟩
    · have e' : S'.hd a = some o := (DL.put_ne ne).symm.trans e
      obtain ⟨q, nf⟩ := R'.at_ a o e'
      refine ⟨?_, nf⟩
      cases o with
      | lst xs => obtain ⟨us, q1, q2⟩ := q; exact ⟨us, (upd_ne ne).trans q1, repL_keep2 k1 k2 k3 q2⟩
      | dic xs => obtain ⟨us, q1, q2⟩ := q; exact ⟨us, (upd_ne ne).trans q1, repK_keep2 k1 k2 k3 q2⟩
      | ins c xs => obtain ⟨dx, us, q1, q2⟩ := q; exact ⟨dx, us, (upd_ne ne).trans q1, repF_keep2 k1 k2 k3 q2⟩
  · obtain ⟨n2, w, ew, nt⟩ := R'.fzs a z
    have ne : a ≠ p := fun e => f' (e ▸ z)
    exact ⟨(DL.put_ne ne).trans n2, w, (upd_ne ne).trans ew, nt⟩
  · have fr : ∀ a (o : HO), S'.hp a = some o → o ≠ .frz od (.dK gs) → Fresh (S.lck p (.frz od (.dK gs))) S' a → a ≠ p ∧ Fresh S (S'.ulk p kvs gs) a := fun a o e ne ⟨z1, z2, z3⟩ => by
      have np : a ≠ p := fun z => by rw [z, h1] at e; cases e; exact ne rfl
      refine ⟨np, (DL.put_ne np).trans z1, z2, ?_⟩
      rcases z3 with z3 | z3
      · exact .inl ((upd_ne np).symm.trans z3)
      · exact .inr fun z => z3 ((del_nq np).trans z)
    cases ev with
    | v d => exact rep_keep2 k1 k2 k3 q
    | nl xs =>
      obtain ⟨a, vs, e, q1, q2, q3⟩ := q
      obtain ⟨np, q4⟩ := fr a _ q1 (by intro z; cases z) q3
      exact ⟨a, vs, e, (upd_ne np).trans q1, repL_keep2 k1 k2 k3 q2, q4⟩
    | nd xs =>
      obtain ⟨a, vs, e, q1, q2, q3⟩ := q
      obtain ⟨np, q4⟩ := fr a _ q1 (by intro z; cases z) q3
      exact ⟨a, vs, e, (upd_ne np).trans q1, repK_keep2 k1 k2 k3 q2, q4⟩
    | no c xs =>
      obtain ⟨a, dx, vs, e, q1, q2, q3⟩ := q
      obtain ⟨np, q4⟩ := fr a _ q1 (by intro z; cases z) q3
      exact ⟨a, dx, vs, e, (upd_ne np).trans q1, repF_keep2 k1 k2 k3 q2, q4⟩
end
theorem compD_lE {own : List (Str × Nat)} {g : IG} {td te : DTE} (ho : ∀ i ∈ gIx g, i ∈ own.map (·.2)) : ∀ σ H Q, lE T S0 (dCompD td g te (own.map (·.2))) σ H Q →
    tLockE (tLc (iKeys (lD T S0 (frz td))) (gV T g) (lT T S0 dYes) (lD T S0 (frz te)) (own.map (·.2))) σ H Q := by
  intro σ H Q ⟨S, ds, eh, A, Qd, ⟨p, kvs, hp, htt⟩, k⟩
  subst eh
  obtain ⟨⟨gs, g1, g2⟩, nf⟩ := A.rh.at_ p _ hp
  refine ⟨p, .dK gs, g1, trivial, fun od => ?_⟩
  have stl : Stp S (S.lck p (.frz od (.dK gs))) := Stp.lck (by rw [hp]; simp)
  have key : lE T S0 (dComp (fun ds hd Q => hd p = none ∧ dKeys p kvs td ds hd Q) g dYes te (own.map (·.2))) σ (upd S.hp p (.frz od (.dK gs))) fun v H' => H' p = some (.frz od (.dK gs)) ∧ Q v (upd H' p (.dK gs)) := by
    refine ⟨S.lck p (.frz od (.dK gs)), ds, rfl, ⟨A.stp.trans stl, A.rh.lck g1 nf, A.rs.lck g1 nf⟩, fun ev hd2 => hd2 p = none ∧ Qd ev (put hd2 p (.dic kvs)), ⟨del_sq, ?_⟩, fun ev S' v s' r' q' h' => ?_⟩
    · have e : (dKeys p kvs td ds (del S.hd p) fun its gd hd1 => its.length ≤ 16777216 ∧ turns (dOne g dYes te (own.map (·.2)) ds) gd its [] hd1 fun l hd2 => hd2 p = none ∧ Qd (.nl l) (put hd2 p (.dic kvs))) = (td ds (del S.hd p) fun ev hd1 => (ev.d = .ref p ∧ hd1 p = none) ∧ (kvs.map fun q => dkD q.1).length ≤ 16777216 ∧ turns (dOne g dYes te (own.map (·.2)) ds) none (kvs.map fun q => dkD q.1) [] hd1 fun l hd2 => hd2 p = none ∧ Qd (.nl l) (put hd2 p (.dic kvs))) := rfl
      show dKeys p kvs td ds (del S.hd p) _
      rw [e, List.length_map]
      exact htt
    · obtain ⟨n', h'⟩ := h'
      obtain ⟨w1, w2, w3, w4⟩ := ulk_all A.rh hp g1 s' r' n'
      exact ⟨w1, k ev (S'.ulk p kvs gs) v w2 w3 (w4 ev v q') h'⟩
  exact keys_lI (S0 := S0) (repK_keys g2) (repK_okk g2) (show upd S.hp p (.frz od (.dK gs)) p = _ from upd_same) (comp_lE ho _ _ _ key)
theorem snd_compD {elt tg iter : Expr} {scope : Scope} {own : List (Str × Nat)} {pos : Pos} {g : IG} {td te : DTE} (hc : X.calm = true) (hN : X.N.Nodup) (hi : PE X iter (lE T S0 td)) (ok : BlkOk X.N X.env.scope scope own)
    (hg : ∀ (s : Shared) (H : Hp) (C : Addr) (cl : List (Str × Addr)) (fp : List Addr), PG (X.blk s H scope (compEnvC scope cl C X.env) fp) tg (gV T g))
    (ht : ∀ (s : Shared) (H : Hp) (C : Addr) (cl : List (Str × Addr)) (fp : List Addr), PTs (X.blk s H scope (compEnvC scope cl C X.env) fp) [] (lT T S0 dYes))
    (he : ∀ (s : Shared) (H : Hp) (C : Addr) (cl : List (Str × Addr)) (fp : List Addr), PE (X.blk s H scope (compEnvC scope cl C X.env) fp) elt (lD T S0 (frz te)))
    (ho : ∀ i ∈ gIx g, i ∈ own.map (·.2)) (hs : ∀ x, foldedSetIterable iter X.env x = pure x) : PE X (.ListComp elt [⟨tg, iter, [], 0⟩] scope pos) (lE T S0 (dCompD td g te (own.map (·.2)))) :=
  pe_imp (pe_lock (pe_lc hc hN (pi_keys (pe_frz hi)) ok hg ht he hs)) (compD_lE ho)
end
end DL
set_option Elab.async false
set_option linter.all false
set_option maxRecDepth 100000
set_option maxHeartbeats 2000000
/-! promises where no guard is on the stack (repr asks for it) -/
namespace DL
open PySem PySem.Spec PyProof.Rows L2
abbrev noG (A : Around) : Prop := A.guards = some []
/-- a def's promise, asked for where no guard stands -/
structure FnG (P : Program) (w : World) (K : PySem.W.Frag) (mg : Str → Option Value) (base : Heap) (CX : CXT) (k : Nat) (fa : Addr) (fd : FuncData) (ns : List Str) (sp : Sp) : Prop where
  ln : ∀ xs H Q E, sp xs H Q E → xs.length = ns.length
  go : ∀ (A : Around) (out : List Env) (s : Shared) (H : Hp) (ar : Args) (us : List Value) (xs : List V) (Q : VK) (E : XK), noG A → Room k A → Env0 P w K mg base A out s H →
    BindsTo s fd ar (ns.zip us) → Vals xs us → sp xs H Q E → codeAny (model P w) A (.call (.ref fa) ar) (CR CX out P w H s Q E) s
theorem FnG.ofOk {P : Program} {w : World} {K : PySem.W.Frag} {mg : Str → Option Value} {base : Heap} {CX : CXT} {k : Nat} {fa : Addr} {fd : FuncData} {ns : List Str} {sp : Sp} (F : FnOk P w K mg base CX k fa fd ns sp) : FnG P w K mg base CX k fa fd ns sp :=
  ⟨F.len, fun A out s H ar us xs Q E _ hr => F.run A out s H ar us xs Q E hr⟩
theorem noG_make {A : Around} (h : noG A) (c : Addr) (us : List Value) (kw : List (Str × Value)) : noG (A.under (.builtin "type.__call__" ⟨.ref c :: us, kw⟩)) := by
  have e : (Code.builtin "type.__call__" ⟨.ref c :: us, kw⟩).guards = [] := by
    unfold Code.guards
    rw [if_neg]
    simp [Code.isGuard, guardIds]
  unfold noG Around.under
  simp only [e, h]
  rfl
section
variable {X : Cx} {CX : CXT} {k : Nat} {fa C : Addr} {fd : FuncData} {ns : List Str} {sp : Sp} {E : XK} {x m : Str} {p pos apos : Pos} {e o : Expr} {es : List Expr} {ta : TE} {t : TA} {pins : List (Addr × Obj)} {σ : L2.St} {H : Hp} {s : Shared} {Q : VK} {us : List Value} {xs : List V}
theorem gRun (F : FnG X.prog X.w X.K X.mg X.base CX k fa fd ns sp) (g : noG X.A) (hr : Room k X.A) (hb : Binds X.K fd ns []) (hx : Passes CX X E) (I : L2.Inv X pins σ H s) (r : Vals xs us) (h : sp xs H Q E) :
    wpAny (model X.prog X.w) X.A (call (.ref fa) us) (EP X pins σ Q) X.xe s := by
  have hn : us.length = ns.length := r.length.symm.trans (F.ln _ _ _ _ h)
  have b := hb s us I.kIn (by rw [List.append_nil]; exact hn)
  rw [List.append_nil] at b
  refine wpAny_call (codeAny_mono (F.go X.A X.stack s H ⟨us, []⟩ us xs Q E g hr I.env0 b r h) ?_)
  intro z s2 hz
  match z, hz with
  | .error er, hz => exact hx pins σ H s er s2 I hz
  | .ok (.ret u), hz => exact I.after hz
  | .ok .next, hz => exact hz.elim
  | .ok .brk, hz => exact hz.elim
  | .ok .cont, hz => exact hz.elim
theorem gCall (F : FnG X.prog X.w X.K X.mg X.base CX k fa fd ns sp) (g : noG X.A) (hr : Room k X.A) (hg : Gl X x) (hm : X.mg x = some (.ref fa)) (hk : PySem.W.keepIn X.K (.ref fa) = true) (hb : Binds X.K fd ns []) (hx : Passes CX X E)
    (ha : PA X (e :: es) t) (hdb : (x == ("__debug__" : Str)) = false) (he : starEach (e :: es) X.env = (false, eval e X.env) :: starEach es X.env) (hpl : (backTo pos (starEach es X.env)).any (·.1) = false) :
    PE X (.Call (.Name x p) (e :: es) [] pos) (tCall sp [] E t) := by
  constructor
  intro pins s σ H Q I h
  refine wpAny_Call_Name_kw (ld_glob I hg hm (PySem.W.callWith_K (h₀ := X.base) I.ok.mod.kin hk (thn (ha.run pos pins s σ H _ I h) ?_) he hpl) hdb)
  rintro us s1 ⟨xs, H1, I1, r, q⟩
  rw [List.append_nil] at q
  exact ⟨I1.kIn, gRun F g hr hb hx I1 r q⟩
theorem gCall0 (F : FnG X.prog X.w X.K X.mg X.base CX k fa fd ns sp) (g : noG X.A) (hr : Room k X.A) (hg : Gl X x) (hm : X.mg x = some (.ref fa)) (hk : PySem.W.keepIn X.K (.ref fa) = true) (hb : Binds X.K fd ns []) (hx : Passes CX X E) (hdb : (x == ("__debug__" : Str)) = false) :
    PE X (.Call (.Name x p) [] [] pos) (tCall sp [] E tNil) := by
  constructor
  intro pins s σ H Q I h
  exact wpAny_Call_Name_kw (ld_glob I hg hm (PySem.W.callWith_K0 I.kIn hk (gRun (us := []) F g hr hb hx I .nil h)) hdb)
theorem gMakeRun (M : Mk X.K C fa) (F : FnG X.prog X.w X.K X.mg X.base CX k fa fd ns sp) (g : noG X.A) (hr : Room (k + 1) X.A) (hb : Binds X.K fd ns []) (hx : Passes CX X E) (I : L2.Inv X pins σ H s) (r : Vals xs us)
    (h : ∀ a d, H a = none → H d = none → d ≠ a → sp (.ref a :: xs) (upd (upd H d (.own a)) a (.ins C d [])) (fun v H2 => v = .non ∧ Q (.ref a) H2) E) : wpAny (model X.prog X.w) X.A (call (.ref C) us) (EP X pins σ Q) X.xe s := by
  let z := s.heap.objs.size
  have hq := h (z + 1) z (I.hok.fresh (Nat.le_succ _)) (I.hok.fresh (Nat.le_refl _)) (Nat.ne_of_lt (Nat.lt_succ_self _))
  have J := Inv.made (C := C) I
  have r2 : Vals (V.ref (z + 1) :: xs) (Value.ref (z + 1) :: us) := .cons rfl r
  have hn : (Value.ref (z + 1) :: us).length = ns.length := r2.length.symm.trans (F.ln _ _ _ _ hq)
  have b := fun s' (hs : X.K.In s'.heap) => hb s' (Value.ref (z + 1) :: us) hs (by rw [List.append_nil]; exact hn)
  simp only [List.append_nil] at b
  refine wpAny_call (make_map (f := fa) I.kIn M.makes M.init (beq_iff_eq.mp M.fn) (codeAny_mono (F.go _ X.stack _ _ ⟨Value.ref (z + 1) :: us, []⟩ _ _ _ E (noG_make g C us []) (hr.make C us []) (J.env0.make C us []) (b _ J.kIn) r2 hq) ?_))
  intro y s2 hy
  match y, hy with
  | .error er, hy => exact hx pins σ _ _ er s2 J hy
  | .ok (.ret u), hy =>
    obtain ⟨v, H3, I3, rv, ev, q3⟩ := J.after hy
    cases ev
    exact ⟨rv, ⟨V.ref (z + 1), H3, I3, rfl, q3⟩⟩
  | .ok .next, hy => exact hy.elim
  | .ok .brk, hy => exact hy.elim
  | .ok .cont, hy => exact hy.elim
theorem gMake (M : Mk X.K C fa) (F : FnG X.prog X.w X.K X.mg X.base CX k fa fd ns sp) (g : noG X.A) (hr : Room (k + 1) X.A) (hg : Gl X x) (hm : X.mg x = some (.ref C)) (hb : Binds X.K fd ns []) (hx : Passes CX X E)
    (ha : PA X (e :: es) t) (hdb : (x == ("__debug__" : Str)) = false) (he : starEach (e :: es) X.env = (false, eval e X.env) :: starEach es X.env) (hpl : (backTo pos (starEach es X.env)).any (·.1) = false) :
    PE X (.Call (.Name x p) (e :: es) [] pos) (tMake C sp [] E t) := by
  constructor
  intro pins s σ H Q I h
  refine wpAny_Call_Name_kw (ld_glob I hg hm (PySem.W.callWith_K (h₀ := X.base) I.ok.mod.kin M.kp (thn (ha.run pos pins s σ H _ I h) ?_) he hpl) hdb)
  rintro us s1 ⟨xs, H1, I1, r, q⟩
  simp only [List.append_nil] at q
  exact ⟨I1.kIn, gMakeRun M F g hr hb hx I1 r q⟩
theorem gMake0 (M : Mk X.K C fa) (F : FnG X.prog X.w X.K X.mg X.base CX k fa fd ns sp) (g : noG X.A) (hr : Room (k + 1) X.A) (hg : Gl X x) (hm : X.mg x = some (.ref C)) (hb : Binds X.K fd ns []) (hx : Passes CX X E) (hdb : (x == ("__debug__" : Str)) = false) :
    PE X (.Call (.Name x p) [] [] pos) (tMake C sp [] E tNil) := by
  constructor
  intro pins s σ H Q I h
  exact wpAny_Call_Name_kw (ld_glob I hg hm (PySem.W.callWith_K0 I.kIn M.kp (gMakeRun (us := []) M F g hr hb hx I .nil h)) hdb)
/-- a property's getter -/
theorem gProp {d : Addr} {fs : List (Str × V)} {y a : Addr} {b : Bool} {E2 : Value → Shared → Prop} (I : L2.Inv X pins σ H s) (ea : H a = some (.ins C d fs)) (c : Cls X.K C) (hp : PropOf X.K C m y fa)
    (F : FnG X.prog X.w X.K X.mg X.base CX k fa fd ns sp) (g : noG X.A) (hr : Room (k + 1) X.A) (hb : Binds X.K fd ns []) (hx : Passes CX X.nox E) (h : sp [.ref a] H Q E) : wpAny (model X.prog X.w) X.A (getAttr (.ref a) m b) (EP X pins σ Q) E2 s := by
  have J := I.tok (s.toks + 1)
  have hn : ([Value.ref a]).length = ns.length := (F.ln _ _ _ _ h)
  have bb := hb { s with toks := s.toks + 1 } [.ref a] J.kIn (by rw [List.append_nil]; exact hn)
  rw [List.append_nil] at bb
  obtain ⟨_, O, _⟩ := ins_get I.hok ea
  obtain ⟨_, L, _⟩ := O.look
  obtain ⟨_, hrec⟩ := hp.rec_
  obtain ⟨_, h3, _⟩ := PySem.W.any_some c.hd
  refine PySem.W.get_bind I.kIn L (PySem.W.plainGet_of (c.get m)).1 (PySem.W.findObj_data (by rw [h3]; rfl) hp.at_ hp.get hp.tak) (PySem.W.plainGet_of (c.get m)).2 (wpAny_call (PySem.W.prop_get (s := { s with toks := s.toks + 1 }) I.kIn hrec ?_))
  refine codeAny_mono (F.go X.A.in1 X.stack _ H ⟨[.ref a], []⟩ [.ref a] [.ref a] Q E g hr.in1 J.env0.in1 bb (.cons rfl .nil) h) ?_
  intro z s2 hz
  match z, hz with
  | .error er, hz => exact (hx pins σ H _ er s2 (J.wish _) hz).elim
  | .ok (.ret u), hz =>
    obtain ⟨v, H3, I3, rv, q3⟩ := J.after hz
    show wpAny _ _ (handedOut u) _ _ _
    rw [PySem.W.handedOut_of (handed_of rv)]
    exact wpAny_pure ⟨v, H3, I3, rv, q3⟩
  | .ok .next, hz => exact hz.elim
  | .ok .brk, hz => exact hz.elim
  | .ok .cont, hz => exact hz.elim
end
/-- a def keeps its promise by its body -/
theorem gDef {CX : CXT} {P : Program} {w : World} {K : PySem.W.Frag} {mg : Str → Option Value} {base : Heap} {k : Nat} {fa : Addr} {fd : FuncData} {x qual : Str} {params : Arguments} {body : List Stmt} {scope : Scope} {N ns : List Str} {sp : Sp}
    (F : FunD K x qual params body scope [] [] fa fd) (S : FnScope N ns scope) (ln : ∀ xs H Q E, sp xs H Q E → xs.length = ns.length)
    (hb : ∀ (cv : Value) (A : Around) (out : List Env) (s : Shared) (H : Hp) (xs : List V) (Q : VK) (E : XK), noG A → Room k (A.deeper (envOfC qual scope s.heap.objs.size fa cv)) → sp xs H Q E →
      ∃ t, PSs (cxOf CX P w K mg base N qual scope fa cv A out s H E) body t ∧ t { nx := fun _ H' => Q .non H', rt := Q } (L2.start N xs) H) : FnG P w K mg base CX (k + 1) fa fd ns sp := by
  obtain ⟨_, _, _, _, _, _, _, cv, _, _, rfl, lk, hcd, _, _⟩ := F.ex
  refine ⟨ln, ?_⟩
  intro A out s H ar us xs Q E g hr e0 hbd r h
  have Ks : K.In s.heap := e0.mod.kin.keeps fun b o e => (e0.bs b o e).1
  refine codeAny_call_function hr.depth (Ks _ _ lk) rfl S.co S.gen rfl (PySem.W.codeRec_of Ks hcd) (hbd _ _ _ _ (wpAny_newFunctionEnv_cells S.kind ?_ ?_))
  · rintro ⟨y, v⟩ hy
    exact (S.par y (List.of_mem_zip hy).1).imp id fun q => ⟨q, PySem.W.cellsFrom_some _ _ _ (.inl q)⟩
  · rintro env rfl s1 x1
    refine ⟨(e0.mod.nolimit.keeps fun b o e => (e0.bs b o e).1).keeps x1.toInCall.keep, codeAny_func ?_⟩
    obtain ⟨t, ht, q⟩ := hb cv A out s H xs Q E g (hr.deeper _) h
    have I : L2.Inv (cxOf CX P w K mg base N qual scope fa cv A out s H E) [] (L2.start N xs) H s1 := inv_start S hr.hd e0 (ln _ _ _ _ h) r x1
    refine wpAny_mono (ht.run [] s1 (L2.start N xs) H _ I q) ?_ fun _ _ z => z
    intro fl s2 z
    match fl, z with
    | .ret u, z => obtain ⟨v, σ2, H2, J, rv, q2⟩ := z; exact ⟨v, H2, J.os, J.bare, J.base, J.hok, rv, q2⟩
    | .next, z => obtain ⟨σ2, H2, J, q2⟩ := z; exact ⟨V.non, H2, J.os, J.bare, J.base, J.hok, rfl, q2⟩
    | .brk, z => exact z.choose_spec.choose_spec.2.elim
    | .cont, z => exact z.choose_spec.choose_spec.2.elim
end DL
set_option Elab.async false
set_option linter.all false
set_option maxRecDepth 100000
set_option maxHeartbeats 2000000
namespace DL
open PySem PySem.Spec PyProof.Rows L2
abbrev DSp := List D → Hd → (EV → Hd → Prop) → Prop
/-- the promise of a def, by its reading over data -/
def lSp (T : Tb) (np : Nat) (g : DSp) : Sp := fun vs H Q _ => vs.length = np ∧ ∃ S ds Qd, S.hp = H ∧ Rh T S ∧ repL T S.fz S.hp ds vs ∧ g ds S.hd Qd ∧ ∀ ev S' v, Stp S S' → Rh T S' → repE T S S' ev v → Qd ev S'.hd → Q v S'.hp
/-- a def at f keeps it -/
def FFact (X : Cx) (T : Tb) (f : Addr) (g : DSp) : Prop := ∃ (k : Nat) (fd : FuncData) (ps : List Str) (np : Nat), FnG X.prog X.w X.K X.mg X.base CX0 k f fd ps (lSp T np g) ∧ Room (k + 1) X.A ∧ noG X.A ∧ L2.Binds X.K fd ps [] ∧ ∀ (ds : List D) (hd : Hd) (Q : EV → Hd → Prop), g ds hd Q → ds.length = np
section
variable {T : Tb} {S0 S S' : Sw} {X : Cx} {u : IE → DTE} {a b : Expr} {es : IEs} {pos : Pos}
theorem serves_sp {np : Nat} {g : DSp} (hl : ∀ ds hd Q, g ds hd Q → ds.length = np) : Serves T (fun vs H Q => lSp T np g (vs ++ []) H Q E0) (fun hd l Q => g l hd Q) := by
  intro S ds vs Qd Q R r h k
  rw [List.append_nil]
  exact ⟨by rw [← repL_len r]; exact hl _ _ _ h, S, ds, Qd, rfl, R, r, h, k⟩
theorem rm1 {k : Nat} {A : Around} (r : Room (k + 1) A) : Room k A := r.mono (Nat.le_succ k)
theorem snd_call {x : Str} {p : Pos} {as : List Expr} {f : Addr} {g : DSp} (F : FFact X T f g) (hg : Gl X x) (hm : X.mg x = some (.ref f)) (hk : PySem.W.keepIn X.K (.ref f) = true) (h : PL X T S0 u as es) (hdb : (x == ("__debug__" : Str)) = false) :
    PE X (.Call (.Name x p) as [] pos) (lE T S0 (dApp (fun hd l Q => g l hd Q) (wEs u es))) := by
  obtain ⟨k, fd, ps, np, Fk, hr, hG, hb, hl⟩ := F
  cases h with
  | nil =>
    refine pe_imp (gCall0 Fk hG (rm1 hr) hg hm hk hb pass0 hdb) fun σ H Q ⟨S, ds, eh, A, Qd, ht, z⟩ => ?_
    subst eh
    exact serves_sp hl S [] [] Qd Q A.rh repL_mk0 ht z
  | cons h1 hn t => exact pe_imp (gCall Fk hG (rm1 hr) hg hm hk hb pass0 (PL.cons (b := _) h1 hn t).pa hdb hn (t.stars pos).1) fun σ H Q q => app_lL (serves_sp hl) q
/-- C(..) that is tracked from then on -/
def dMake (c : Nat) (g : DSp) (shut : Bool) : DOp := fun hd l Q => ∀ p, hd p = none → g (.ref p :: l) (put hd p (.ins c [])) fun ev hd2 => match ev with
  | .v .non => match shut with
    | false => Q (.v (.ref p)) hd2
    | true => match hd2 p with
      | some (.ins c' fs) => Q (.no c' (shutF (del hd2 p) fs).1) (shutF (del hd2 p) fs).2
      | _ => False
  | _ => False
def Sw.drop (S : Sw) (h : Hd) : Sw := { S with hd := h }
theorem del_same {h : Hd} {a : Addr} : del h a a = none := by unfold del; rw [if_pos rfl]
theorem del_ne {h : Hd} {a b : Addr} (n : b ≠ a) : del h a b = h b := by unfold del; rw [if_neg n]
theorem Sub.del (h : Hd) (a : Addr) : Sub (del h a) h := fun b o e => by
  by_cases hb : b = a
  · rw [hb, del_same] at e; cases e
  · rw [del_ne hb] at e; exact e
/-- what is tracked may be let go -/
theorem Stp.drop {h : Hd} (s : Stp S S') (k : Sub h S'.hd) : Stp S (S'.drop h) :=
  ⟨s.fz, fun a o e n => by
    obtain ⟨o', h1, e1, t1, n1, f1⟩ := s.uu a o e n
    refine ⟨o', h1, e1, t1, ?_, f1⟩
    show h a = none
    cases q : h a with
    | none => rfl
    | some w => have := k a w q; rw [n1] at this; cases this⟩
theorem Rh.drop {h : Hd} (R : Rh T S) (k : Sub h S.hd) : Rh T (S.drop h) := by
  refine ⟨fun a o e => ?_, fun a z => ?_⟩
  · obtain ⟨q, nf⟩ := R.at_ a o (k a o e)
    refine ⟨?_, nf⟩
    cases o <;> exact q
  · obtain ⟨n, w, ew, nt⟩ := R.fzs a z
    refine ⟨?_, w, ew, nt⟩
    show h a = none
    cases q : h a with
    | none => rfl
    | some w => have := k a w q; rw [n] at this; cases this
/-- a tracked object stands still from now on -/
def Sw.still (S : Sw) (a : Addr) : Sw := { S with hd := DL.del S.hd a, fz := fun b => S.fz b ∨ b = a }
theorem Stp.still {a : Addr} {o : DO} (s : Stp S S') (h : S'.hd a = some o) : Stp S (S'.still a) :=
  ⟨fun b z => .inl (s.fz b z), fun b w e n => by
    obtain ⟨o', h1, e1, t1, n1, f1⟩ := s.uu b w e n
    have ne : b ≠ a := fun z => by rw [z, h] at n1; cases n1
    exact ⟨o', h1, e1, t1, (del_ne ne).trans n1, fun z => z.elim f1 fun z => (ne z).elim⟩⟩
theorem Rh.still {a : Addr} {o : DO} (R : Rh T S) (h : S.hd a = some o) : Rh T (S.still a) := by
  refine ⟨fun b w e => ?_, fun b z => ?_⟩
  · by_cases hb : b = a
    · have e' : DL.del S.hd a b = some w := e
      rw [hb, del_same] at e'; cases e'
    · have e' : S.hd b = some w := (del_ne hb).symm.trans e
      obtain ⟨q, nf⟩ := R.at_ b w e'
      refine ⟨?_, fun z => z.elim nf hb⟩
      have q2 := q.fz (F' := fun b => S.fz b ∨ b = a) fun _ => .inl
      cases w <;> exact q2
  · rcases z with z | z
    · obtain ⟨n, w, ew, nt⟩ := R.fzs b z
      have ne : b ≠ a := fun y => by rw [y, h] at n; cases n
      exact ⟨(del_ne ne).trans n, w, ew, nt⟩
    · subst z
      obtain ⟨w, ew, _⟩ := (R.at_ b o h).1.hp
      refine ⟨del_same, w, ew, ?_⟩
      have q := (R.at_ b o h).1
      cases o with
      | lst xs => obtain ⟨vs, q, _⟩ := q; rw [q] at ew; cases ew; intro _ z; cases z
      | dic xs => obtain ⟨vs, q, _⟩ := q; rw [q] at ew; cases ew; intro _ z; cases z
      | ins c xs => obtain ⟨dx, vs, q, _⟩ := q; rw [q] at ew; cases ew; intro _ z; cases z
theorem rep.still {a : Addr} {d : D} {v : V} (h : rep T S.fz S.hp d v) : rep T (S.still a).fz (S.still a).hp d v := h.fz fun _ => .inl
theorem repL.still {a : Addr} {d : List D} {v : List V} (h : repL T S.fz S.hp d v) : repL T (S.still a).fz (S.still a).hp d v := h.fz fun _ => .inl
/-- the fields' own objects stand still -/
theorem shut_ok : ∀ {fs : List (Nat × D)} {S' : Sw} {gs : List (Str × V)}, Stp S S' → Rh T S' → repF T S'.fz S'.hp fs gs → ∀ x : Addr, S'.hd x = none → ¬ S'.fz x →
    ∃ S2, S2.hp = S'.hp ∧ S2.hd = (shutF S'.hd fs).2 ∧ Stp S S2 ∧ Rh T S2 ∧ repF T S2.fz S2.hp (shutF S'.hd fs).1 gs ∧ S2.hd x = none ∧ ¬ S2.fz x ∧ (∀ a, S'.fz a → S2.fz a)
  | [], S', gs, s, R, r, x, hx, nx => ⟨S', rfl, rfl, s, R, r, hx, nx, fun _ z => z⟩
  | (n, d) :: fs, S', gs, s, R, r, x, hx, nx => by
    obtain ⟨v, gr, e, r1, r2⟩ := repF_cons r
    subst e
    have plain : shutF S'.hd ((n, d) :: fs) = ((n, d) :: (shutF S'.hd fs).1, (shutF S'.hd fs).2) → ∃ S2, S2.hp = S'.hp ∧ S2.hd = (shutF S'.hd ((n, d) :: fs)).2 ∧ Stp S S2 ∧ Rh T S2 ∧ repF T S2.fz S2.hp (shutF S'.hd ((n, d) :: fs)).1 ((T.sym n, v) :: gr) ∧ S2.hd x = none ∧ ¬ S2.fz x ∧ (∀ a, S'.fz a → S2.fz a) := fun e => by
      obtain ⟨S2, h1, h2, h3, h4, h5, h6, h7, h8⟩ := shut_ok s R r2 x hx nx
      rw [e]
      exact ⟨S2, h1, h2, h3, h4, repF_mk (by rw [h1]; exact r1.fz h8) h5, h6, h7, h8⟩
    cases d with
    | ref q =>
      cases hq : S'.hd q with
      | none => exact plain (by simp only [shutF, hq])
      | some o =>
        cases o with
        | ins c f => exact plain (by simp only [shutF, hq])
        | lst xs =>
          have nxq : x ≠ q := fun z => by rw [z, hq] at hx; cases hx
          obtain ⟨S2, h1, h2, h3, h4, h5, h6, h7, h8⟩ := shut_ok (fs := fs) (S' := S'.still q) (s.still hq) (R.still hq) (r2.fz fun _ => .inl) x ((del_ne nxq).trans hx) (fun z => z.elim nx nxq)
          obtain ⟨⟨vs, q1, q2⟩, _⟩ := R.at_ q _ hq
          have e : shutF S'.hd ((n, .ref q) :: fs) = ((n, .lst xs) :: (shutF (DL.del S'.hd q) fs).1, (shutF (DL.del S'.hd q) fs).2) := by simp only [shutF, hq]
          rw [e]
          refine ⟨S2, h1, h2, h3, h4, repF_mk ?_ h5, h6, h7, fun a z => h8 a (.inl z)⟩
          rw [rep_ref r1, h1]
          unfold rep
          exact ⟨q, vs, rfl, h8 q (.inr rfl), q1, q2.fz fun a z => h8 a (.inl z)⟩
        | dic xs =>
          have nxq : x ≠ q := fun z => by rw [z, hq] at hx; cases hx
          obtain ⟨S2, h1, h2, h3, h4, h5, h6, h7, h8⟩ := shut_ok (fs := fs) (S' := S'.still q) (s.still hq) (R.still hq) (r2.fz fun _ => .inl) x ((del_ne nxq).trans hx) (fun z => z.elim nx nxq)
          obtain ⟨⟨vs, q1, q2⟩, _⟩ := R.at_ q _ hq
          have e : shutF S'.hd ((n, .ref q) :: fs) = ((n, .dic xs) :: (shutF (DL.del S'.hd q) fs).1, (shutF (DL.del S'.hd q) fs).2) := by simp only [shutF, hq]
          rw [e]
          refine ⟨S2, h1, h2, h3, h4, repF_mk ?_ h5, h6, h7, fun a z => h8 a (.inl z)⟩
          rw [rep_ref r1, h1]
          unfold rep
          exact ⟨q, vs, rfl, h8 q (.inr rfl), q1, q2.fz fun a z => h8 a (.inl z)⟩
    | _ => exact plain (by simp only [shutF])
theorem Fresh.of {a : Addr} (s : Stp S S') (h1 : S'.hd a = none) (h2 : ¬ S'.fz a) (hd : ∀ o, S.hp a = some o → S.hd a = none → False) : Fresh S S' a := by
  refine ⟨h1, h2, ?_⟩
  cases e : S.hp a with
  | none => exact .inl rfl
  | some o =>
    by_cases hn : S.hd a = none
    · exact (hd o e hn).elim
    · exact .inr hn
/-- an object that is made -/
theorem serves_make {c : Nat} {g : DSp} {np : Nat} {shut : Bool} (hl : ∀ ds hd Q, g ds hd Q → ds.length = np) :
    Serves T (fun vs H Q => ∀ x dx, H x = none → H dx = none → dx ≠ x → lSp T np g (.ref x :: (vs ++ [])) (upd (upd H dx (.own x)) x (.ins (T.ca c) dx [])) (fun v H2 => v = .non ∧ Q (.ref x) H2) E0) (dMake c g shut) := by
  intro S ds vs Qd Q R r h k x dx hx hdx ne
  rw [List.append_nil]
  have hx0 : S.hd x = none := (R.there hx).1
  have g1 := h x hx0
  -- the two new objects
  have s1 : Stp S (S.new dx (.own x)) := Stp.new hdx
  have R1 : Rh T (S.new dx (.own x)) := R.new hdx
  have hx1 : (S.new dx (.own x)).hp x = none := (upd_ne (Ne.symm ne)).trans hx
  have s2 : Stp S ((S.new dx (.own x)).new x (.ins (T.ca c) dx [])) := s1.trans (Stp.new hx1)
  have R2 : Rh T ((S.new dx (.own x)).new x (.ins (T.ca c) dx [])) := R1.new hx1
  have f2 : Fresh S ((S.new dx (.own x)).new x (.ins (T.ca c) dx [])) x := ⟨hx0, (R.there hx).2, .inl hx⟩
  have s3 := s2.thaw (o := .ins c []) f2
  have R3 := R2.thaw (o := .ins c []) f2 ⟨dx, [], Sw.new_at, repF_mk0⟩
  refine ⟨by have e1 := hl _ _ _ g1; rw [List.length_cons] at e1 ⊢; rw [← repL_len r]; exact e1, _, .ref x :: ds, _, rfl, R3, repL_mk (by unfold rep; rfl) (r.stp R s3), g1, fun ev S' v s' r' q' h' => ?_⟩
  cases ev with
  | v d =>
    cases d with
    | non =>
      have q0 : rep T S'.fz S'.hp .non v := q'
      have ev : v = .non := rep_non q0
      refine ⟨ev, ?_⟩
      have sS : Stp S S' := s3.trans s'
      cases shut with
      | false => exact k (.v (.ref x)) S' (.ref x) sS r' (by unfold repE rep; rfl) h'
      | true =>
        have h2 : (match S'.hd x with
          | some (.ins c' fs) => Qd (.no c' (shutF (DL.del S'.hd x) fs).1) (shutF (DL.del S'.hd x) fs).2
          | _ => False) := h'
        cases q : S'.hd x with
        | none => rw [q] at h2; exact h2.elim
        | some o =>
          rw [q] at h2
          cases o with
          | lst _ => exact h2.elim
          | dic _ => exact h2.elim
          | ins c' fs =>
            obtain ⟨⟨dy, gs, q1, q2⟩, nf⟩ := r'.at_ x _ q
            obtain ⟨S2, h1, h22, h3, h4, h5, h6, h7, h8⟩ := shut_ok (S := S) (S' := S'.drop (DL.del S'.hd x)) (sS.drop (Sub.del _ _)) (r'.drop (Sub.del _ _)) q2 x del_same nf
            have h2' : Qd (.no c' (shutF (DL.del S'.hd x) fs).1) S2.hd := by rw [h22]; exact h2
            have e3 : S2.hp = S'.hp := h1
            rw [← e3]
            exact k (.no c' _) S2 (.ref x) h3 h4 ⟨x, dy, gs, rfl, by rw [e3]; exact q1, h5, h6, h7, .inl hx⟩ h2'
    | _ => exact h'.elim
  | _ => exact h'.elim
theorem snd_make {x : Str} {p : Pos} {as : List Expr} {c : Nat} {f : Addr} {g : DSp} {shut : Bool} (M : Mk X.K (T.ca c) f) (F : FFact X T f g) (hg : Gl X x) (hm : X.mg x = some (.ref (T.ca c))) (h : PL X T S0 u as es) (hdb : (x == ("__debug__" : Str)) = false) :
    PE X (.Call (.Name x p) as [] pos) (lE T S0 (dApp (dMake c g shut) (wEs u es))) := by
  obtain ⟨k, fd, ps, np, Fk, hr, hG, hb, hl⟩ := F
  cases h with
  | nil =>
    refine pe_imp (gMake0 M Fk hG hr hg hm hb pass0 hdb) fun σ H Q ⟨S, ds, eh, A, Qd, ht, z⟩ => ?_
    subst eh
    exact serves_make hl S [] [] Qd Q A.rh repL_mk0 ht z
  | cons h1 hn t => exact pe_imp (gMake M Fk hG hr hg hm hb pass0 (PL.cons (b := _) h1 hn t).pa hdb hn (t.stars pos).1) fun σ H Q q => app_lL (serves_make hl) q
/-! ### methods and properties, by the object's class -/
theorem eval_meth {o : Expr} {m : Str} {apos : Pos} {args : List Expr} {env : Env} (hb : nBase o = true) (hf : (backTo pos (starEach args env)).all (fun x => !x.1) = true) (hn : args.length < 20) (hl : (apos.endLine == pos.line) = true) :
    eval (.Call (.Attribute o m apos) args [] pos) env = (do
      let ov ← eval o env
      standAt apos.atName
      let (f, first) ← holding [ov] (getMethod ov m (do return (← importBound o env).getD true))
      callWith pos f first (backTo pos (starEach args env)) (backToKw pos (keywordEach [] env))) := by
  have hform : methodCallForm (args.length + ([] : List Keyword).length) (backTo pos (starEach args env)) (backToKw pos (keywordEach [] env)) = true := by
    unfold methodCallForm
    rw [hf]
    simp [backToKw, keywordEach]
    omega
  have hpos : methodCallPos true o env apos pos = pure pos := by unfold methodCallPos; simp [hl]
  rw [arm_eval_Call, base_of hb]
  unfold methodCall
  rw [hform, hpos]
  rfl
/-- what a method's name stands for in a class -/
def MFact (X : Cx) (T : Tb) (C : Addr) (m : Str) (g : DSp) : Prop := ∃ f, Cls X.K C ∧ Meth X.K C m f ∧ FFact X T f g
def tMethD (X : Cx) (T : Tb) (m : Str) (ta : TE) (t : TA) : TE := fun σ H Q => ta σ H fun x H1 => ∃ a C dx fs g np, x = .ref a ∧ H1 a = some (.ins C dx fs) ∧ fs.lookup m = none ∧ MFact X T C m g ∧ (∀ (ds : List D) (hd : Hd) (Q : EV → Hd → Prop), g ds hd Q → ds.length = np) ∧
  t σ H1 fun vs H2 => lSp T np g (x :: vs) H2 Q E0
theorem lSp_np {np np2 : Nat} {g : DSp} (h1 : ∀ (ds : List D) (hd : Hd) (Q : EV → Hd → Prop), g ds hd Q → ds.length = np) (h2 : ∀ (ds : List D) (hd : Hd) (Q : EV → Hd → Prop), g ds hd Q → ds.length = np2) {vs : List V} {H : Hp} {Q : VK} {E : XK} (h : lSp T np g vs H Q E) : lSp T np2 g vs H Q E := by
  obtain ⟨h3, S, ds, Qd, e, R, r, hg, k⟩ := h
  exact ⟨by rw [h3, ← h1 _ _ _ hg, h2 _ _ _ hg], S, ds, Qd, e, R, r, hg, k⟩
theorem pe_methD {o e : Expr} {as : List Expr} {m : Str} {apos : Pos} {ta : TE} {t : TA} (he : PE X o ta) (ha : PA X (e :: as) t) (hb : nBase o = true) (hf : (backTo pos (starEach (e :: as) X.env)).all (fun x => !x.1) = true) (hn : (e :: as).length < 20) (hl : (apos.endLine == pos.line) = true)
    (hst : starEach (e :: as) X.env = (false, eval e X.env) :: starEach as X.env) (hpl : (backTo pos (starEach as X.env)).any (·.1) = false) : PE X (.Call (.Attribute o m apos) (e :: as) [] pos) (tMethD X T m ta t) := by
  refine ⟨fun pins s σ H Q I h => ?_⟩
  refine PySem.W.methodCall_KW (thn (he.run pins s σ H _ I h) fun u s1 ⟨x, H1, I1, rx, a, C, dx, fs, g, np, ex, ea, l, MF, hnp, q⟩ => ?_) (eval_meth hb hf hn hl)
  obtain ⟨f, c, hm, k, fd, ps, np2, F, hr, hG, hbi, hl2⟩ := MF
  subst ex
  obtain rfl : u = Value.ref a := rx
  refine getmeth_ok I1 ea c hm l ?_
  refine PySem.W.callWith_K (first := [.ref a]) (h₀ := X.base) I.ok.mod.kin hm.kp (thn (ha.run pos pins s1 σ H1 _ I1 q) fun us s2 ⟨vs, H2, I2, r, q2⟩ => ⟨I2.kIn, ?_⟩) hst hpl
  refine gRun (us := .ref a :: us) (xs := .ref a :: vs) F hG (rm1 hr) hbi pass0 I2 (.cons rfl r) ?_
  exact lSp_np hnp hl2 q2
theorem pe_methD0 {o : Expr} {m : Str} {apos : Pos} {ta : TE} (he : PE X o ta) (hb : nBase o = true) (hl : (apos.endLine == pos.line) = true) : PE X (.Call (.Attribute o m apos) [] [] pos) (tMethD X T m ta tNil) := by
  refine ⟨fun pins s σ H Q I h => ?_⟩
  refine PySem.W.methodCall_KW (thn (he.run pins s σ H _ I h) fun u s1 ⟨x, H1, I1, rx, a, C, dx, fs, g, np, ex, ea, l, MF, hnp, q⟩ => ?_) (eval_meth hb rfl (by decide) hl)
  obtain ⟨f, c, hm, k, fd, ps, np2, F, hr, hG, hbi, hl2⟩ := MF
  subst ex
  obtain rfl : u = Value.ref a := rx
  refine getmeth_ok I1 ea c hm l ?_
  refine PySem.W.callWith_K0 (first := [.ref a]) I1.kIn hm.kp (gRun (us := [.ref a]) (xs := [.ref a]) F hG (rm1 hr) hbi pass0 I1 (.cons rfl .nil) ?_)
  exact lSp_np hnp hl2 q
/-- o.m(..) over data: the class tells the def -/
def dUcall (me : Nat → Nat → Option Nat) (G : Nat → DSp) (m : Nat) (t : DTE) (w : DTL) : DTE := fun ds hd Q => t ds hd fun ev hd1 => match view hd1 ev.d with
    | .obj c fs => match me c m with
      | some f => fget fs m = none ∧ w ds hd1 fun l hd2 => G f (ev.d :: l) hd2 Q
      | none => False
    | _ => False
def dUc1 (me : Nat → Nat → Option Nat) (G : Nat → DSp) (m : Nat) (w : DTL) (d : D) (ds : Slt) (hd1 : Hd) (Q : EV → Hd → Prop) : Prop := match view hd1 d with
    | .obj c fs => match me c m with
      | some f => fget fs m = none ∧ w ds hd1 fun l hd2 => G f (d :: l) hd2 Q
      | none => False
    | _ => False
theorem repF_none (K : TbOk T) {F : Fz} {H : Hp} {f : Nat} : ∀ {ds : List (Nat × D)} {vs : List (Str × V)}, repF T F H ds vs → fget ds f = none → vs.lookup (T.sym f) = none
  | [], vs, h, _ => by rw [repF_nil h]; rfl
  | (g, x) :: ds, vs, h, e => by
    obtain ⟨v, r, ev, h1, h2⟩ := repF_cons h
    subst ev
    by_cases q : g = f
    · subst q
      simp [fget, List.find?_cons] at e
    · have e2 : fget ds f = none := by simpa [fget, List.find?_cons, q] using e
      have ne : (T.sym f == T.sym g) = false := beq_false_of_ne fun z => q (K.inj g f z.symm)
      simp [List.lookup, ne, repF_none K h2 e2]
theorem ucall_lE (K : TbOk T) {me : Nat → Nat → Option Nat} {G : Nat → DSp} {m : Nat} (hM : ∀ c f, me c m = some f → MFact X T (T.ca c) (T.sym m) (G f)) {t : DTE} {w : DTL} {tw : TA} (hw : ∀ σ H Q, lL T S0 w σ H Q → tw σ H Q) {σ : L2.St} {H : Hp} {Q : VK} (h : lE T S0 (dUcall me G m t w) σ H Q) :
    tMethD X T (T.sym m) (lD T S0 (frz t)) tw σ H Q := by
  obtain ⟨S, ds, eh, A, Qd, ht, k⟩ := h
  subst eh
  refine seq_lD (u := fun d ds hd1 (Q : EV → Hd → Prop) => dUc1 me G m w d ds hd1 Q) (Qa := Qd) A ht fun d S1 v s1 A1 q1 h1 => ?_
  unfold dUc1 at h1
  split at h1
  · rename_i c fs eo
    obtain ⟨a, dx, gs, e1, e2, e3⟩ := view_obj A1.rh q1 eo
    split at h1
    · rename_i f ef
      obtain ⟨hn, h1⟩ := h1
      have MF := hM c f ef
      obtain ⟨fa, cc, hm, kk, fd, ps, np, F, hr, hG, hbi, hl⟩ := id MF
      refine ⟨a, T.ca c, dx, gs, G f, np, e1, e2, repF_none K e3 hn, MF, hl, ?_⟩
      refine hw _ _ _ ⟨S1, ds, rfl, A1, _, h1, fun l S2 vs s2 r2 q2 h2 => ?_⟩
      have hlen := hl _ _ _ h2
      refine ⟨?_, S2, d :: l, Qd, rfl, r2, repL_mk (q1.stp A1.rh s2) q2, h2, fun ev S' v' s' r' q' h' => k ev S' v' ((s1.trans s2).trans s') r' (q'.back (s1.trans s2)) h'⟩
      rw [List.length_cons] at hlen ⊢
      rw [← repL_len q2]; exact hlen
    · exact h1.elim
  · exact h1.elim
theorem snd_ucall (K : TbOk T) {me : Nat → Nat → Option Nat} {G : Nat → DSp} {m : Nat} {apos : Pos} {as : List Expr} (hM : ∀ c f, me c m = some f → MFact X T (T.ca c) (T.sym m) (G f)) {t : DTE} (he : PE X a (lE T S0 t)) (h : PL X T S0 u as es) (hb : nBase a = true) (hp : (apos.endLine == pos.line) = true) (hn : as.length < 20) :
    PE X (.Call (.Attribute a (T.sym m) apos) as [] pos) (lE T S0 (dUcall me G m t (wEs u es))) := by
  have hst := h.stars pos
  cases h with
  | nil => exact pe_imp (pe_methD0 (pe_frz he) hb hp) fun σ H Q q => ucall_lE K hM (fun σ H Q ⟨S, ds, eh, A, Qd, ht, k⟩ => by subst eh; exact k [] S [] (Stp.refl S) A.rh repL_mk0 ht) q
  | cons h1 hn1 t1 => exact pe_imp (pe_methD (pe_frz he) (PL.cons (b := _) h1 hn1 t1).pa hb hst.2 hn hp hn1 (t1.stars pos).1) fun σ H Q q => ucall_lE K hM (fun σ H Q z => z) q
/-- a property -/
def PFact (X : Cx) (T : Tb) (C : Addr) (m : Str) (g : DSp) : Prop := ∃ p f, Cls X.K C ∧ PropOf X.K C m p f ∧ FFact X T f g
def dProp (pr : Nat → Nat → Option Nat) (G : Nat → DSp) (m : Nat) (t : DTE) : DTE := fun ds hd Q => t ds hd fun ev hd1 => match view hd1 ev.d with
    | .obj c _ => match pr c m with
      | some f => G f [ev.d] hd1 Q
      | none => False
    | _ => False
def dPr1 (pr : Nat → Nat → Option Nat) (G : Nat → DSp) (m : Nat) (d : D) (hd1 : Hd) (Q : EV → Hd → Prop) : Prop := match view hd1 d with
    | .obj c _ => match pr c m with
      | some f => G f [d] hd1 Q
      | none => False
    | _ => False
theorem snd_prop {pr : Nat → Nat → Option Nat} {G : Nat → DSp} {m : Nat} (hM : ∀ c f, pr c m = some f → PFact X T (T.ca c) (T.sym m) (G f)) {t : DTE} (he : PE X a (lE T S0 t)) (hb : nBase a = true) : PE X (.Attribute a (T.sym m) pos) (lE T S0 (dProp pr G m t)) := by
  refine ⟨fun pins s σ H Q I h => ?_⟩
  obtain ⟨S, ds, eh, A, Qd, ht, k⟩ := h
  subst eh
  have h2 : lD T S0 (frz t) σ S.hp (fun v H1 => ∃ S1 d, S1.hp = H1 ∧ Stp S S1 ∧ Rh T S1 ∧ rep T S1.fz S1.hp d v ∧ dPr1 pr G m d S1.hd Qd) :=
    seq_lD (u := fun d ds hd1 (Q : EV → Hd → Prop) => dPr1 pr G m d hd1 Q) (Qa := Qd) A ht fun d S1 v s1 A1 q1 h1 => ⟨S1, d, rfl, s1, A1.rh, q1, h1⟩
  refine attr_of (base_of hb) (thn ((pe_frz he).run pins s σ S.hp _ I h2) fun uu s1 ⟨x, H1, I1, rx, S1, d, e1, st1, R1, q1, h1⟩ => ?_)
  subst e1
  unfold dPr1 at h1
  split at h1
  · rename_i c fs eo
    obtain ⟨aa, dx, gs, rfl, e2, e3⟩ := view_obj R1 q1 eo
    obtain rfl : uu = Value.ref aa := rx
    split at h1
    · rename_i f ef
      obtain ⟨p, fa, cc, hp, kk, fd, ps, np, F, hr, hG, hbi, hl⟩ := hM c f ef
      refine gProp I1 e2 cc hp F hG hr hbi pass0 ⟨?_, S1, [d], Qd, rfl, R1, repL_mk q1 repL_mk0, h1, fun ev S' v' s' r' q' h' => k ev S' v' (st1.trans s') r' (q'.back st1) h'⟩
      exact hl _ _ _ h1
    · exact h1.elim
  · exact h1.elim
end
end DL
set_option Elab.async false
set_option linter.all false
set_option maxRecDepth 100000
set_option maxHeartbeats 2000000
namespace DL
open PySem PySem.Spec PyProof.Rows L2
section
variable {T : Tb} {S0 S S' : Sw} {X : Cx} {u : IE → DTE} {a b c : Expr} {es : IEs} {pos : Pos}
theorem repE_bl {b : Bool} : repE T S S' (.v (.bl b)) (.bl b) := by
  show rep T S'.fz S'.hp (.bl b) (.bl b)
  exact mk_bl
/-! ### truth -/
theorem tru_rep (hK : X.K = T.K) (R : Rh T S) {d : D} {v : V} {k : Bool} (r : rep T S.fz S.hp d v) (h : truth S.hd d = some k) : TruV X.K v S.hp k := by
  unfold truth at h
  rw [hK]
  split at h
  · rename_i e; cases h; rw [view_non R r e]; rfl
  · rename_i e; cases h; rw [view_bl R r e]; rfl
  · rename_i e; cases h; rw [view_int R r e]; rfl
  · rename_i x e
    cases h
    obtain ⟨e1, e2, _⟩ := view_str R r e
    rw [e1]
    refine ⟨by rw [st_len, line]; exact e2, ?_⟩
    rw [st_len]
    cases x with
    | nil => rfl
    | cons y x =>
      show (!false) = (((y :: x).length : Int) != 0)
      have : (((y :: x).length : Int) != 0) = true := by
        rw [bne_iff_ne]; simp; omega
      rw [this]; rfl
  · rename_i x e
    cases h
    obtain ⟨p, vs, rfl, q, rl⟩ := view_lst R r e
    refine .inl ⟨vs, SqL.of q, ?_⟩
    have := repL_len rl
    cases x <;> cases vs <;> first | rfl | (simp at this)
  · rename_i x e
    cases h
    obtain ⟨p, vs, rfl, q, rl⟩ := view_tup R r e
    refine .inr (.inl ⟨vs, q, ?_⟩)
    have := repL_len rl
    cases x <;> cases vs <;> first | rfl | (simp at this)
  · rename_i x e
    cases h
    obtain ⟨p, vs, rfl, q, rl⟩ := view_dic R r e
    refine .inr (.inr ⟨vs, q, ?_⟩)
    have := repK_len rl
    cases x <;> cases vs <;> first | rfl | (simp at this)
  · cases h
def dAnd (t w : DTE) : DTE := fun ds hd Q => t ds hd fun ev hd1 => match truth hd1 ev.d with
    | some true => w ds hd1 Q
    | some false => Q (.v ev.d) hd1
    | none => False
def dAn1 (w : DTE) (d : D) (ds : Slt) (hd1 : Hd) (Q : EV → Hd → Prop) : Prop := match truth hd1 d with
    | some true => w ds hd1 Q
    | some false => Q (.v d) hd1
    | none => False
def dOr (t w : DTE) : DTE := fun ds hd Q => t ds hd fun ev hd1 => match truth hd1 ev.d with
    | some true => Q (.v ev.d) hd1
    | some false => w ds hd1 Q
    | none => False
def dOr1 (w : DTE) (d : D) (ds : Slt) (hd1 : Hd) (Q : EV → Hd → Prop) : Prop := match truth hd1 d with
    | some true => Q (.v d) hd1
    | some false => w ds hd1 Q
    | none => False
theorem lE_next {t : DTE} {σ : L2.St} {ds : Slt} {S S1 : Sw} {Qd : EV → Hd → Prop} {Q : VK} (A : At T S0 S1 ds σ) (s : Stp S S1) (h : t ds S1.hd Qd) (k : ∀ ev S' v, Stp S S' → Rh T S' → repE T S S' ev v → Qd ev S'.hd → Q v S'.hp) : lE T S0 t σ S1.hp Q :=
  ⟨S1, ds, rfl, A, Qd, h, fun ev S' v s' r' q' h' => k ev S' v (s.trans s') r' (q'.back s) h'⟩
theorem snd_andv {rest : List Expr} {t w : DTE} (hK : X.K = T.K) (h1 : PE X a (lE T S0 t)) (h2 : PE X (.BoolOp .And (b :: rest) pos) (lE T S0 w)) : PE X (.BoolOp .And (a :: b :: rest) pos) (lE T S0 (dAnd t w)) :=
  pe_imp (pe_andT (pe_frz h1) h2) fun σ H Q ⟨S, ds, eh, A, Qd, ht, k⟩ => by
    subst eh
    refine seq_lD (u := fun d ds hd1 (Q : EV → Hd → Prop) => dAn1 w d ds hd1 Q) (Qa := Qd) A ht fun d S1 v s1 A1 q1 h1 => ?_
    unfold dAn1 at h1
    split at h1
    · rename_i e
      exact ⟨true, tru_rep hK A1.rh q1 e, by rw [if_pos rfl]; exact lE_next A1 s1 h1 k⟩
    · rename_i e
      exact ⟨false, tru_rep hK A1.rh q1 e, by rw [if_neg Bool.false_ne_true]; exact k (.v d) S1 v s1 A1.rh q1 h1⟩
    · exact h1.elim
theorem snd_orv {rest : List Expr} {t w : DTE} (hK : X.K = T.K) (h1 : PE X a (lE T S0 t)) (h2 : PE X (.BoolOp .Or (b :: rest) pos) (lE T S0 w)) : PE X (.BoolOp .Or (a :: b :: rest) pos) (lE T S0 (dOr t w)) :=
  pe_imp (pe_orT (pe_frz h1) h2) fun σ H Q ⟨S, ds, eh, A, Qd, ht, k⟩ => by
    subst eh
    refine seq_lD (u := fun d ds hd1 (Q : EV → Hd → Prop) => dOr1 w d ds hd1 Q) (Qa := Qd) A ht fun d S1 v s1 A1 q1 h1 => ?_
    unfold dOr1 at h1
    split at h1
    · rename_i e
      exact ⟨true, tru_rep hK A1.rh q1 e, by rw [if_pos rfl]; exact k (.v d) S1 v s1 A1.rh q1 h1⟩
    · rename_i e
      exact ⟨false, tru_rep hK A1.rh q1 e, by rw [if_neg Bool.false_ne_true]; exact lE_next A1 s1 h1 k⟩
    · exact h1.elim
/-- not e, as a value -/
def dNotV (t : DTE) : DTE := fun ds hd Q => t ds hd fun ev hd1 => match truth hd1 ev.d with
    | some k => Q (.v (.bl (!k))) hd1
    | none => False
def dNo1 (d : D) (hd1 : Hd) (Q : EV → Hd → Prop) : Prop := match truth hd1 d with
    | some k => Q (.v (.bl (!k))) hd1
    | none => False
theorem snd_notv {t : DTE} (hK : X.K = T.K) (h1 : PE X a (lE T S0 t)) : PE X (.UnaryOp .Not a pos) (lE T S0 (dNotV t)) :=
  pe_imp (pe_notT (pe_frz h1)) fun σ H Q ⟨S, ds, eh, A, Qd, ht, k⟩ => by
    subst eh
    refine seq_lD (u := fun d ds hd1 (Q : EV → Hd → Prop) => dNo1 d hd1 Q) (Qa := Qd) A ht fun d S1 v s1 A1 q1 h1 => ?_
    unfold dNo1 at h1
    split at h1
    · rename_i kk e
      exact ⟨kk, tru_rep hK A1.rh q1 e, k (.v (.bl (!kk))) S1 _ s1 A1.rh repE_bl h1⟩
    · exact h1.elim
def dIf (t : DTT) (p q : DTE) : DTE := fun ds hd Q => t ds hd fun c hd1 => match c with
    | true => p ds hd1 Q
    | false => q ds hd1 Q
theorem snd_ife {t : DTT} {p q : DTE} (ht : PT X c (lT T S0 t)) (h1 : PE X a (lE T S0 p)) (h2 : PE X b (lE T S0 q)) : PE X (.IfExp c a b pos) (lE T S0 (dIf t p q)) :=
  pe_imp (pe_ifExp ht h1 h2) fun σ H Q ⟨S, ds, eh, A, Qd, ht, k⟩ => by
    subst eh
    refine ⟨S, ds, rfl, A, _, ht, fun b S1 s1 r1 hb => ?_⟩
    cases b with
    | true => rw [if_pos rfl]; exact lE_next (A.then_ s1 r1) s1 hb k
    | false => rw [if_neg Bool.false_ne_true]; exact lE_next (A.then_ s1 r1) s1 hb k
/-! ### tests -/
theorem pt_imp {t t' : TT} (h : PT X a t) (k : ∀ σ H Q, t' σ H Q → t σ H Q) : PT X a t' := ⟨fun p s σ H Q I q => h.run p s σ H Q I (k σ H Q q)⟩
theorem pw_imp {t t' : TT} (h : PW X a t) (k : ∀ σ H Q, t' σ H Q → t σ H Q) : PW X a t' := ⟨fun w p s σ H Q I q => h.run w p s σ H Q I (k σ H Q q)⟩
def dVal (t : DTE) : DTT := fun ds hd Q => t ds hd fun ev hd1 => match truth hd1 ev.d with
    | some b => Q b hd1
    | none => False
def dVa1 (d : D) (hd1 : Hd) (Q : Bool → Hd → Prop) : Prop := match truth hd1 d with
    | some b => Q b hd1
    | none => False
theorem snd_val {t : DTE} (hK : X.K = T.K) (h1 : PE X a (lE T S0 t)) (hp : ∀ whole, isTrue a X.env whole = (do let v ← whole; standAt a.pos; holding [v] (truthy v))) : PT X a (lT T S0 (dVal t)) :=
  pt_imp (pt_truth (pe_frz h1) hp) fun σ H Q ⟨S, ds, eh, A, Qd, ht, k⟩ => by
    subst eh
    refine seq_lD (u := fun d ds hd1 (Q : Bool → Hd → Prop) => dVa1 d hd1 Q) (Qa := Qd) A ht fun d S1 v s1 A1 q1 h1 => ?_
    unfold dVa1 at h1
    split at h1
    · rename_i kk e
      exact ⟨kk, tru_rep hK A1.rh q1 e, k kk S1 s1 A1.rh h1⟩
    · exact h1.elim
/-- a comparison as a test -/
def dBl (t : DTE) : DTT := fun ds hd Q => t ds hd fun ev hd1 => match ev with
    | .v (.bl b) => Q b hd1
    | _ => False
theorem bl_lT {t : DTE} {σ : L2.St} {H : Hp} {Q : Bool → Hp → Prop} (h : lT T S0 (dBl t) σ H Q) : lE T S0 t σ H fun x H' => ∃ k, x = .bl k ∧ Q k H' := by
  obtain ⟨S, ds, eh, A, Qd, ht, k⟩ := h
  refine ⟨S, ds, eh, A, _, ht, fun ev S' v s' r' q' h' => ?_⟩
  cases ev with
  | v d =>
    cases d with
    | bl b =>
      have q0 : rep T S'.fz S'.hp (.bl b) v := q'
      exact ⟨b, rep_bl q0, k b S' s' r' h'⟩
    | _ => exact h'.elim
  | _ => exact h'.elim
theorem snd_tcmp {op : CmpOp} {r : R2} {o : DOp} (hr : OpR X (compareOp op) r) (hs : Serves T (r2 r) o) (hm : behindInMarks op b = false) (h : PL X T S0 u [a, b] es) : PT X (.Compare a [op] [b] pos) (lT T S0 (dBl (dApp o (wEs u es)))) := by
  obtain ⟨k, e, j, f, rfl, h1, h2⟩ := h.two
  exact pt_imp (pt_cmpR hr h1 h2 hm) fun σ H Q q => two_op hs (bl_lT q)
theorem snd_tisN {j : Nat} {p : Pos} (h : PL X T S0 u [a] es) : PT X (.Compare a [.Is] [.Constant .none j p] pos) (lT T S0 (dBl (dApp (oIsN false) (wEs u es)))) := by
  obtain ⟨k, e, rfl, h1⟩ := h.one
  exact pt_imp (pt_cmp (pc_isN h1)) fun σ H Q q => one_op serves_isN (bl_lT q)
theorem snd_tnotN {j : Nat} {p : Pos} (h : PL X T S0 u [a] es) : PT X (.Compare a [.IsNot] [.Constant .none j p] pos) (lT T S0 (dBl (dApp (oIsN true) (wEs u es)))) := by
  obtain ⟨k, e, rfl, h1⟩ := h.one
  exact pt_imp (pt_cmp (pc_notN h1)) fun σ H Q q => one_op serves_notN (bl_lT q)
/-! ### a < b < c -/
def dCh2 (o2 : DOp) (w : DTE) (d : D) (z : EV) (ds : Slt) (hd3 : Hd) (Q : EV → Hd → Prop) : Prop := match z with
    | .v (.bl true) => w ds hd3 fun w hd4 => o2 hd4 [d, w.d] Q
    | .v (.bl false) => Q (.v (.bl false)) hd3
    | _ => False
def dChain (o o2 : DOp) (t v w : DTE) : DTE := fun ds hd Q => t ds hd fun x hd1 => v ds hd1 fun y hd2 => o hd2 [x.d, y.d] fun z hd3 => dCh2 o2 w y.d z ds hd3 Q
theorem chain_lE {o o2 : DOp} {r r' : R2} (hs : Serves T (r2 r) o) (hs2 : Serves T (r2 r') o2) {t v w : DTE} {σ : L2.St} {H : Hp} {Q : VK} (h : lE T S0 (dChain o o2 t v w) σ H Q) :
    tChain r r' (lD T S0 (frz t)) (lD T S0 (frz v)) (lD T S0 (frz w)) σ H Q := by
  obtain ⟨S, ds, eh, A, Qd, ht, k⟩ := h
  subst eh
  refine seq_lD (u := fun d ds hd1 (Q : EV → Hd → Prop) => v ds hd1 fun y hd2 => o hd2 [d, y.d] fun z hd3 => dCh2 o2 w y.d z ds hd3 Q) (Qa := Qd) A ht fun d S1 x s1 A1 q1 h1 => ?_
  refine seq_lD (t := frz v) (u := fun e ds hd2 (Q : EV → Hd → Prop) => o hd2 [d, e] fun z hd3 => dCh2 o2 w e z ds hd3 Q) (Qa := Qd) A1 h1 fun e S2 y s2 A2 q2 h2 => ?_
  obtain ⟨x1, y1, exy, z⟩ := hs S2 [d, e] [x, y] (fun z hd3 => dCh2 o2 w e z ds hd3 Qd) (fun z H3 => ∃ k, z = .bl k ∧ (if k = true then lD T S0 (frz w) σ H3 fun w' H4 => r' y w' H4 Q else Q (.bl false) H3)) A2.rh (repL_mk (q1.stp A1.rh s2) (repL_mk q2 repL_mk0)) h2 fun ev S3 vv s3 r3 q3 h3 => by
    unfold dCh2 at h3
    split at h3
    · have q0 : rep T S3.fz S3.hp (.bl true) vv := q3
      refine ⟨true, rep_bl q0, ?_⟩
      rw [if_pos rfl]
      refine seq_lD (t := frz w) (u := fun f ds hd4 (Q : EV → Hd → Prop) => o2 hd4 [e, f] Q) (Qa := Qd) (A2.then_ s3 r3) h3 fun f S4 wv s4 A4 q4 h4 => ?_
      obtain ⟨y2, w2, eyw, z2⟩ := hs2 S4 [e, f] [y, wv] Qd Q A4.rh (repL_mk (q2.stp A2.rh (s3.trans s4)) (repL_mk q4 repL_mk0)) h4 fun ev S5 v5 s5 r5 q5 h5 => k ev S5 v5 ((((s1.trans s2).trans s3).trans s4).trans s5) r5 (q5.back (((s1.trans s2).trans s3).trans s4)) h5
      cases eyw
      exact z2
    · have q0 : rep T S3.fz S3.hp (.bl false) vv := q3
      refine ⟨false, rep_bl q0, ?_⟩
      rw [if_neg Bool.false_ne_true]
      exact k (.v (.bl false)) S3 (.bl false) ((s1.trans s2).trans s3) r3 repE_bl h3
    · exact h3.elim
  cases exy
  exact z
theorem snd_chain {op op' : CmpOp} {r r' : R2} {o o2 : DOp} {t v w : DTE} (ho : OpR X (compareOp op) r) (ho' : OpR X (compareOp op') r') (hs : Serves T (r2 r) o) (hs2 : Serves T (r2 r') o2) (h1 : PE X a (lE T S0 t)) (h2 : PE X b (lE T S0 v)) (h3 : PE X c (lE T S0 w))
    (hm : lastMarks [op, op'] [b, c] = false) : PE X (.Compare a [op, op'] [b, c] pos) (lE T S0 (dChain o o2 t v w)) := pe_imp (pe_chain ho ho' (pe_frz h1) (pe_frz h2) (pe_frz h3) hm) fun σ H Q q => chain_lE hs hs2 q
theorem snd_tchain {op op' : CmpOp} {r r' : R2} {o o2 : DOp} {t v w : DTE} (ho : OpR X (compareOp op) r) (ho' : OpR X (compareOp op') r') (hs : Serves T (r2 r) o) (hs2 : Serves T (r2 r') o2) (h1 : PE X a (lE T S0 t)) (h2 : PE X b (lE T S0 v)) (h3 : PE X c (lE T S0 w))
    (hm : lastMarks [op, op'] [b, c] = false) : PT X (.Compare a [op, op'] [b, c] pos) (lT T S0 (dBl (dChain o o2 t v w))) := pt_imp (pt_chain ho ho' (pe_frz h1) (pe_frz h2) (pe_frz h3) hm) fun σ H Q q => chain_lE hs hs2 (bl_lT q)
def dTand (t w : DTT) : DTT := fun ds hd Q => t ds hd fun c hd1 => match c with
    | true => w ds hd1 Q
    | false => Q false hd1
def dTor (t w : DTT) : DTT := fun ds hd Q => t ds hd fun c hd1 => match c with
    | true => Q true hd1
    | false => w ds hd1 Q
def dTnot (t : DTT) : DTT := fun ds hd Q => t ds hd fun c hd1 => Q (!c) hd1
theorem lT_next {t : DTT} {σ : L2.St} {ds : Slt} {S S1 : Sw} {Qd : Bool → Hd → Prop} {Q : Bool → Hp → Prop} (A : At T S0 S1 ds σ) (s : Stp S S1) (h : t ds S1.hd Qd) (k : ∀ b S', Stp S S' → Rh T S' → Qd b S'.hd → Q b S'.hp) : lT T S0 t σ S1.hp Q :=
  ⟨S1, ds, rfl, A, Qd, h, fun b S' s' r' h' => k b S' (s.trans s') r' h'⟩
theorem snd_tand {rest : List Expr} {t w : DTT} (h1 : PT X a (lT T S0 t)) (h2 : PW X (.BoolOp .And (b :: rest) pos) (lT T S0 w)) : PW X (.BoolOp .And (a :: b :: rest) pos) (lT T S0 (dTand t w)) :=
  pw_imp (pw_and h1 h2) fun σ H Q ⟨S, ds, eh, A, Qd, ht, k⟩ => by
    subst eh
    refine ⟨S, ds, rfl, A, _, ht, fun b S1 s1 r1 hb => ?_⟩
    cases b with
    | true => rw [if_pos rfl]; exact lT_next (A.then_ s1 r1) s1 hb k
    | false => rw [if_neg Bool.false_ne_true]; exact k false S1 s1 r1 hb
theorem snd_tor {rest : List Expr} {t w : DTT} (h1 : PT X a (lT T S0 t)) (h2 : PW X (.BoolOp .Or (b :: rest) pos) (lT T S0 w)) : PW X (.BoolOp .Or (a :: b :: rest) pos) (lT T S0 (dTor t w)) :=
  pw_imp (pw_or h1 h2) fun σ H Q ⟨S, ds, eh, A, Qd, ht, k⟩ => by
    subst eh
    refine ⟨S, ds, rfl, A, _, ht, fun b S1 s1 r1 hb => ?_⟩
    cases b with
    | true => rw [if_pos rfl]; exact k true S1 s1 r1 hb
    | false => rw [if_neg Bool.false_ne_true]; exact lT_next (A.then_ s1 r1) s1 hb k
theorem snd_tnot {t : DTT} (h1 : PT X a (lT T S0 t)) : PT X (.UnaryOp .Not a pos) (lT T S0 (dTnot t)) :=
  pt_imp (pt_not h1) fun σ H Q ⟨S, ds, eh, A, Qd, ht, k⟩ => ⟨S, ds, eh, A, _, ht, fun b S1 s1 r1 hb => k (!b) S1 s1 r1 hb⟩
end
end DL
set_option Elab.async false
set_option linter.all false
set_option maxRecDepth 100000
set_option maxHeartbeats 2000000
namespace DL
open PySem PySem.Spec PyProof.Rows L2
abbrev DTS := DEn → Slt → Hd → Prop
/-- the ends over data serve the ends D, from the world S on -/
structure EnOk (T : Tb) (S0 S : Sw) (E : DEn) (D : Ends) : Prop where
  nx : ∀ S' ds' σ', At T S0 S' ds' σ' → Stp S S' → E.nx ds' S'.hd → D.nx σ' S'.hp
  rt : ∀ ev S' v, Stp S0 S' → Rh T S' → repE T S0 S' ev v → E.rt ev S'.hd → D.rt v S'.hp
  bk : ∀ S' ds' σ', At T S0 S' ds' σ' → Stp S S' → E.bk ds' S'.hd → D.bk σ' S'.hp
  ct : ∀ S' ds' σ', At T S0 S' ds' σ' → Stp S S' → E.ct ds' S'.hd → D.ct σ' S'.hp
section
variable {T : Tb} {S0 S S' : Sw} {X : Cx}
theorem EnOk.later {E : DEn} {D : Ends} (e : EnOk T S0 S E D) (s : Stp S S') : EnOk T S0 S' E D :=
  ⟨fun S2 ds σ a q h => e.nx S2 ds σ a (s.trans q) h, e.rt, fun S2 ds σ a q h => e.bk S2 ds σ a (s.trans q) h, fun S2 ds σ a q h => e.ct S2 ds σ a (s.trans q) h⟩
def lS (T : Tb) (S0 : Sw) (t : DTS) : TS := fun D σ H => ∃ S ds, S.hp = H ∧ At T S0 S ds σ ∧ ∃ E, t E ds S.hd ∧ EnOk T S0 S E D
theorem ps_imp {st : Stmt} {t t' : TS} (h : PS X st t) (k : ∀ D σ H, t' D σ H → t D σ H) : PS X st t' := ⟨fun p s σ H D I q => h.run p s σ H D I (k D σ H q)⟩
theorem pss_imp {st : List Stmt} {t t' : TS} (h : PSs X st t) (k : ∀ D σ H, t' D σ H → t D σ H) : PSs X st t' := ⟨fun p s σ H D I q => h.run p s σ H D I (k D σ H q)⟩
theorem sts_nil : PSs X [] (lS T S0 fun E ds hd => E.nx ds hd) := pss_imp pss_nil fun D σ H ⟨S, ds, eh, A, E, h, ok⟩ => by
  subst eh
  exact ok.nx S ds σ A (Stp.refl S) h
theorem sts_cons {st : Stmt} {rest : List Stmt} {t u : DTS} (h1 : PS X st (lS T S0 t)) (h2 : PSs X rest (lS T S0 u)) : PSs X (st :: rest) (lS T S0 fun E ds hd => t { E with nx := u E } ds hd) :=
  pss_imp (pss_cons h1 h2) fun D σ H ⟨S, ds, eh, A, E, h, ok⟩ => ⟨S, ds, eh, A, _, h, fun S' ds' σ' A' s' h' => ⟨S', ds', rfl, A', E, h', ok.later s'⟩, ok.rt, ok.bk, ok.ct⟩
theorem sts_pass {pos : Pos} : PS X (.Pass pos) (lS T S0 fun E ds hd => E.nx ds hd) := ps_imp ps_pass fun D σ H ⟨S, ds, eh, A, E, h, ok⟩ => by
  subst eh
  exact ok.nx S ds σ A (Stp.refl S) h
theorem sts_brk {pos : Pos} : PS X (.Break pos) (lS T S0 fun E ds hd => E.bk ds hd) := ps_imp ps_break fun D σ H ⟨S, ds, eh, A, E, h, ok⟩ => by
  subst eh
  exact ok.bk S ds σ A (Stp.refl S) h
theorem sts_cont {pos : Pos} : PS X (.Continue pos) (lS T S0 fun E ds hd => E.ct ds hd) := ps_imp ps_continue fun D σ H ⟨S, ds, eh, A, E, h, ok⟩ => by
  subst eh
  exact ok.ct S ds σ A (Stp.refl S) h
theorem sts_never {st : Stmt} : PS X st (lS T S0 fun _ _ _ => False) := ps_imp ps_never fun D σ H ⟨S, ds, eh, A, E, h, ok⟩ => h.elim
theorem sts_expr {e : Expr} {t : DTE} {pos : Pos} (he : PE X e (lE T S0 t)) (hs : swapsWith e none pos.line X.env = pure false) : PS X (.Expr e pos) (lS T S0 fun E ds hd => t ds hd fun _ hd1 => E.nx ds hd1) :=
  ps_imp (ps_expr (pe_frz he) hs) fun D σ H ⟨S, ds, eh, A, E, h, ok⟩ => ⟨S, ds, eh, A, fun _ hd1 => E.nx ds hd1, h, fun d S' v s r q h' => ok.nx S' ds σ (A.then_ s r) s h'⟩
theorem sts_retN {pos : Pos} : PS X (.Return none pos) (lS T S0 fun E _ hd => E.rt (.v .non) hd) := ps_imp ps_retN fun D σ H ⟨S, ds, eh, A, E, h, ok⟩ => by
  subst eh
  exact ok.rt (.v .non) S .non A.stp A.rh (by show rep T S.fz S.hp .non .non; exact mk_non) h
theorem rel_ok {b : Bool} {ev : EV} {v : V} {Qd : EV → Hd → Prop} {Q : VK} (s : Stp S0 S) (r : Rh T S) (q : repE T S0 S ev v) (h : rel b ev S.hd Qd)
    (k : ∀ ev S' v, Stp S0 S' → Rh T S' → repE T S0 S' ev v → Qd ev S'.hd → Q v S'.hp) : Q v S.hp := by
  cases b with
  | false => exact k ev S v s r q h
  | true =>
    unfold rel at h
    split at h
    · cases ‹true = false›
    · split at h
      · rename_i p
        have q0 : rep T S.fz S.hp (.ref p) v := q
        have e := rep_ref q0
        have fr : ∀ o, S.hd p = some o → Fresh S0 (S.drop (DL.del S.hd p)) p := fun o eo =>
          Fresh.of (s.drop (Sub.del _ _)) del_same (r.at_ p o eo).2 fun w ew hn => by
            obtain ⟨_, _, _, _, n1, _⟩ := s.uu p w ew hn
            rw [eo] at n1; cases n1
        split at h
        · rename_i xs eo
          obtain ⟨⟨vs, e1, r1⟩, _⟩ := r.at_ p _ eo
          exact k (.nl xs) (S.drop (DL.del S.hd p)) v (s.drop (Sub.del _ _)) (r.drop (Sub.del _ _)) ⟨p, vs, e, e1, r1, fr _ eo⟩ h
        · rename_i xs eo
          obtain ⟨⟨vs, e1, r1⟩, _⟩ := r.at_ p _ eo
          exact k (.nd xs) (S.drop (DL.del S.hd p)) v (s.drop (Sub.del _ _)) (r.drop (Sub.del _ _)) ⟨p, vs, e, e1, r1, fr _ eo⟩ h
        · rename_i c xs eo
          obtain ⟨⟨dx, vs, e1, r1⟩, _⟩ := r.at_ p _ eo
          exact k (.no c xs) (S.drop (DL.del S.hd p)) v (s.drop (Sub.del _ _)) (r.drop (Sub.del _ _)) ⟨p, dx, vs, e, e1, r1, fr _ eo⟩ h
        · exact h.elim
      · exact h.elim
theorem snd_rel {e : Expr} {t : DTE} (h : PE X e (lE T S0 t)) : PE X e (lE T S0 fun ds hd Q => t ds hd fun ev hd1 => rel true ev hd1 Q) :=
  pe_imp h fun σ H Q ⟨S, ds, eh, A, Qd, ht, k⟩ => ⟨S, ds, eh, A, fun ev hd1 => rel true ev hd1 Qd, ht, fun ev S' v s r q h' => rel_ok (S0 := S) s r q h' k⟩
theorem sts_ret {e : Expr} {t : DTE} {b : Bool} {pos : Pos} (he : PE X e (lE T S0 t)) : PS X (.Return (some e) pos) (lS T S0 fun E ds hd => t ds hd fun ev hd1 => rel b ev hd1 E.rt) :=
  ps_imp (ps_ret he) fun D σ H ⟨S, ds, eh, A, E, h, ok⟩ => ⟨S, ds, eh, A, fun ev hd1 => rel b ev hd1 E.rt, h, fun ev S' v s r q h' => rel_ok (A.stp.trans s) r (q.back A.stp) h' ok.rt⟩
def dIfS (c : DTT) (t u : DTS) : DTS := fun E ds hd => c ds hd fun b hd1 => match b with
  | true => t E ds hd1
  | false => u E ds hd1
theorem sts_if {c : Expr} {a b : List Stmt} {tc : DTT} {t u : DTS} {pos : Pos} (hc : PT X c (lT T S0 tc)) (ha : PSs X a (lS T S0 t)) (hb : PSs X b (lS T S0 u)) : PS X (.If c a b pos) (lS T S0 (dIfS tc t u)) :=
  ps_imp (ps_if hc ha hb) fun D σ H ⟨S, ds, eh, A, E, h, ok⟩ => ⟨S, ds, eh, A, _, h, fun b S' s r h' => by
    cases b with
    | true => rw [if_pos rfl]; exact ⟨S', ds, rfl, A.then_ s r, E, h', ok.later s⟩
    | false => rw [if_neg Bool.false_ne_true]; exact ⟨S', ds, rfl, A.then_ s r, E, h', ok.later s⟩⟩
theorem sts_for {tg iter : Expr} {body : List Stmt} {tI : DTI} {g : IG} {tb : DTS} {pos : Pos} (hp : PassesOwn (model X.prog X.w) X.A X.env X.xe) (hc : X.calm = true) (hi : PI X tg iter (lI T S0 tI)) (hg : PG X tg (gV T g)) (hb : PSs X body (lS T S0 tb))
    (hs : ∀ x, foldedSetIterable iter X.env x = pure x) : PS X (.For tg iter body [] pos) (lS T S0 fun E ds hd => tI ds hd fun its gd hd1 => loop g gd E tb its ds hd1) :=
  ps_imp (ps_for hp hc hi hg hb hs) fun D σ H ⟨S, ds, eh, A, E, h, ok⟩ => by
    subst eh
    refine ⟨S, ds, rfl, A, _, h, fun its gd B J s1 R1 wk hl => ?_⟩
    refine ⟨fun i m σ H => ∃ S2 ds2, S2.hp = H ∧ At T S0 S2 ds2 σ ∧ Stp B S2 ∧ i + m = its.length ∧ loop g gd E tb (its.drop i) ds2 S2.hd, ⟨its.length, B, ds, rfl, A.then_ s1 R1, Stp.refl B, by omega, by rw [List.drop_zero]; exact hl⟩, ?_⟩
    rintro i m σ H ⟨S2, ds2, rfl, A2, s2, him, hw⟩
    cases m with
    | zero =>
      have hdrop : its.drop i = [] := List.drop_eq_nil_of_le (by omega)
      rw [hdrop] at hw
      obtain ⟨hg0, hk⟩ := hw
      exact .inl ⟨wk.stop i S2 s2 A2.rh hg0 (by omega), ok.nx S2 ds2 σ A2 (s1.trans s2) hk⟩
    | succ m =>
      have hi : i < its.length := by omega
      have hdrop : its.drop i = its[i] :: its.drop (i + 1) := (List.getElem_cons_drop hi).symm
      rw [hdrop] at hw
      obtain ⟨hg0, hk⟩ := hw
      refine .inr ⟨wk.go i S2 s2 A2.rh hg0 hi, fun σ H => ∃ S2 ds2, S2.hp = H ∧ At T S0 S2 ds2 σ ∧ Stp B S2 ∧ (i + 1) + m = its.length ∧ loop g gd E tb (its.drop (i + 1)) ds2 S2.hd, fun σ' H' w => ⟨m, Nat.lt_succ_self m, w⟩, fun x H' hy => ?_⟩
      obtain ⟨S3, rfl, ehd, s3, R3, rx⟩ := wk.yld i S2 x H' its[i] s2 A2.rh hg0 (List.getElem?_eq_getElem hi) hy
      rw [← ehd] at hk
      refine bind_ok (own := gIx g) (fun _ z => z) rx (A2.rs.stp A2.rh s3) hk fun ds1 σ1 rs1 _ hb1 => ?_
      have nxt : ∀ S' ds' σ', At T S0 S' ds' σ' → Stp S3 S' → loop g gd E tb (its.drop (i + 1)) ds' S'.hd → ∃ S2 ds2, S2.hp = S'.hp ∧ At T S0 S2 ds2 σ' ∧ Stp B S2 ∧ (i + 1) + m = its.length ∧ loop g gd E tb (its.drop (i + 1)) ds2 S2.hd :=
        fun S' ds' σ' A' s' h' => ⟨S', ds', rfl, A', s2.trans (s3.trans s'), by omega, h'⟩
      exact ⟨S3, ds1, rfl, ⟨A2.stp.trans s3, R3, rs1⟩, _, hb1, nxt, ok.rt, fun S' ds' σ' A' s' h' => ok.nx S' ds' σ' A' (s1.trans (s2.trans (s3.trans s'))) h', nxt⟩
theorem sts_while {c : Expr} {body : List Stmt} {tc : DTT} {tb : DTS} {pos : Pos} (hp : PassesOwn (model X.prog X.w) X.A X.env X.xe) (hc : PT X c (lT T S0 tc)) (hb : PSs X body (lS T S0 tb)) :
    PS X (.While c body [] pos) (lS T S0 fun E ds hd => ∃ n, whileN tc E tb n ds hd) :=
  ps_imp (ps_while hp hc hb) fun D σ H ⟨S, ds, eh, A, E, ⟨n, h⟩, ok⟩ => by
    subst eh
    refine ⟨fun m σ H => ∃ S2 ds2, S2.hp = H ∧ At T S0 S2 ds2 σ ∧ Stp S S2 ∧ whileN tc E tb m ds2 S2.hd, ⟨n, S, ds, rfl, A, Stp.refl S, h⟩, ?_⟩
    rintro m σ H ⟨S2, ds2, rfl, A2, s2, hw⟩
    cases m with
    | zero => exact hw.elim
    | succ m =>
      refine ⟨S2, ds2, rfl, A2, _, hw, fun b S3 s3 r3 h3 => ?_⟩
      have A3 := A2.then_ s3 r3
      cases b with
      | false => show if false = true then _ else _; rw [if_neg Bool.false_ne_true]; exact ok.nx S3 ds2 σ A3 (s2.trans s3) h3
      | true =>
        show if true = true then _ else _
        rw [if_pos rfl]
        refine ⟨fun σ H => ∃ S2 ds2, S2.hp = H ∧ At T S0 S2 ds2 σ ∧ Stp S S2 ∧ whileN tc E tb m ds2 S2.hd, fun σ' H' w => ⟨m, Nat.lt_succ_self m, w⟩, ?_⟩
        have nxt : ∀ S' ds' σ', At T S0 S' ds' σ' → Stp S3 S' → whileN tc E tb m ds' S'.hd → ∃ S2 ds2, S2.hp = S'.hp ∧ At T S0 S2 ds2 σ' ∧ Stp S S2 ∧ whileN tc E tb m ds2 S2.hd :=
          fun S' ds' σ' A' s' h' => ⟨S', ds', rfl, A', s2.trans (s3.trans s'), h'⟩
        exact ⟨S3, ds2, rfl, A3, _, h3, nxt, ok.rt, fun S' ds' σ' A' s' h' => ok.nx S' ds' σ' A' (s2.trans (s3.trans s')) h', nxt⟩
/-! ### stores -/
theorem asg_lS {g : IG} {b : Bool} {t : DTE} {te : TE} (hte : ∀ σ H Q, lE T S0 t σ H Q → te σ H Q) {D : Ends} {σ : L2.St} {H : Hp} (h : lS T S0 (fun E ds hd => t ds hd fun ev hd1 => take b ev hd1 fun d hd2 => bindG g d ds fun ds1 => E.nx ds1 hd2) D σ H) :
    tAsg te (gV T g) D σ H := by
  obtain ⟨S, ds, eh, A, E, h, ok⟩ := h
  refine hte _ _ _ ⟨S, ds, eh, A, _, h, fun ev S' v s r q h' => ?_⟩
  refine take_ok (Q := fun v H => gV T g v σ H D.nx) s r q h' fun d S1 v s1 r1 q1 h1 => ?_
  exact bind_ok (own := gIx g) (fun _ z => z) q1 (A.rs.stp A.rh s1) h1 fun ds1 σ1 rs1 _ h2 => ok.nx S1 ds1 σ1 ⟨A.stp.trans s1, r1, rs1⟩ s1 h2
theorem sts_asg {tg e : Expr} {t : DTE} {g : IG} {b : Bool} {pos : Pos} (he : PE X e (lE T S0 t)) (hg : PG X tg (gV T g)) (hs : swapsWithSole [tg] e pos.line X.env = pure false) (hw : swappedStores [tg] e X.env = pure none) (h1 : (assignEach [tg] X.env).map (·.2) = [assign tg X.env]) :
    PS X (.Assign [tg] e pos) (lS T S0 fun E ds hd => t ds hd fun ev hd1 => take b ev hd1 fun d hd2 => bindG g d ds fun ds1 => E.nx ds1 hd2) :=
  ps_imp (ps_asg he hg hs hw h1) fun D σ H q => asg_lS (fun _ _ _ z => z) q
theorem sts_setLc {i : Nat} {y : Str} {py : Pos} {elt tg iter : Expr} {ifs : List Expr} {scope : Scope} {own : List (Str × Nat)} {pos spos : Pos} {g : IG} {tI : DTI} {tt : DTT} {te : DTE} {b : Bool} (hc : X.calm = true) (hN : X.N.Nodup) (hy : X.N[i]? = some y) (hyl : X.env.scope.names.lookup y = some .local)
    (hsw : swapsWith (.ListComp elt [⟨tg, iter, ifs, 0⟩] scope pos) (some (.Name y py)) spos.line X.env = pure true) (hi : PI X tg iter (lI T S0 tI)) (ok : BlkOk X.N X.env.scope scope own)
    (hg : ∀ (s : Shared) (H : Hp) (C : Addr) (cl : List (Str × Addr)) (fp : List Addr), PG (X.blk s H scope (compEnvC scope cl C X.env) fp) tg (gV T g))
    (ht : ∀ (s : Shared) (H : Hp) (C : Addr) (cl : List (Str × Addr)) (fp : List Addr), PTs (X.blk s H scope (compEnvC scope cl C X.env) fp) ifs (lT T S0 tt))
    (he : ∀ (s : Shared) (H : Hp) (C : Addr) (cl : List (Str × Addr)) (fp : List Addr), PE (X.blk s H scope (compEnvC scope cl C X.env) fp) elt (lD T S0 (frz te)))
    (ho : ∀ i ∈ gIx g, i ∈ own.map (·.2)) (hs : ∀ x, foldedSetIterable iter X.env x = pure x) :
    PS X (.Assign [.Name y py] (.ListComp elt [⟨tg, iter, ifs, 0⟩] scope pos) spos) (lS T S0 fun E ds hd => dComp tI g tt te (own.map (·.2)) ds hd fun ev hd1 => take b ev hd1 fun d hd2 => bindG (.nm i) d ds fun ds1 => E.nx ds1 hd2) :=
  ps_imp (ps_setLc hc hN hy hyl hsw hi ok hg ht he hs) fun D σ H q => asg_lS (g := .nm i) (comp_lE ho) q
theorem sts_par {i j : Nat} {x y : Str} {a b : Expr} {t : DTL} {px py pt pos : Pos} {kt k2 pt2} (hc : X.calm = true) (hN : X.N.Nodup) (hi : X.N[i]? = some x) (hj : X.N[j]? = some y) (hij : i ≠ j)
    (hx : X.env.scope.names.lookup x = some .local) (hy : X.env.scope.names.lookup y = some .local) (ha : PA X [a, b] (lL T S0 t))
    (hw : swappedStores [.Tuple [.Name x px, .Name y py] kt pt] (.Tuple [a, b] k2 pt2) X.env = pure (some [x, y]))
    (hs : swapsWithSole [.Tuple [.Name x px, .Name y py] kt pt] (.Tuple [a, b] k2 pt2) pos.line X.env = pure false) :
    PS X (.Assign [.Tuple [.Name x px, .Name y py] kt pt] (.Tuple [a, b] k2 pt2) pos) (lS T S0 fun E ds hd => t ds hd fun l hd1 => l.length = [i, j].length ∧ E.nx (([i, j].zip l).foldl (fun a p => a.set p.1 (some p.2)) ds) hd1) :=
  ps_imp (ps_par hc hN hi hj hij hx hy ha hw hs) fun D σ H ⟨S, ds, eh, A, E, h, ok⟩ => ⟨S, ds, eh, A, _, h, fun l S' vs s r q h' => by
    obtain ⟨hl, h'⟩ := h'
    match l, hl with
    | [u, v], _ =>
      obtain ⟨v1, v2, rfl, q1, q2⟩ := repL_2 q
      exact ⟨v1, v2, rfl, ok.nx S' _ _ ⟨A.stp.trans s, r, ((A.rs.stp A.rh s).set q1 i).set q2 j⟩ s h'⟩⟩
theorem sts_par3 {i j l : Nat} {x y z : Str} {a b c : Expr} {t : DTL} {px py pz pt pos : Pos} {kt k2 pt2} (hc : X.calm = true) (hN : X.N.Nodup) (hi : X.N[i]? = some x) (hj : X.N[j]? = some y) (hl : X.N[l]? = some z) (hij : i ≠ j) (hil : i ≠ l) (hjl : j ≠ l)
    (hx : X.env.scope.names.lookup x = some .local) (hy : X.env.scope.names.lookup y = some .local) (hz : X.env.scope.names.lookup z = some .local) (ha : PA X [a, b, c] (lL T S0 t))
    (hw : swappedStores [.Tuple [.Name x px, .Name y py, .Name z pz] kt pt] (.Tuple [a, b, c] k2 pt2) X.env = pure (some [x, y, z]))
    (hs : swapsWithSole [.Tuple [.Name x px, .Name y py, .Name z pz] kt pt] (.Tuple [a, b, c] k2 pt2) pos.line X.env = pure false) :
    PS X (.Assign [.Tuple [.Name x px, .Name y py, .Name z pz] kt pt] (.Tuple [a, b, c] k2 pt2) pos) (lS T S0 fun E ds hd => t ds hd fun v hd1 => v.length = [i, j, l].length ∧ E.nx (([i, j, l].zip v).foldl (fun a p => a.set p.1 (some p.2)) ds) hd1) :=
  ps_imp (ps_par3 hc hN hi hj hl hij hil hjl hx hy hz ha hw hs) fun D σ H ⟨S, ds, eh, A, E, h, ok⟩ => ⟨S, ds, eh, A, _, h, fun v S' vs s r q h' => by
    obtain ⟨hl, h'⟩ := h'
    match v, hl with
    | [u, v, w], _ =>
      obtain ⟨v1, v2, v3, rfl, q1, q2, q3⟩ := repL_3 q
      exact ⟨v1, v2, v3, rfl, ok.nx S' _ _ ⟨A.stp.trans s, r, (((A.rs.stp A.rh s).set q1 i).set q2 j).set q3 l⟩ s h'⟩⟩
/-- a target over data -/
def lG (T : Tb) (S0 : Sw) (t : D → Slt → Hd → (Slt → Hd → Prop) → Prop) : TG := fun v σ H Q => ∃ S ds d, S.hp = H ∧ At T S0 S ds σ ∧ rep T S.fz S.hp d v ∧ ∃ Qd, t d ds S.hd Qd ∧ ∀ S' ds' σ', At T S0 S' ds' σ' → Stp S S' → Qd ds' S'.hd → Q σ' S'.hp
def lGs (T : Tb) (S0 : Sw) (t : List D → Slt → Hd → (Slt → Hd → Prop) → Prop) : TGs := fun v σ H Q => ∃ S ds d, S.hp = H ∧ At T S0 S ds σ ∧ repL T S.fz S.hp d v ∧ ∃ Qd, t d ds S.hd Qd ∧ ∀ S' ds' σ', At T S0 S' ds' σ' → Stp S S' → Qd ds' S'.hd → Q σ' S'.hp
theorem pg_imp {e : Expr} {t t' : TG} (h : PG X e t) (k : ∀ v σ H Q, t' v σ H Q → t v σ H Q) : PG X e t' := ⟨fun p s σ H v u Q I r q => h.run p s σ H v u Q I r (k v σ H Q q)⟩
theorem pgs_imp {e : List Expr} {t t' : TGs} (h : PGs X e t) (k : ∀ v σ H Q, t' v σ H Q → t v σ H Q) : PGs X e t' := ⟨fun p s σ H v u Q I r q => h.run p s σ H v u Q I r (k v σ H Q q)⟩
theorem stg_nm {i : Nat} {tg : Expr} (h : PG X tg (gName i)) : PG X tg (lG T S0 fun d ds hd Q => Q (ds.set i (some d)) hd) := pg_imp h fun v σ H Q ⟨S, ds, d, eh, A, r, Qd, h, k⟩ => by
  subst eh
  exact k S _ _ ⟨A.stp, A.rh, A.rs.set r i⟩ (Stp.refl S) h
/-- o.f = .. -/
def gAt (to : TE) (K : PySem.W.Frag) (f : Str) : TG := fun v σ H Q => to σ H fun x H2 => ∃ a C dx fs, x = .ref a ∧ H2 a = some (.ins C dx fs) ∧ Cls K C ∧ NoAttr K C f ∧ fs.length < 1000 ∧ Q σ (upd H2 a (.ins C dx (putF f v fs)))
theorem pg_at {o : Expr} {f : Str} {to : TE} {pos : Pos} (ho : PE X o to) : PG X (.Attribute o f pos) (gAt to X.K f) := by
  refine ⟨fun pins s σ H v u Q I r h => ?_⟩
  rw [assign_Attribute]
  refine wpAny_bind (wpAny_holding (thn (ho.run pins s σ H _ I h) fun ov s1 ⟨x, H1, I1, r1, a, C, dx, fs, ex, ea, c, n, l, q2⟩ => ?_))
  subst ex
  obtain rfl : ov = Value.ref a := r1
  refine wpAny_bind (wpAny_standAt (wpAny_bind (wpAny_holding (setattr_ok I1 ea c n l r fun s3 I3 => ?_))))
  exact wpAny_release ⟨σ, _, I3, q2⟩
theorem repO_ins {c : Nat} {p : Addr} {fs : List (Nat × D)} (R : Rh T S) (h : S.hd p = some (.ins c fs)) : ∃ dx gs, S.hp p = some (.ins (T.ca c) dx gs) ∧ repF T S.fz S.hp fs gs := (R.at_ p _ h).1
theorem repF_len {F : Fz} {H : Hp} : ∀ {ds : List (Nat × D)} {vs : List (Str × V)}, repF T F H ds vs → ds.length = vs.length
  | [], _, h => by rw [repF_nil h]; rfl
  | (k, d) :: ds, _, h => by
    obtain ⟨v, r, e, _, h2⟩ := repF_cons h
    rw [e, List.length_cons, List.length_cons, repF_len h2]
theorem stg_at (K : TbOk T) (hK : X.K = T.K) {o : Expr} {f : Nat} {t : DTE} {pos : Pos} (ho : PE X o (lE T S0 t)) : PG X (.Attribute o (T.sym f) pos) (lG T S0 fun d ds hd Q => t ds hd fun w hd2 => setAt T f d w.d hd2 fun hd3 => Q ds hd3) :=
  pg_imp (pg_at (pe_frz ho)) fun v σ H Q ⟨S, ds, d, eh, A, r, Qd, h, k⟩ => by
    subst eh
    refine seq_lD (u := fun w ds hd2 (_ : Unit → Hd → Prop) => setAt T f d w hd2 fun hd3 => Qd ds hd3) (Qa := fun (_ : Unit) _ => True) A h fun w S1 x s1 A1 q1 h1 => ?_
    unfold setAt at h1
    split at h1
    · rename_i p
      split at h1
      · rename_i c fs eo
        obtain ⟨dx, gs, e1, r1⟩ := repO_ins A1.rh eo
        have rd := r.stp A.rh s1
        have s2 : Stp S1 (S1.put p (.ins c (fput fs f d)) (.ins (T.ca c) dx (putF (T.sym f) v gs))) := Stp.put eo
        have r2 : Rh T (S1.put p (.ins c (fput fs f d)) (.ins (T.ca c) dx (putF (T.sym f) v gs))) := A1.rh.put eo ⟨dx, _, upd_same, (repF_put K rd r1).stp A1.rh s2⟩
        have ek := K.na c f h1.1
        rw [hK]
        refine ⟨p, T.ca c, dx, gs, rep_ref q1, e1, ek.1.c, ek.2, by rw [← repF_len r1]; exact h1.2.1, ?_⟩
        exact k _ ds σ (A1.then_ s2 r2) (s1.trans s2) h1.2.2
      · exact h1.elim
    · exact h1.elim
def rSetIx : TSet := fun o i v H Q => rSetL o i v H Q ∨ ∃ a H', o = .ref a ∧ DPut H a i v H' ∧ Q H'
theorem set_ix (hu : X.A.units + 1 < cLine) : PSet X rSetIx := by
  intro pins s σ H o i v ov iv u Q I ro ri rv h
  rcases h with h | ⟨a, H', rfl, g, q⟩
  · exact set_list pins s σ H o i v ov iv u Q I ro ri rv h
  · obtain rfl : ov = Value.ref a := ro
    exact d_setItem hu I g ri rv fun s4 I4 => ⟨H', I4, q⟩
theorem stg_sub (hu : X.A.units + 1 < cLine) {o i : Expr} {t u : DTE} {pos : Pos} (ho : PE X o (lE T S0 t)) (hi : PE X i (lE T S0 u))
    (ha : ∀ v, assign (.Subscript o i pos) X.env v = (do
      let ov ← holding [v] (eval o X.env)
      let iv ← holding [v, ov] (eval i X.env)
      standAt pos
      holding [v, ov, iv] (setItem ov iv v)
      release [v, ov, iv] [])) : PG X (.Subscript o i pos) (lG T S0 fun d ds hd Q => t ds hd fun w hd2 => u ds hd2 fun k hd3 => setIx d w.d k.d hd3 fun hd4 => Q ds hd4) :=
  pg_imp (pg_sub (pe_frz ho) (pe_frz hi) (set_ix hu) ha) fun v σ H Q ⟨S, ds, d, eh, A, r, Qd, h, k⟩ => by
    subst eh
    refine seq_lD (u := fun w ds hd2 (_ : Unit → Hd → Prop) => u ds hd2 fun k hd3 => setIx d w k.d hd3 fun hd4 => Qd ds hd4) (Qa := fun (_ : Unit) _ => True) A h fun w S1 x s1 A1 q1 h1 => ?_
    refine seq_lD (u := fun j ds hd3 (_ : Unit → Hd → Prop) => setIx d w j hd3 fun hd4 => Qd ds hd4) (Qa := fun (_ : Unit) _ => True) A1 h1 fun j S2 y s2 A2 q2 h2 => ?_
    have rd := r.stp A.rh (s1.trans s2)
    have rw1 := q1.stp A1.rh s2
    unfold setIx at h2
    split at h2
    · rename_i p
      split at h2
      · rename_i xs eo
        obtain ⟨⟨vs, e1, r1⟩, _⟩ := A2.rh.at_ p _ eo
        split at h2
        · rename_i jj
          split at h2
          · rename_i n en
            have s3 : Stp S2 (S2.put p (.lst (xs.set n d)) (.lst (vs.set n v))) := Stp.put eo
            refine .inl ⟨p, vs, jj, n, rep_ref rw1, rep_int q2, e1, by rw [← repL_len r1]; exact en, ?_⟩
            exact k _ ds σ (A2.then_ s3 (A2.rh.put eo ⟨_, upd_same, (repL_set rd n r1).stp A2.rh s3⟩)) ((s1.trans s2).trans s3) h2
          · exact h2.elim
        · exact h2.elim
      · rename_i kvs eo
        obtain ⟨⟨vs, e1, r1⟩, _⟩ := A2.rh.at_ p _ eo
        split at h2
        · rename_i q eq
          have s3 : Stp S2 (S2.put p (.dic (dput kvs q d)) (.dK (putK vs (dkK q) v))) := Stp.put eo
          refine .inr ⟨p, _, rep_ref rw1, by rw [dkOf_rep eq q2]; exact DPut.k e1 (by rw [← repK_len r1, line]; exact h2.1), ?_⟩
          exact k _ ds σ (A2.then_ s3 (A2.rh.put eo ⟨_, upd_same, (repK_put rd (dkOf_ok eq q2) r1).stp A2.rh s3⟩)) ((s1.trans s2).trans s3) h2.2
        · exact h2.elim
      · exact h2.elim
    · exact h2.elim
theorem sts_st {tg e : Expr} {t : DTE} {g : D → Slt → Hd → (Slt → Hd → Prop) → Prop} {b : Bool} {pos : Pos} (he : PE X e (lE T S0 t)) (hg : PG X tg (lG T S0 g)) (hs : swapsWithSole [tg] e pos.line X.env = pure false) (hw : swappedStores [tg] e X.env = pure none) (h1 : (assignEach [tg] X.env).map (·.2) = [assign tg X.env]) :
    PS X (.Assign [tg] e pos) (lS T S0 fun E ds hd => t ds hd fun ev hd1 => take b ev hd1 fun d hd2 => g d ds hd2 E.nx) :=
  ps_imp (ps_asg he hg hs hw h1) fun D σ H ⟨S, ds, eh, A, E, h, ok⟩ => by
    refine ⟨S, ds, eh, A, _, h, fun ev S' v s r q h' => ?_⟩
    refine take_ok (Q := fun v H => lG T S0 g v σ H D.nx) s r q h' fun d S1 v s1 r1 q1 h1 => ?_
    exact ⟨S1, ds, d, rfl, A.then_ s1 r1, q1, E.nx, h1, fun S2 ds2 σ2 A2 s2 h2 => ok.nx S2 ds2 σ2 A2 (s1.trans s2) h2⟩
/-- several targets -/
inductive PGL (X : Cx) (T : Tb) (S0 : Sw) (u : IGt → D → Slt → Hd → (Slt → Hd → Prop) → Prop) : List Expr → List IGt → Prop where
  | nil : PGL X T S0 u [] []
  | cons {a : Expr} {as : List Expr} {g : IGt} {r : List IGt} (h : PG X a (lG T S0 (u g))) (hn : (assignEach (a :: as) X.env).map (·.2) = assign a X.env :: (assignEach as X.env).map (·.2)) (t : PGL X T S0 u as r) : PGL X T S0 u (a :: as) (g :: r)
def wGs (u : IGt → D → Slt → Hd → (Slt → Hd → Prop) → Prop) : List IGt → List D → Slt → Hd → (Slt → Hd → Prop) → Prop
  | [], [], ds, hd, Q => Q ds hd
  | g :: gs, d :: l, ds, hd, Q => u g d ds hd fun ds1 hd1 => wGs u gs l ds1 hd1 Q
  | _, _, _, _, _ => False
theorem PGL.pgs {u : IGt → D → Slt → Hd → (Slt → Hd → Prop) → Prop} : ∀ {as : List Expr} {gs : List IGt}, PGL X T S0 u as gs → PGs X as (lGs T S0 (wGs u gs))
  | _, _, .nil => pgs_imp pgs_nil fun v σ H Q ⟨S, ds, d, eh, A, r, Qd, h, k⟩ => by
    subst eh
    cases d with
    | nil => exact ⟨repL_nil r, k S ds σ A (Stp.refl S) h⟩
    | cons => exact h.elim
  | _, _, .cons h hn t => pgs_imp (pgs_cons h t.pgs hn) fun v σ H Q ⟨S, ds, d, eh, A, r, Qd, h, k⟩ => by
    subst eh
    cases d with
    | nil => exact h.elim
    | cons x xs =>
      obtain ⟨y, ys, e, r1, r2⟩ := repL_cons r
      exact ⟨y, ys, e, S, ds, x, rfl, A, r1, _, h, fun S1 ds1 σ1 A1 s1 h1 => ⟨S1, ds1, xs, rfl, A1, r2.stp A.rh s1, Qd, h1, fun S2 ds2 σ2 A2 s2 h2 => k S2 ds2 σ2 A2 (s1.trans s2) h2⟩⟩
theorem wGs_len {u : IGt → D → Slt → Hd → (Slt → Hd → Prop) → Prop} : ∀ {gs : List IGt} {xs : List D} {ds : Slt} {hd : Hd} {Q : Slt → Hd → Prop} {as : List Expr}, PGL X T S0 u as gs → as.length = gs.length
  | _, _, _, _, _, _, .nil => rfl
  | _, xs, ds, hd, Q, _, .cons h hn t => by rw [List.length_cons, List.length_cons, wGs_len (xs := xs) (ds := ds) (hd := hd) (Q := Q) t]
end
end DL
set_option Elab.async false
set_option linter.all false
set_option maxRecDepth 100000
set_option maxHeartbeats 2000000
namespace DL
open PySem PySem.Spec PyProof.Rows L2
section
variable {T : Tb} {S0 S S' : Sw} {X : Cx} {u : IE → DTE} {a b c : Expr} {es : IEs} {pos : Pos}
/-! ### the rules of the operators -/
theorem opR_imp {f : Value → Value → Sem Value} {r r' : R2} (h : OpR X f r) (k : ∀ x y H Q, r' x y H Q → r x y H Q) : OpR X f r' := fun p s σ H x y v u Q I rx ry q => h p s σ H x y v u Q I rx ry (k x y H Q q)
theorem ox_add : OpR X (binaryOp .Add) (fun x y H Q => (rI0 fun i j => .int (i + j)) x y H Q ∨ ((fun x y H Q => ∃ i j, x = .str i ∧ y = .str j ∧ i.length + j.length ≤ sizeLine ∧ Q (.str (i ++ j)) H) x y H Q ∨ (rCat x y H Q ∨ rCatA X.K x y H Q))) :=
  op_add.or (op_add_str.or (op_cat.or op_catA))
theorem ox_dkIn (hu : X.A.units + 1 < cLine) : OpR X (compareOp .In) (fun x y H Q => ∃ a o, y = .ref a ∧ DGet H a x o ∧ Q (.bl o.isSome) H) := by
  intro pins s σ H x y v u Q I rx ry h
  obtain ⟨a, o, rfl, g, q⟩ := h
  obtain rfl : u = Value.ref a := ry
  exact d_in hu I g rx fun s3 I3 => ⟨.bl _, H, I3, rfl, q⟩
theorem ox_dkNotIn (hu : X.A.units + 1 < cLine) : OpR X (compareOp .NotIn) (fun x y H Q => ∃ a o, y = .ref a ∧ DGet H a x o ∧ Q (.bl (!o.isSome)) H) := by
  intro pins s σ H x y v u Q I rx ry h
  obtain ⟨a, o, rfl, g, q⟩ := h
  obtain rfl : u = Value.ref a := ry
  exact d_notIn hu I g rx fun s3 I3 => ⟨.bl _, H, I3, rfl, q⟩
theorem xor_f (b : Bool) : xor false b = b := by cases b <;> rfl
theorem xor_t (b : Bool) : xor true b = !b := by cases b <;> rfl
theorem ox_in (hu : X.A.units + 65 < cLine) : OpR X (compareOp .In) (rInAll X.K false) :=
  opR_imp (op_in_seq.or (op_in_str.or ((ox_dkIn (by omega)).or (op_inD hu)))) fun x y H Q q => by
    unfold rInAll at q
    simp only [xor_f] at q
    exact q
theorem ox_notin (hu : X.A.units + 65 < cLine) : OpR X (compareOp .NotIn) (rInAll X.K true) :=
  opR_imp (op_notIn_seq.or (op_notin_str.or ((ox_dkNotIn (by omega)).or (op_notInD hu)))) fun x y H Q q => by
    unfold rInAll at q
    simp only [xor_t] at q
    exact q
theorem ix_dk (hu : X.A.units + 1 < cLine) : IxR X (fun x y H Q => ∃ a v, x = .ref a ∧ DGet H a y (some v) ∧ Q v H) := by
  intro value slice pins s σ H x y v u Q I rx ry h hs
  obtain ⟨a, w, rfl, g, q⟩ := h
  obtain rfl : v = Value.ref a := rx
  exact tail_any (dict_typeIs I g) slot_dict_getitem.lookup (d_getItem hu I g ry fun w' s3 I3 rw' => ⟨w, H, I3, rw', q⟩) hs
theorem ix_all (hu : X.A.units + 1 < cLine) : IxR X (rIxAll X.K) := ix_seq.or (ix_dk hu)
theorem cx_len : CallR X (.builtin "len") (fun xs H Q => (∃ p ys, xs = [.ref p] ∧ (SqL X.K H p ys ∨ SqT X.K H p ys) ∧ Q (.int ys.length) H) ∨ ((∃ z, xs = [.str z] ∧ z.length ≤ sizeLine ∧ Q (.int z.length) H) ∨ (∃ d kvs, xs = [.ref d] ∧ H d = some (.dK kvs) ∧ Q (.int kvs.length) H))) :=
  call_len_seq.or (call_len_str.or call_lenD)
/-! ### slices -/
def sE (lo hi : Bool) (t : DTE) (u w : DTE) : DTE := fun ds hd Q => t ds hd fun x hd1 => match lo, hi with
  | true, true => u ds hd1 fun i hd2 => w ds hd2 fun j hd3 => oSl true true hd3 [x.d, i.d, j.d] Q
  | true, false => u ds hd1 fun i hd2 => oSl true false hd2 [x.d, i.d] Q
  | false, true => w ds hd1 fun j hd2 => oSl false true hd2 [x.d, j.d] Q
  | false, false => oSl false false hd1 [x.d] Q
abbrev rSlAll (K : PySem.W.Frag) : V → Option Int → Option Int → Hp → VK → Prop := fun x lo hi H Q => rSlL K x lo hi H Q ∨ (rSlA K x lo hi H Q ∨ rSlS x lo hi H Q)
theorem sl_all : SlR X (rSlAll X.K) := sl_list.or (sl_tupA.or sl_str)
theorem repL_cutD {F : Fz} {H : Hp} {ds : List D} {vs : List V} (h : repL T F H ds vs) (lo hi : Option Int) : repL T F H (cutD ds lo hi) (cutV vs lo hi) := by
  unfold cutD cutV
  rw [← repL_len h]
  have drop : ∀ (n : Nat) {ds : List D} {vs : List V}, repL T F H ds vs → repL T F H (ds.drop n) (vs.drop n) := by
    intro n
    induction n with
    | zero => intro ds vs h; exact h
    | succ n ih =>
      intro ds vs h
      cases ds with
      | nil => rw [repL_nil h]; exact repL_mk0
      | cons d ds =>
        obtain ⟨v, r, e, _, h2⟩ := repL_cons h
        subst e
        exact ih h2
  have take : ∀ (n : Nat) {ds : List D} {vs : List V}, repL T F H ds vs → repL T F H (ds.take n) (vs.take n) := by
    intro n
    induction n with
    | zero => intro ds vs h; rw [List.take_zero, List.take_zero]; exact repL_mk0
    | succ n ih =>
      intro ds vs h
      cases ds with
      | nil => rw [repL_nil h]; exact repL_mk0
      | cons d ds =>
        obtain ⟨v, r, e, h1, h2⟩ := repL_cons h
        subst e
        exact repL_mk h1 (ih h2)
  exact take _ (drop _ h)
theorem cutD_all {α : Type} {xs : List α} {lo hi : Option Int} (h : HT.sIx xs.length 0 lo = 0 ∧ HT.sIx xs.length xs.length hi = xs.length) : cutD xs lo hi = xs := by
  unfold cutD
  rw [h.1, h.2, List.drop_zero, Nat.sub_zero, List.take_length]
theorem cutD_str {x : Tx} {lo hi : Option Int} : cutS (st x) lo hi = st (cutD x lo hi) := by
  unfold cutS cutD
  rw [st_len]
  rfl
theorem okT_cut {x : Tx} {lo hi : Option Int} (o : okT x) : okT (cutD x lo hi) := fun c hc => o c (List.mem_of_mem_drop (List.mem_of_mem_take hc))
theorem cutD_len {α : Type} {xs : List α} {lo hi : Option Int} : (cutD xs lo hi).length ≤ xs.length := by
  unfold cutD; rw [List.length_take, List.length_drop]; omega
theorem cut_ok (hK : X.K = T.K) (R : Rh T S) {d : D} {v : V} {lo hi : Option Int} (r : rep T S.fz S.hp d v) {Qd : EV → Hd → Prop} {Q : VK} (h : oCut S.hd d lo hi Qd)
    (k : ∀ ev S' v, Stp S S' → Rh T S' → repE T S S' ev v → Qd ev S'.hd → Q v S'.hp) : rSlAll X.K v lo hi S.hp Q := by
  unfold oCut at h
  split at h
  · rename_i xs e
    obtain ⟨p, vs, rfl, q, rl⟩ := view_lst R r e
    exact .inl ⟨p, vs, rfl, SqL.of q, fun z hz => done_nl R (repL_cutD rl lo hi) h k z hz⟩
  · rename_i xs e
    obtain ⟨p, vs, rfl, q, rl⟩ := view_rol R r e
    exact .inl ⟨p, vs, rfl, by rw [hK]; exact q.l, fun z hz => done_nl R (repL_cutD rl lo hi) h k z hz⟩
  · rename_i xs e
    obtain ⟨p, vs, rfl, q, rl⟩ := view_tup R r e
    refine .inr (.inl ⟨p, vs, rfl, by rw [hK]; exact q, fun w => ?_, fun _ z hz => done_tup R (repL_cutD rl lo hi) h k z hz⟩)
    rw [← repL_len rl] at w
    rw [cutD_all w] at h
    exact done_v R (mk_tup q rl) h k
  · rename_i x e
    obtain ⟨e1, e2, e3⟩ := view_str R r e
    refine .inr (.inr ⟨st x, e1, by rw [st_len, line]; exact e2, ?_⟩)
    rw [cutD_str]
    exact done_v R (mk_str (Nat.le_trans cutD_len e2) (okT_cut e3)) h k
  · exact h.elim
theorem asI_rep {F : Fz} {H : Hp} {d : D} {v : V} {i : Int} (r : rep T F H d v) (h : asI d = some i) : v = .int i := by
  cases d with
  | int j => cases h; exact rep_int r
  | _ => cases h
theorem pe_sl11 {r : V → Option Int → Option Int → Hp → VK → Prop} {ta tb tc : TE} {p2 : Pos} (hr : SlR X r) (he : PE X a ta) (hl : PE X b tb) (hu : PE X c tc) :
    PE X (.Subscript a (.Slice (some b) (some c) none p2) pos) (fun σ H Q => ta σ H fun x H1 => tb σ H1 fun y H2 => tc σ H2 fun z H3 => ∃ i j : Int, y = .int i ∧ z = .int j ∧ r x (some i) (some j) H3 Q) := by
  refine ⟨fun pins s σ H Q I h => ?_⟩
  refine Subscript_ (thn (he.run pins s σ H _ I h) fun v s1 ⟨x, H1, I1, r1, q1⟩ => ?_)
  refine wpAny_Slice (by
    rw [evalPart_some]
    refine thn (hl.run pins s1 σ H1 _ I1 q1) fun vl s2 ⟨l, H2, I2, pl, q2⟩ => ?_
    rw [evalPart_some]
    refine thn (hu.run pins s2 σ H2 _ I2 q2) fun vu s3 ⟨u, H3, I3, pu, i, j, e1, e2, q3⟩ => ?_
    subst e1
    subst e2
    obtain ⟨t1, rfl⟩ := pl
    obtain ⟨t2, rfl⟩ := pu
    rw [evalPart_none]
    refine wpAny_pure ?_
    have I4 : Inv X pins σ H3 { s3 with heap := s3.heap.push { cls := .type "slice", data := .fields #[.int i t1, .int j t2, .none] } } := I3.kept (t' := s3.toks) fun b ob q => Heap.get?_push_of_some _ q
    obtain ⟨T, id, hT, ht, hg⟩ := hr pins { s3 with heap := s3.heap.push { cls := .type "slice", data := .fields #[.int i t1, .int j t2, .none] } } σ H3 x v _ _ (some i) (some j) s3.heap.objs.size Q I4 r1 (Heap.IsSliceOf.new ..) (.int i t1) (.int j t2) q3
    show wpAny (model X.prog X.w) X.A (subscriptTail a (.Slice (some b) (some c) none p2) v (.ref s3.heap.objs.size)) (EP X pins σ Q) X.xe { s3 with heap := s3.heap.push { cls := .type "slice", data := .fields #[.int i t1, .int j t2, .none] } }
    exact tail_any (ops := [.ref s3.heap.objs.size, v]) ht hT hg (by with_unfolding_all rfl))
theorem snd_sl11 (hK : X.K = T.K) {p2 : Pos} (h : PL X T S0 u [a, b, c] es) : PE X (.Subscript a (.Slice (some b) (some c) none p2) pos) (lE T S0 (dApp (oSl true true) (wEs u es))) := by
  obtain ⟨k, e, j, f, i, g, rfl, h1, h2, h3⟩ := h.three
  refine pe_imp (pe_sl11 sl_all h1 h2 h3) fun σ H Q q => ?_
  have hs : Serves T (fun vs H Q => ∃ x y z, vs = [x, y, z] ∧ ∃ i j : Int, y = .int i ∧ z = .int j ∧ rSlAll X.K x (some i) (some j) H Q) (oSl true true) := by
    intro S ds vs Qd Q R r h k
    unfold oSl at h
    split at h
    · rename_i hh x d1 d2 Q0
      obtain ⟨v, w, z, rfl, rx, ry, rz⟩ := repL_3 r
      split at h
      · rename_i i j e1 e2
        exact ⟨v, w, z, rfl, i, j, asI_rep ry e1, asI_rep rz e2, cut_ok hK R rx h k⟩
      · exact h.elim
    all_goals first | (exact h.elim) | skip
    all_goals simp_all
  refine lD_mono (three_lL (app_lL hs q)) fun v H1 q => lD_mono q fun x H2 q2 => lD_mono q2 fun y H3 q3 => ?_
  obtain ⟨_, _, _, e, z⟩ := q3
  cases e
  exact z
end
end DL
set_option Elab.async false
set_option linter.all false
set_option maxRecDepth 100000
set_option maxHeartbeats 2000000
namespace DL
open PySem PySem.Spec PyProof.Rows L2
section
variable {T : Tb} {S0 S S' : Sw} {X : Cx} {u : IE → DTE} {a b c : Expr} {es : IEs} {pos : Pos}
theorem snd_sl10 (hK : X.K = T.K) {p2 : Pos} (h : PL X T S0 u [a, b] es) : PE X (.Subscript a (.Slice (some b) none none p2) pos) (lE T S0 (dApp (oSl true false) (wEs u es))) := by
  obtain ⟨k, e, j, f, rfl, h1, h2⟩ := h.two
  refine pe_imp (pe_slice sl_all h1 (po_some h2) po_none) fun σ H Q q => ?_
  have hs : Serves T (fun vs H Q => ∃ x y, vs = [x, y] ∧ ∃ i : Int, y = .int i ∧ rSlAll X.K x (some i) none H Q) (oSl true false) := by
    intro S ds vs Qd Q R r h k
    unfold oSl at h
    split at h
    all_goals first | (exact h.elim) | skip
    all_goals first | (exact absurd ‹true = false› Bool.noConfusion) | (exact absurd ‹false = true› Bool.noConfusion) | skip
    · obtain ⟨v, w, rfl, rx, ry⟩ := repL_2 r
      split at h
      · rename_i i e1
        exact ⟨v, w, rfl, i, asI_rep ry e1, cut_ok hK R rx h k⟩
      · exact h.elim
  refine lD_mono (two_lL (app_lL hs q)) fun v H1 q => lD_mono q fun x H2 q2 => ?_
  obtain ⟨_, _, e, i, e1, z⟩ := q2
  cases e
  exact ⟨i, e1, z⟩
theorem snd_sl01 (hK : X.K = T.K) {p2 : Pos} (h : PL X T S0 u [a, b] es) : PE X (.Subscript a (.Slice none (some b) none p2) pos) (lE T S0 (dApp (oSl false true) (wEs u es))) := by
  obtain ⟨k, e, j, f, rfl, h1, h2⟩ := h.two
  refine pe_imp (pe_slice sl_all h1 po_none (po_some h2)) fun σ H Q q => ?_
  have hs : Serves T (fun vs H Q => ∃ x y, vs = [x, y] ∧ ∃ i : Int, y = .int i ∧ rSlAll X.K x none (some i) H Q) (oSl false true) := by
    intro S ds vs Qd Q R r h k
    unfold oSl at h
    split at h
    all_goals first | (exact h.elim) | skip
    all_goals first | (exact absurd ‹true = false› Bool.noConfusion) | (exact absurd ‹false = true› Bool.noConfusion) | skip
    · obtain ⟨v, w, rfl, rx, ry⟩ := repL_2 r
      split at h
      · rename_i i e1
        exact ⟨v, w, rfl, i, asI_rep ry e1, cut_ok hK R rx h k⟩
      · exact h.elim
  refine lD_mono (two_lL (app_lL hs q)) fun v H1 q => ?_
  show lD T S0 (tkD j (u f)) σ H1 (fun x H2 => ∃ i, x = .int i ∧ rSlAll X.K v none (some i) H2 Q)
  refine lD_mono q fun x H2 q2 => ?_
  obtain ⟨_, _, e, i, e1, z⟩ := q2
  cases e
  exact ⟨i, e1, z⟩
theorem snd_sl00 (hK : X.K = T.K) {p2 : Pos} (h : PL X T S0 u [a] es) : PE X (.Subscript a (.Slice none none none p2) pos) (lE T S0 (dApp (oSl false false) (wEs u es))) := by
  obtain ⟨k, e, rfl, h1⟩ := h.one
  refine pe_imp (pe_slice sl_all h1 po_none po_none) fun σ H Q q => ?_
  have hs : Serves T (r1 fun x H Q => rSlAll X.K x none none H Q) (oSl false false) := by
    intro S ds vs Qd Q R r h k
    unfold oSl at h
    split at h
    all_goals first | (exact h.elim) | skip
    all_goals first | (exact absurd ‹true = false› Bool.noConfusion) | (exact absurd ‹false = true› Bool.noConfusion) | skip
    · obtain ⟨v, rfl, rx⟩ := repL_1 r
      exact ⟨v, rfl, cut_ok hK R rx h k⟩
  exact one_op hs q
/-! ### d.get(k, x) -/
theorem serves_get2 : Serves T (rm fun x xs H Q => ∃ a y z o, x = .ref a ∧ xs = [y, z] ∧ DGet H a y o ∧ Q (o.getD z) H) oGet2 := by
  intro S ds vs Qd Q R r h k
  unfold oGet2 at h
  split at h
  · obtain ⟨v, w, z, rfl, rx, ry, rz⟩ := repL_3 r
    refine ⟨v, [w, z], rfl, ?_⟩
    split at h
    · rename_i kvs ex
      obtain ⟨p, gs, rfl, h2, h3⟩ := view_dic R rx ex
      split at h
      · rename_i q eq
        rw [dkOf_rep eq ry]
        refine ⟨p, _, z, _, rfl, rfl, DGet.k h2, ?_⟩
        rcases repK_get q h3 with ⟨g1, g2⟩ | ⟨d, w', g1, g2, g3⟩
        · rw [g2]; rw [g1] at h; exact done_v R rz h k
        · rw [g2]; rw [g1] at h; exact done_v R g3 h k
      · exact h.elim
    · exact h.elim
  · exact h.elim
theorem snd_get2 (hK : X.K = T.K) (hu : X.A.units + 1 < cLine) {apos : Pos} {t : DTE} (h : PE X a (lE T S0 t)) (hl : PL X T S0 u [b, c] es) (hb : nBase a = true) (hp : (apos.endLine == pos.line) = true) :
    PE X (.Call (.Attribute a "get" apos) [b, c] [] pos) (lE T S0 (dMeth .dic oGet2 t (wEs u es))) := by
  have hst := hl.stars pos
  have tr : backTo pos (starEach [b, c] X.env) = [(false, eval b X.env), (false, eval c X.env)] := by
    cases hl with
    | cons h1 hn1 t1 =>
      cases t1 with
      | cons h2 hn2 t2 => cases t2; rw [hn1, hn2]; rfl
  obtain ⟨k, e, j, f, rfl, h1, h2⟩ := hl.two
  have M : M2 X a "get" apos b c pos := ⟨base_of hb, by rw [hst.2]; rfl, hp, tr⟩
  refine pe_imp (pe_dget2 hu (pe_frz h) h1 h2 M) fun σ H Q q => ?_
  obtain ⟨S, ds, eh, A, Qd, ht, k⟩ := q
  subst eh
  refine seq_lD (u := fun d ds hd1 (Q : EV → Hd → Prop) => isTg .dic hd1 d = true ∧ wEs u (.cons _ e (.cons _ f .nil)) ds hd1 fun l hd2 => oGet2 hd2 (d :: l) Q) (Qa := Qd) A ht fun d S1 v s1 A1 q1 h1 => ?_
  obtain ⟨g1, g2⟩ := h1
  obtain ⟨p, kvs, hv, hd⟩ : ∃ p kvs, v = .ref p ∧ S1.hp p = some (.dK kvs) := by
    unfold isTg at g1
    split at g1
    · cases ‹Tg.dic = Tg.str›
    · cases ‹Tg.dic = Tg.lst›
    · rename_i e
      obtain ⟨p, vs, rfl, q, _⟩ := view_dic A1.rh q1 e
      exact ⟨p, vs, rfl, q⟩
    · cases g1
  refine ⟨p, hv, .inl ⟨kvs, .inl hd⟩, ?_⟩
  refine lD_mono (two_lL (Q := fun l H => ∃ y z o, l = [y, z] ∧ DGet H p y o ∧ Q (o.getD z) H) ⟨S1, ds, rfl, A1, _, g2, fun l S2 vs s2 r2 q2 h2 => ?_⟩) fun y H2 q2 => lD_mono q2 fun z H3 ⟨y', z', o, e, g, q3⟩ => by cases e; exact ⟨o, g, q3⟩
  obtain ⟨x, xs, e0, p', y, z, o, e1, e2, e3, e4⟩ := serves_get2 S2 (d :: l) (v :: vs) Qd Q r2 (repL_mk (q1.stp A1.rh s2) q2) h2 fun ev S' v' s' r' q' h' => k ev S' v' ((s1.trans s2).trans s') r' (q'.back (s1.trans s2)) h'
  cases e0
  subst e2
  rw [hv] at e1
  cases e1
  exact ⟨y, z, o, rfl, e3, e4⟩
/-! ### texts of numbers -/
theorem intT_st (i : Int) : (Str.ofString (toString i)) = st (intT i) := by
  rw [Str.ofString_eq_toList]; rfl
theorem intT_ok (i : Int) : okT (intT i) := fun c hc => by
  unfold intT at hc
  obtain ⟨x, _, rfl⟩ := List.mem_map.mp hc
  have := x.valid
  have h2 : x.toNat < 1114112 := by
    rcases this with h | h
    · have : x.toNat < 55296 := h
      omega
    · exact h.2
  exact h2
theorem intT_len {i : Int} (h : i.natAbs.log2 < 1920) : (intT i).length ≤ 16777216 := by
  have := PySem.int_text_fits h
  rw [intT_st] at this
  rw [st_len, line] at this
  exact this
theorem cx_str : CallR X (.type "str") (fun xs H Q => (∃ i : Int, xs = [.int i] ∧ i.natAbs.log2 < 1920 ∧ Q (.str (Str.ofString (toString i))) H) ∨ (∃ a, xs = [.str a] ∧ Q (.str a) H)) := call_str_int.or SkE.call_str_str
theorem serves_strI : Serves T (fun xs H Q => (∃ i : Int, xs = [.int i] ∧ i.natAbs.log2 < 1920 ∧ Q (.str (Str.ofString (toString i))) H) ∨ (∃ a, xs = [.str a] ∧ Q (.str a) H)) oStrI := by
  intro S ds vs Qd Q R r h k
  unfold oStrI at h
  split at h
  · obtain ⟨v, rfl, rx⟩ := repL_1 r
    split at h
    · rename_i i e
      refine .inl ⟨i, by rw [view_int R rx e], h.1, ?_⟩
      rw [intT_st]
      exact done_v R (mk_str (intT_len h.1) (intT_ok i)) h.2 k
    · rename_i x e
      obtain ⟨e1, e2, e3⟩ := view_str R rx e
      refine .inr ⟨st x, by rw [e1], ?_⟩
      rw [← e1]
      exact done_v R (by rw [e1]; exact mk_str e2 e3) h k
    · exact h.elim
  · exact h.elim
/-! ### stars -/
inductive PSt (X : Cx) (T : Tb) (S0 : Sw) (u : IE → DTE) : List Expr → ISt → Prop where
  | nil : PSt X T S0 u [] .nil
  | one {a : Expr} {as : List Expr} {e : IE} {r : ISt} (h : PE X a (lE T S0 (u e))) (hn : starEach (a :: as) X.env = (false, eval a X.env) :: starEach as X.env) (t : PSt X T S0 u as r) : PSt X T S0 u (a :: as) (.one e r)
  | all {a : Expr} {as : List Expr} {e : IE} {r : ISt} {p : Pos} (h : PE X a (lE T S0 (u e))) (hn : starEach (.Starred a p :: as) X.env = (true, eval a X.env) :: starEach as X.env) (t : PSt X T S0 u as r) : PSt X T S0 u (.Starred a p :: as) (.all e r)
def wSt (u : IE → DTE) : ISt → DTL
  | .nil => dNil
  | .one e r => fun ds hd Q => u e ds hd fun ev hd1 => wSt u r ds hd1 fun l hd2 => Q (ev.d :: l) hd2
  | .all e r => fun ds hd Q => u e ds hd fun ev hd1 => match view hd1 ev.d with
    | .lst xs => wSt u r ds hd1 fun l hd2 => Q (xs ++ l) hd2
    | .tup xs => wSt u r ds hd1 fun l hd2 => Q (xs ++ l) hd2
    | _ => False
theorem PSt.pa (hK : X.K = T.K) : ∀ {as : List Expr} {es : ISt}, PSt X T S0 u as es → PA X as (lL T S0 (wSt u es))
  | _, _, .nil => da_nil
  | _, _, .one h hn t => da_cons (t := frz (u _)) (pe_frz h) (t.pa hK) hn
  | _, _, .all (e := e) (r := r) h hn t => pa_imp (StX.pa_star (pe_frz h) (t.pa hK) hn) fun σ H Q ⟨S, ds, eh, A, Qd, ht, k⟩ => by
    subst eh
    refine seq_lD (t := frz (u e)) (u := fun d ds hd1 (Q : Unit → Hd → Prop) => match view hd1 d with
    | .lst xs => wSt u r ds hd1 fun l hd2 => Qd (xs ++ l) hd2
    | .tup xs => wSt u r ds hd1 fun l hd2 => Qd (xs ++ l) hd2
    | _ => False) (Qa := fun (_ : Unit) _ => True) A ht fun d S1 v s1 A1 q1 h1 => ?_
    rw [hK]
    split at h1
    · rename_i xs e1
      obtain ⟨p, vs, rfl, q, rl⟩ := view_lst A1.rh q1 e1
      refine ⟨p, vs, rfl, .inr (SqL.of q), S1, ds, rfl, A1, _, h1, fun l S2 ws s2 r2 q2 h2 => ?_⟩
      exact k (xs ++ l) S2 (vs ++ ws) (s1.trans s2) r2 (repL_app (rl.stp A1.rh s2) q2) h2
    · rename_i xs e1
      obtain ⟨p, vs, rfl, q, rl⟩ := view_tup A1.rh q1 e1
      refine ⟨p, vs, rfl, .inl q, S1, ds, rfl, A1, _, h1, fun l S2 ws s2 r2 q2 h2 => ?_⟩
      exact k (xs ++ l) S2 (vs ++ ws) (s1.trans s2) r2 (repL_app (rl.stp A1.rh s2) q2) h2
    · exact h1.elim
def dStar (l : Bool) (t : DTL) : DTE := fun ds hd Q => t ds hd fun xs hd1 => xs.length ≤ 16777216 ∧ match l with
    | true => Q (.nl xs) hd1
    | false => Q (.v (.tup xs)) hd1
theorem snd_starL (hK : X.K = T.K) {as : List Expr} {es : ISt} (h : PSt X T S0 u as es) : PE X (.List as pos) (lE T S0 (dStar true (wSt u es))) :=
  pe_imp (pe_lst (h.pa hK)) fun σ H Q q => app_lL serves_lst q
theorem snd_starT (hK : X.K = T.K) {as : List Expr} {es : ISt} {k : Nat} (h : PSt X T S0 u as es) : PE X (.Tuple as k pos) (lE T S0 (dStar false (wSt u es))) :=
  pe_imp (pe_tup (h.pa hK)) fun σ H Q q => app_lL serves_tup q
end
end DL
set_option Elab.async false
set_option linter.all false
set_option maxRecDepth 100000
set_option maxHeartbeats 2000000
namespace DL
open PySem PySem.Spec PyProof.Rows L2
/-! ### sorted: texts with numbers -/
theorem ltTI_iff {p q : Tx × Int} : ltTI p q = true ↔ p.1 < q.1 ∨ (p.1 = q.1 ∧ p.2 < q.2) := by
  unfold ltTI
  by_cases e : p.1 = q.1
  · rw [if_pos e, decide_eq_true_eq]
    constructor
    · intro h; exact .inr ⟨e, h⟩
    · intro h
      rcases h with h | h
      · rw [e] at h; exact absurd h (List.lt_irrefl _)
      · exact h.2
  · rw [if_neg e, decide_eq_true_eq]
    constructor
    · intro h; exact .inl h
    · intro h
      rcases h with h | h
      · exact h
      · exact absurd h.1 e
theorem ltTI_no {p q : Tx × Int} : ltTI p q = false ↔ ¬ (p.1 < q.1 ∨ (p.1 = q.1 ∧ p.2 < q.2)) := by
  rw [← ltTI_iff]
  cases ltTI p q <;> simp
theorem tx_tri (x y : Tx) : x < y ∨ x = y ∨ y < x := by
  rcases List.le_total x y with h | h
  · by_cases e : y ≤ x
    · exact .inr (.inl (List.le_antisymm h e))
    · exact .inl (by simpa using e)
  · by_cases e : x ≤ y
    · exact .inr (.inl (List.le_antisymm e h))
    · exact .inr (.inr (by simpa using e))
theorem swo_TI (k : Value → Tx × Int) : SrtO.Swo fun v u => ltTI (k v) (k u) := by
  refine ⟨fun x y h => ?_, fun x y z h1 h2 => ?_⟩
  · have a := ltTI_iff.mp h
    refine ltTI_no.mpr fun b => ?_
    rcases a with a | a <;> rcases b with b | b
    · exact List.lt_irrefl _ (List.lt_trans a b)
    · rw [b.1] at a; exact List.lt_irrefl _ a
    · rw [a.1] at b; exact List.lt_irrefl _ b
    · omega
  · have a := ltTI_no.mp h1
    have b := ltTI_no.mp h2
    refine ltTI_no.mpr fun c => ?_
    rcases tx_tri (k y).1 (k x).1 with e | e | e
    · exact a (.inl e)
    · rcases tx_tri (k z).1 (k y).1 with f | f | f
      · exact b (.inl f)
      · rcases c with c | c
        · rw [f, e] at c; exact List.lt_irrefl _ c
        · have a2 : ¬ (k y).2 < (k x).2 := fun q => a (.inr ⟨e, q⟩)
          have b2 : ¬ (k z).2 < (k y).2 := fun q => b (.inr ⟨f, q⟩)
          omega
      · rcases c with c | c
        · rw [← e] at c; exact List.lt_irrefl _ (List.lt_trans f c)
        · rw [c.1, e] at f; exact List.lt_irrefl _ f
    · rcases tx_tri (k z).1 (k y).1 with f | f | f
      · exact b (.inl f)
      · rcases c with c | c
        · rw [f] at c; exact List.lt_irrefl _ (List.lt_trans e c)
        · rw [← c.1, f] at e; exact List.lt_irrefl _ e
      · rcases c with c | c
        · exact List.lt_irrefl _ (List.lt_trans (List.lt_trans e f) c)
        · rw [c.1] at f; exact List.lt_irrefl _ (List.lt_trans e f)
def IsTI (h : Heap) (v : Value) (p : Tx × Int) : Prop := ∃ a o t u n, v = .ref a ∧ h.get? a = some o ∧ o.cls = .type "tuple" ∧ o.data = .seq #[.str (st p.1) t, .int p.2 u] n
theorem IsTI.keeps {h h' : Heap} {v : Value} {p : Tx × Int} (q : IsTI h v p) (k : ∀ b o, h.get? b = some o → o.cls = .type "tuple" → h'.get? b = some o) : IsTI h' v p := by
  obtain ⟨a, o, t, u, n, e, ho, hc, hd⟩ := q
  exact ⟨a, o, t, u, n, e, k _ _ ho hc, hc, hd⟩
theorem IsTI.uniq {h : Heap} {v : Value} {p q : Tx × Int} (a : IsTI h v p) (b : IsTI h v q) : p = q := by
  obtain ⟨x, o, t, u, n, e, ho, hc, hd⟩ := a
  obtain ⟨x', o', t', u', n', e', ho', hc', hd'⟩ := b
  rw [e] at e'; cases e'
  rw [ho] at ho'; cases ho'
  rw [hd] at hd'
  injection hd' with h1 _
  have h2 := congrArg (fun z : Array Value => z.toList) h1
  simp at h2
  obtain ⟨⟨h3, _⟩, h4, _⟩ := h2
  exact Prod.ext (st_inj.mp h3) h4
open Classical in
noncomputable def tiOf (h : Heap) (v : Value) : Tx × Int := if e : ∃ p, IsTI h v p then e.choose else ([], 0)
theorem tiOf_eq {h : Heap} {v : Value} {p : Tx × Int} (q : IsTI h v p) : tiOf h v = p := by
  unfold tiOf
  rw [dif_pos ⟨p, q⟩]
  exact (Exists.choose_spec (⟨p, q⟩ : ∃ p, IsTI h v p)).uniq q
section
variable {prog : Program} {w : World} {A : Around} {s : Shared}
theorem ti_cmp {vs : List Value} {k : Value → Tx × Int} (hp : ∀ v ∈ vs, IsTI s.heap v (k v)) : SrtO.Cmp prog w A s (tuples' true) (fun p => p.1 ∈ vs) (SrtO.lt2 fun v u => ltTI (k v) (k u)) := by
  intro p q hm hm'
  have h1 := hp _ hm
  have h2 := hp _ hm'
  show wpAny (model prog w) A (keyLt' (tuples' true) p.1 q.1) (fun r s' => s' = s ∧ r = ltTI (k p.1) (k q.1)) (fun _ _ => False) s
  unfold ltTI
  generalize k p.1 = x at h1 ⊢
  generalize k q.1 = x' at h2 ⊢
  obtain ⟨x, y⟩ := x
  obtain ⟨x', y'⟩ := x'
  obtain ⟨a, o, t, u, n, e, ho, hc, hd⟩ := h1
  obtain ⟨a', o', t', u', n', e', ho', hc', hd'⟩ := h2
  rw [e, e']
  refine PySem.W.kat_lt ho hd ho' hd' ?_
  show PySem.W.KatLex prog w A true (decide (2 < 2)) _ [(.str (st x) t, .str (st x') t'), (.int y u, .int y' u')] 0 s
  refine PySem.W.kat_cons (SeqAt.EqAt.str_str (st x) t (st x') t' prog w _ _ ?_)
  refine PySem.W.kat_go (fun e1 => ?_) (fun e1 => ?_)
  · have ex : x = x' := st_inj.mp (by simpa using e1)
    refine PySem.W.kat_yes (PySem.W.kat_cons (SeqAt.EqAt.int_int y u y' u' prog w _ _ ?_))
    refine PySem.W.kat_go (fun e2 => ?_) (fun e2 => ?_)
    · have ey : y = y' := by simpa using e2
      have e3 : (if x = x' then decide (y < y') else decide (x < x')) = false := by
        rw [if_pos ex, ey]
        exact decide_eq_false (Int.lt_irrefl _)
      exact PySem.W.kat_yes (PySem.W.kat_nil ⟨rfl, e3.symm⟩)
    · have e3 : (if x = x' then decide (y < y') else decide (x < x')) = decide (y < y') := if_pos ex
      refine PySem.W.kat_no (PySem.W.kat_one _ _ (PyProof.Rows.lt_int ?_))
      exact (show s = s ∧ decide (y < y') = (if x = x' then decide (y < y') else decide (x < x')) from ⟨rfl, e3.symm⟩)
  · have ex : ¬ x = x' := fun z => by rw [z] at e1; simp at e1
    have e3 : (if x = x' then decide (y < y') else decide (x < x')) = decide (x < x') := if_neg ex
    exact PySem.W.kat_no (oneLt_str ⟨rfl, e3.symm⟩)
theorem ti_firsts {h : Heap} {k : Value → Tx × Int} : ∀ {vs : List Value}, (∀ v ∈ vs, IsTI h v (k v)) → ∃ fs : List Value, PySem.W.KatTups h vs fs ∧ fs.length = vs.length ∧ ∀ f ∈ fs, ∃ x t, f = Value.str x t
  | [], _ => ⟨[], PySem.W.KatTups.nil, rfl, fun _ hm => by simp at hm⟩
  | v :: vs, hp => by
    obtain ⟨fs, h1, h2, h3⟩ := ti_firsts (vs := vs) fun v' hm => hp v' (List.mem_cons_of_mem _ hm)
    obtain ⟨a, o, t, u, n, e, ho, hc, hd⟩ := hp v (List.mem_cons_self ..)
    rw [e]
    refine ⟨.str (st (k v).1) t :: fs, PySem.W.KatTups.cons ho hc hd rfl h1, by rw [List.length_cons, List.length_cons, h2], fun f hm => ?_⟩
    rcases List.mem_cons.mp hm with rfl | hm
    · exact ⟨_, t, rfl⟩
    · exact h3 f hm
theorem ti_sortable {a : Addr} {vs : List Value} {k : Value → Tx × Int} (h0 : 0 < vs.length) (hp : ∀ v ∈ vs, IsTI s.heap v (k v)) (ha : ∀ o, s.heap.get? a = some o → o.cls ≠ .type "tuple") : SrtO.SortableO prog w A s a vs fun v u => ltTI (k v) (k u) := by
  intro h' keep
  have hp' : ∀ v ∈ vs, IsTI h' v (k v) := fun v hm => (hp v hm).keeps fun b o e c => keep b o (fun z => by subst z; exact ha o e c) e
  obtain ⟨fs, h1, h2, h3⟩ := ti_firsts hp'
  refine ⟨tuples' true, fun Q E hq => ?_, ti_cmp hp'⟩
  refine PySem.W.kat_kind (T := .type "str") h1 (by omega) (fun f hm => ?_) (by rfl) ?_
  · obtain ⟨x, t, rfl⟩ := h3 f hm
    exact PySem.W.Looks.now
  · have e : (Value.type "str" != Value.type "tuple") = true := by first | decide +kernel | rfl | decide
    rw [e]
    exact hq
end
/-- sorted(a list of pairs (text, int)) -/
def rSortTI (K : PySem.W.Frag) : List V → Hp → VK → Prop := fun vs H Q => ∃ (a : Addr) (xs : List V) (ps : List (Tx × Int)), vs = [V.ref a] ∧ SqL K H a xs ∧ Paired (fun x (p : Tx × Int) => ∃ t, x = V.ref t ∧ SqT K H t [.str (st p.1), .int p.2]) xs ps ∧
  ∀ (zs : List (V × (Tx × Int))) (p : Addr), zs.Perm (xs.zip ps) → (zs.map (·.2)).Pairwise (fun x y => ltTI y x = false) → H p = none → Q (.ref p) (upd H p (.lst (zs.map (·.1))))
section
variable {X : Cx}
theorem ti_list {pins : List (Addr × Obj)} {σ : L2.St} {H : Hp} {s : Shared} (I : Inv X pins σ H s) : ∀ {xs : List V} {ps : List (Tx × Int)} {its : List Value}, Paired (fun x (p : Tx × Int) => ∃ t, x = V.ref t ∧ SqT X.K H t [.str (st p.1), .int p.2]) xs ps → Vals xs its →
    (its.map fun v => (backV v, tiOf s.heap v)) = xs.zip ps ∧ (∀ v ∈ its, IsTI s.heap v (tiOf s.heap v)) ∧ ∀ v ∈ its, ∃ a, v = Value.ref a
  | _, _, _, .nil, .nil => ⟨rfl, by simp, by simp⟩
  | _ :: _, p :: _, v :: _, .cons h t, .cons r rr => by
    obtain ⟨b1, b2, b3⟩ := ti_list I t rr
    obtain ⟨a, rfl, hq⟩ := h
    obtain rfl : v = Value.ref a := r
    obtain ⟨its2, r2, ht, _⟩ := I.tuple hq
    obtain ⟨u1, u2, e2, ri, rj⟩ := vals2 r2
    obtain ⟨t1, rfl⟩ := ri
    obtain ⟨t2, rfl⟩ := rj
    obtain ⟨o, ho, hc, n, hd⟩ := ht
    have ti : IsTI s.heap (.ref a) p := ⟨a, o, t1, t2, n, rfl, ho, hc, by rw [hd, e2]⟩
    refine ⟨?_, ?_, ?_⟩
    · rw [List.map_cons, b1, tiOf_eq ti]; rfl
    · intro v hv
      rcases List.mem_cons.mp hv with e | hv
      · rw [e, tiOf_eq ti]; exact ti
      · exact b2 v hv
    · intro v hv
      rcases List.mem_cons.mp hv with e | hv
      · exact ⟨a, e⟩
      · exact b3 v hv
theorem cr_sortTI : CallR X (.builtin "sorted") (rSortTI X.K) := by
  intro pins s σ H vs us Q I r h
  obtain ⟨a, xs, ps, rfl, hs, hx, q⟩ := h
  obtain ⟨its, rv, hl, hz⟩ := I.list hs
  obtain ⟨u, rfl, ru⟩ := vals1 r
  obtain rfl : u = Value.ref a := ru
  obtain ⟨b1, b2, b3⟩ := ti_list I hx rv
  refine SrtO.sorted_ord (swo_TI (tiOf s.heap)) hl.isList (by rw [← rv.length]; exact hz) (fun h2 h₁ a' ha kk => ?_) fun out h1 h2 => ?_
  · refine ti_sortable (s := { s with heap := h₁ }) (by omega) (fun v hm => (b2 v hm).keeps fun b o e _ => (kk b o e).2) fun o e => ?_
    have e' : some o = some (seqObj "list" its.toArray 0) := e.symm.trans ha
    cases e'
    intro c
    exact absurd (Value.type.inj c) (by decide)
  · obtain ⟨n, hn⟩ := PyProof.Rows.sortedAll_at s.heap its out.toArray
    have pm : (out.map fun v => (backV v, tiOf s.heap v)).Perm (xs.zip ps) := by rw [← b1]; exact h2.perm.map _
    have hb : ((out.map fun v => (backV v, tiOf s.heap v)).map (·.1)) = out.map backV := by rw [List.map_map]; rfl
    have hk : ((out.map fun v => (backV v, tiOf s.heap v)).map (·.2)) = out.map (tiOf s.heap) := by rw [List.map_map]; rfl
    have key := q (out.map fun v => (backV v, tiOf s.heap v)) (s.heap.objs.size + 1) pm (by rw [hk]; exact List.pairwise_map.mpr h1) (I.hok.fresh (Nat.le_succ _))
    rw [hb] at key
    have h3 : ∀ u ∈ out, ∃ a, u = Value.ref a := fun u hu => b3 u (h2.perm.mem_iff.mp hu)
    refine ⟨.ref _, upd H (s.heap.objs.size + 1) (.lst (out.map backV)), I.laid (t' := s.toks) (fun _ _ => PyProof.Rows.sortedAll_old) (Nat.le_succ _) ⟨?_, out, n, vals_back h3, hn⟩, rfl, key⟩
    rw [List.length_map, h2.perm.length_eq, ← rv.length]
    exact hz
end
end DL
set_option Elab.async false
set_option linter.all false
set_option maxRecDepth 100000
set_option maxHeartbeats 2000000
namespace PySem
open Sem (wp)
open AutoSeq1 (wpAny_loadPart')
theorem dl_meets_enumT (l : Addr) (items : Array Value) (ob : Obj) :
    Meets (Builtin.«enumerate.__new__» ⟨[.type "enumerate", .ref l], []⟩) (fun _ R s => s.heap.get? l = some ob ∧ s.heap.IsTuple l items ∧
      R (.ok (.ret (.ref (s.heap.push { cls := .type "tuple_iterator", data := .fields #[.ref l, .int 0 0] }).objs.size)))
        { s with heap := (s.heap.push { cls := .type "tuple_iterator", data := .fields #[.ref l, .int 0 0] }).push { cls := .type "enumerate", data := .fields #[.none, .bool false, .ref s.heap.objs.size, rawInt 0, .none, .none] } }) :=
  .of_wp fun prog w A R s h => by
    obtain ⟨hp, g, d, tk, os⟩ := s; obtain ⟨hl, hL, h⟩ := h
    have hsub := sub_enumerate
    wp_walk using wpAny_loadPart' hl
    refine wpAny_stack_any fun st => wpAny_pure ?_
    split
    · rename_i c _ _ _ _ _
      cases (c == Value.type "enumerate")
      · wp_walk using wpAny_loadPart' hl, wpAny_pyIter_tuple hL
        exact ⟨_, rfl, h⟩
      · wp_walk using wpAny_loadPart' hl, wpAny_pyIter_tuple hL
        exact ⟨_, rfl, h⟩
    · wp_walk using wpAny_loadPart' hl, wpAny_pyIter_tuple hL
      exact ⟨_, rfl, h⟩
section
variable {prog : Program} {w : World} {A : Around} {E : Value → Shared → Prop} {s : Shared}
theorem dl_call_enumT {l : Addr} {items : Array Value} {Q : Value → Shared → Prop} (hL : s.heap.IsTuple l items)
    (h : ∀ h', IsEnum h' (s.heap.objs.size + 1) s.heap.objs.size 0 .none → h'.IsTupleIter s.heap.objs.size l 0 → h'.objs.size = s.heap.objs.size + 2 →
      (∀ b o, s.heap.get? b = some o → h'.get? b = some o) → Q (.ref (s.heap.objs.size + 1)) { s with heap := h' }) :
    wpAny (model prog w) A (call (.type "enumerate") [.ref l]) Q E s := by
  obtain ⟨ob, hl, hc, n, hd⟩ := id hL
  refine callType_new F.called_enumerate (by decide) (F.typeCall_enumerate_1 _) (F.newCall_enumerate_1 _) (fun obj => F.args_object_init_2 obj _) F.entry_enumerate_new
    (dl_meets_enumT l items ob) ⟨hl, hL, ?_⟩
  have hz : (s.heap.push { cls := .type "tuple_iterator", data := .fields #[.ref l, .int 0 0] }).objs.size = s.heap.objs.size + 1 := Heap.size_push ..
  show _ ∧ _
  rw [hz]
  have he : IsEnum ((s.heap.push { cls := .type "tuple_iterator", data := .fields #[.ref l, .int 0 0] }).push
      { cls := .type "enumerate", data := .fields #[.none, .bool false, .ref s.heap.objs.size, rawInt 0, .none, .none] }) (s.heap.objs.size + 1) s.heap.objs.size 0 .none := by
    have := Heap.get?_push_size (s.heap.push { cls := .type "tuple_iterator", data := .fields #[.ref l, .int 0 0] })
      (o := { cls := .type "enumerate", data := .fields #[.none, .bool false, .ref s.heap.objs.size, rawInt 0, .none, .none] }) rfl
    rw [hz] at this; exact this
  refine ⟨⟨_, he, rfl⟩, h _ he ⟨_, Heap.get?_push_of_some _ (Heap.get?_push_size _ rfl), rfl, rfl⟩ (by rw [Heap.size_push, hz]) fun b o x => Heap.get?_push_of_some _ (Heap.get?_push_of_some _ x)⟩
end
end PySem
namespace DL
open PySem PySem.Spec PyProof.Rows L2
/-- the tuple at a, each item in a new pair -/
def IteT (K : PySem.W.Frag) (a : Addr) : It :=
  ⟨fun i H => ∃ (xs : List V) (x : V), SqT K H a xs ∧ xs[i]? = some x, fun i H v H' => ∃ T x, v = .ref T ∧ H T = none ∧ H' = upd H T (.tup [.int (i : Nat), x]) ∧ ∀ xs, SqT K H a xs → xs[i]? = some x, fun i H => ∃ xs : List V, SqT K H a xs ∧ xs.length = i⟩
theorem turn_enumT {P : Program} {w : World} {K : PySem.W.Frag} {elts : List Expr} {kk : Nat} {tpos : Pos} (a e it : Addr) :
    Turn P w K (.Tuple elts kk tpos) (IteT K a) [e, it] e (fun i h => (∃ old, IsEnum h e it ((i : Nat) : Int) old) ∧ h.IsTupleIter it a i ∧ e ≠ it) where
  mem := by simp
  obj := fun i h st b hb => by
    obtain ⟨⟨old, he⟩, ⟨o, ho, hc, hd⟩, _⟩ := st
    have e' : b = e ∨ b = it := by simpa using hb
    rcases e' with z | z
    · rw [z]; exact ⟨_, he, fun v q => nomatch q⟩
    · rw [z]; exact ⟨o, ho, fun v q => by rw [hd] at q; cases q⟩
  keep := fun i h h' st k => let ⟨⟨old, he⟩, hi, hne⟩ := st; ⟨⟨old, k e (by simp) _ he⟩, hi.at fun o q => k it (by simp) o q, hne⟩
  item := by
    intro X hP hw hK hc i pins s σ H E I hf st hg
    subst hP hw hK
    obtain ⟨⟨old, he⟩, hit, hne⟩ := st
    obtain ⟨xs, x, hq, hx⟩ := hg
    obtain ⟨its, rv, p, hz⟩ := I.tuple hq
    have pt : s.heap.IsTuple a its.toArray := p
    obtain ⟨u0, hu, ru⟩ := rv.get hx
    have hel : e < s.heap.objs.size := Heap.lt_size he
    have hil : it < s.heap.objs.size := by obtain ⟨_, q, _⟩ := hit; exact Heap.lt_size q
    have hil2 : i < its.toArray.size := by
      have := (List.getElem?_eq_some_iff.mp hu).1
      simpa using this
    have hai : a ≠ it := fun z => by
      subst z
      obtain ⟨o, e1, c1, d1⟩ := hit
      obtain ⟨o', e2, c2, _⟩ := pt
      rw [e1] at e2; cases e2
      rw [c1] at c2; exact absurd (Value.type.inj c2) (by decide)
    have hae : e ≠ a := fun z => by
      subst z
      obtain ⟨o', e2, c2, _⟩ := pt
      have he' : s.heap.get? e = some _ := he
      rw [he'] at e2; cases e2; exact absurd (Value.type.inj c2) (by decide)
    refine wpAny_pyNext_enum_itemD (Draws.tuple (prog := X.prog) (w := X.w) (A := X.A.in1) (I.ok.hd hc) it a hai its.toArray) he ⟨hit, pt⟩ hil2 hne (by simp [hne, hae]) fun x' h' tk hx' ho hit' hT hsz hk => ?_
    have ex : x' = u0 := by
      have : its.toArray[i]? = some u0 := by simpa using hu
      rw [hx'] at this; exact Option.some.inj this
    subst ex
    refine ⟨_, rfl, wpAny_letOwnedTupleGo_enum (s := { s with heap := h', toks := tk + 1 }) ho fun h'' he' sb => ?_⟩
    have hT2 : h''.get? s.heap.objs.size = some { cls := .type "tuple", data := .seq #[.int i tk, x'] } := (sb.2 _ (Nat.ne_of_gt hel)).trans hT
    have new : ObjOk X.prog X.w (upd H s.heap.objs.size (.tup [.int (i : Nat), x])) h'' s.heap.objs.size (.tup [.int (i : Nat), x]) :=
      ⟨by show 2 ≤ sizeLine; decide, [.int i tk, x'], .cons ⟨_, rfl⟩ (.cons ru .nil), ⟨_, hT2, rfl, _, rfl⟩⟩
    have I1 : Inv X pins σ (upd H s.heap.objs.size (.tup [.int (i : Nat), x])) { s with heap := h'', toks := tk + 1 } :=
      I.turnedNew (ch := [e, it]) (fun b ob hb q => (sb.2 b (fun z => hb (by simp [z]))).trans (hk b ob (fun z => hb (by simp [z])) (fun z => hb (by simp [z])) q)) hf (Nat.le_refl _) new
    refine ⟨.ref s.heap.objs.size, _, I1, rfl, ⟨_, x, rfl, I.hok.fresh (Nat.le_refl _), rfl, fun ys hy => by rw [I.tuple_inj hy hq]; exact hx⟩, ⟨⟨x', ?_⟩, hit'.1.at fun o q => (sb.2 it (Ne.symm hne)).trans q, hne⟩, fun b hb => ?_⟩
    · have e1 : ((i + 1 : Nat) : Int) = (i : Int) + 1 := by omega
      rw [e1]; exact he'
    · have hb' : b < s.heap.objs.size := by
        have e' : b = e ∨ b = it := by simpa using hb
        rcases e' with z | z
        · rw [z]; exact hel
        · rw [z]; exact hil
      rw [upd_ne (Nat.ne_of_lt hb')]
      exact (hf b hb).1
  done := by
    intro X hP hw hK hc i pins s σ H E I hf st hg
    subst hP hw hK
    obtain ⟨⟨old, he⟩, hit, hne⟩ := st
    obtain ⟨xs, hq, hx⟩ := hg
    obtain ⟨its, rv, p, hz⟩ := I.tuple hq
    have pt : s.heap.IsTuple a its.toArray := p
    obtain ⟨f0, f1, f2, f3, f4, f5⟩ := hf it (by simp)
    have hl := rv.length
    have hai : a ≠ it := fun z => by
      subst z
      obtain ⟨o, e1, c1, d1⟩ := hit
      obtain ⟨o', e2, c2, _⟩ := pt
      rw [e1] at e2; cases e2
      rw [c1] at c2; exact absurd (Value.type.inj c2) (by decide)
    have hsz : its.toArray.size = i := by simp; omega
    exact wpAny_pyNext_enum_endD (Draws.tuple (prog := X.prog) (w := X.w) (A := X.A.in1) (I.ok.hd hc) it a hai its.toArray) he ⟨by rw [hsz]; exact hit, pt⟩ fun h' eb => ⟨rfl, I.turned (t' := s.toks) (fun b o hb q => eb b o hb q) f0 f1 f3 f4 f5⟩
  self := fun A i s Q E st h => let ⟨⟨_, he⟩, _⟩ := st; wpAny_pyIter_enum he h
/-- a list or a tuple that is numbered -/
def iEnumA (K : PySem.W.Frag) (ta : TA) : TI := fun σ H R => ta σ H fun vs H1 => ∃ a, vs = [.ref a] ∧ ((∃ xs, SqL K H1 a xs ∧ R (Ite K a) H1) ∨ (∃ xs, SqT K H1 a xs ∧ R (IteT K a) H1))
theorem pi_enumA {X : Cx} {e : Expr} {ta : TA} {p pos tpos : Pos} {elts : List Expr} {kk : Nat} (hg : Gl X "enumerate") (hm : X.mg "enumerate" = none) (ha : PA X [e] ta) (hs : starEach [e] X.env = [(false, eval e X.env)]) :
    PI X (.Tuple elts kk tpos) (.Call (.Name "enumerate" p) [e] [] pos) (iEnumA X.K ta) := by
  refine ⟨fun pins s σ H R I h => ?_⟩
  refine Call_ (ld_blt I hg hm boot_enumerate (PyProof.Rows.callWith_type1 (thn (ha.run pos pins s σ H _ I h) fun us s1 ⟨vs, H1, I1, r1, q1⟩ => ?_) hs rfl))
  obtain ⟨a, ex, q1⟩ := q1
  subst ex
  obtain rfl := Vals.ref1 r1
  rcases q1 with ⟨xs, hq, q⟩ | ⟨xs, hq, q⟩
  · obtain ⟨its, rv, p', hz⟩ := I1.list hq
    refine call_enumerate_list p'.isList fun h' he hit hsz hk => wpAny_pyIter_enum he ?_
    have I2 : Inv X pins σ H1 { s1 with heap := h' } := I1.kept (t' := s1.toks) hk
    refine ⟨s1.heap.objs.size + 1, [s1.heap.objs.size + 1, s1.heap.objs.size], _, _, H1, rfl, I2, turn_enum a (s1.heap.objs.size + 1) s1.heap.objs.size, ⟨⟨.none, he⟩, hit, Nat.succ_ne_self _⟩, fun b hb => ?_, q⟩
    have e' : b = s1.heap.objs.size + 1 ∨ b = s1.heap.objs.size := by simpa using hb
    have hle : s1.heap.objs.size ≤ b := by
      rcases e' with z | z
      · rw [z]; exact Nat.le_add_right _ _
      · rw [z]; exact Nat.le_refl _
    exact I1.fpOk hle (I1.hok.fresh hle)
  · obtain ⟨its, rv, p', hz⟩ := I1.tuple hq
    refine dl_call_enumT (show s1.heap.IsTuple a its.toArray from p') fun h' he hit hsz hk => wpAny_pyIter_enum he ?_
    have I2 : Inv X pins σ H1 { s1 with heap := h' } := I1.kept (t' := s1.toks) hk
    refine ⟨s1.heap.objs.size + 1, [s1.heap.objs.size + 1, s1.heap.objs.size], _, _, H1, rfl, I2, turn_enumT a (s1.heap.objs.size + 1) s1.heap.objs.size, ⟨⟨.none, he⟩, hit, Nat.succ_ne_self _⟩, fun b hb => ?_, q⟩
    have e' : b = s1.heap.objs.size + 1 ∨ b = s1.heap.objs.size := by simpa using hb
    have hle : s1.heap.objs.size ≤ b := by
      rcases e' with z | z
      · rw [z]; exact Nat.le_add_right _ _
      · rw [z]; exact Nat.le_refl _
    exact I1.fpOk hle (I1.hok.fresh hle)
section
variable {T : Tb} {S0 S S' : Sw} {X : Cx} {u : IE → DTE} {es : IEs}
theorem wk_enumT {a : Addr} {its : List D} {gd : Gd} (h : ∀ S1, Stp S S1 → Rh T S1 → gdOk gd S1.hd → ∃ vs, SqT T.K S1.hp a vs ∧ repL T S1.fz S1.hp its vs) : Wk T S (IteT T.K a) (enumD 0 its) gd where
  go := fun i S1 s r g hi => by
    obtain ⟨vs, q, rp⟩ := h S1 s r g
    rw [enumD_len] at hi
    obtain ⟨v, ev, _⟩ := repL_at (i := i) rp (List.getElem?_eq_getElem hi)
    exact ⟨vs, v, q, ev⟩
  yld := fun i S1 x H' d s r g hi hy => by
    obtain ⟨vs, q, rp⟩ := h S1 s r g
    obtain ⟨y, hy1, hy2⟩ := enumD_at hi
    obtain ⟨v, ev, rv⟩ := repL_at rp hy1
    obtain ⟨p, z, e1, hp, e2, e3⟩ := hy
    have := e3 vs q
    rw [ev] at this
    cases this
    subst e2 e1
    refine ⟨S1.new p (.tup [.int (i : Nat), v]), rfl, rfl, Stp.new hp, r.new hp, ?_⟩
    rw [hy2, Nat.zero_add]
    exact mk_tup (SqT.of Sw.new_at) (repL_mk mk_int (repL_mk (rv.stp r (Stp.new hp)) repL_mk0))
  stop := fun i S1 s r g hi => by
    obtain ⟨vs, q, rp⟩ := h S1 s r g
    rw [enumD_len] at hi
    exact ⟨vs, q, by rw [← repL_len rp]; exact hi⟩
def dEnum (t : DTE) : DTI := fun ds hd Q => t ds hd fun ev hd1 => match view hd1 ev.d with
    | .lst xs => Q (enumD 0 xs) (gdOf ev.d xs) hd1
    | .tup xs => Q (enumD 0 xs) none hd1
    | _ => False
theorem snd_enum (hK : X.K = T.K) {a : Expr} {t : DTE} {p pos tpos : Pos} {elts : List Expr} {kk : Nat} (hg : Gl X "enumerate") (hm : X.mg "enumerate" = none) (ha : noStar a = true) (h : PE X a (lE T S0 t)) :
    PI X (.Tuple elts kk tpos) (.Call (.Name "enumerate" p) [a] [] pos) (lI T S0 (dEnum t)) :=
  pi_imp (pi_enumA hg hm (pa_cons (pe_frz h) pa_nil (star_of ha)) (by rw [star_of ha]; rfl)) fun σ H R ⟨S, ds, eh, A, Qd, ht, k⟩ => by
    subst eh
    refine seq_lD (u := fun d ds hd1 (Q : Unit → Hd → Prop) => match view hd1 d with
      | .lst xs => Qd (enumD 0 xs) (gdOf d xs) hd1
      | .tup xs => Qd (enumD 0 xs) none hd1
      | _ => False) (Qa := fun (_ : Unit) _ => True) A ht fun d S1 v s1 A1 q1 h1 => ?_
    rw [hK]
    split at h1
    · rename_i xs e
      obtain ⟨a, e1, hst⟩ := list_stays A1.rh q1 e
      obtain ⟨a', vs, e2, q2, _⟩ := view_lst A1.rh q1 e
      rw [e1] at e2
      cases e2
      refine ⟨a, by rw [e1], .inl ⟨vs, SqL.of q2, k _ _ S1 _ s1 A1.rh (wk_enum fun S2 s2 r2 g2 => ?_) h1⟩⟩
      obtain ⟨vs, z1, z2⟩ := hst S2 s2 r2 g2
      exact ⟨vs, SqL.of z1, z2⟩
    · rename_i xs e
      obtain ⟨a, vs, e1, q2, q3⟩ := view_tup A1.rh q1 e
      exact ⟨a, by rw [e1], .inr ⟨vs, q2, k _ _ S1 _ s1 A1.rh (wk_enumT fun S2 s2 r2 _ => ⟨vs, s2.sqT A1.rh q2, q3.stp A1.rh s2⟩) h1⟩⟩
    · exact h1.elim
/-! ### list(d.items()), sorted -/
theorem Stp.up {H' : Hp} (k : ∀ b o, S.hp b = some o → H' b = some o) : Stp S ⟨S.hd, S.fz, H'⟩ := ⟨fun _ z => z, fun a o e n => ⟨o, k a o e, fun _ => rfl, fun z => z, n, fun z => z⟩⟩
theorem Rh.up {H' : Hp} (R : Rh T S) (k : ∀ b o, S.hp b = some o → H' b = some o) : Rh T ⟨S.hd, S.fz, H'⟩ := by
  refine ⟨fun a o e => ?_, fun a z => ?_⟩
  · obtain ⟨q, nf⟩ := R.at_ a o e
    obtain ⟨w, ew, _⟩ := q.hp
    exact ⟨q.stp R (Stp.up k) ((k a w ew).trans ew.symm), nf⟩
  · obtain ⟨n, w, ew, nt⟩ := R.fzs a z
    exact ⟨n, w, k a w ew, nt⟩
theorem pairs_mk {F : Fz} {H : Hp} : ∀ {kvs : List (DK × D)} {gs : List (Key × V)} {ts : List Addr}, repK T F H kvs gs → Paired (fun (t : Addr) (q : Key × V) => H t = some (.tup [kV q.1, q.2])) ts gs → repL T F H (pairD kvs) (ts.map V.ref)
  | [], gs, ts, h, p => by
    rw [repK_nil h] at p
    cases p
    exact repL_mk0
  | (k, d) :: kvs, gs, ts, h, p => by
    have ok := repK_ok h
    obtain ⟨v, r, e, h1, h2⟩ := repK_cons h
    subst e
    cases p with
    | cons a b =>
      refine repL_mk ?_ (pairs_mk h2 b)
      refine mk_tup (SqT.of a) (repL_mk ?_ (repL_mk h1 repL_mk0))
      cases k with
      | i n => exact mk_int
      | s x =>
        exact mk_str ok.1 ok.2
end
end DL
set_option Elab.async false
set_option linter.all false
set_option maxRecDepth 100000
set_option maxHeartbeats 2000000
namespace DL
open PySem PySem.Spec PyProof.Rows L2
theorem alike_ints (ns : List Int) : PySem.W.AlikeAll (ns.map .int) := by
  refine ⟨fun x hx y hy => ?_, fun x hx => ?_⟩
  · obtain ⟨i, _, rfl⟩ := List.mem_map.mp hx
    obtain ⟨j, _, rfl⟩ := List.mem_map.mp hy
    simp [PySem.W.alike]
  · obtain ⟨i, _, rfl⟩ := List.mem_map.mp hx
    exact fun z => nomatch z
theorem dpAll_ints {K : PySem.W.Frag} {H : Hp} : ∀ ns : List Int, DpAll K H (ns.map .int) (ns.map .int)
  | [] => .nil
  | n :: ns => .cons (.int n) (dpAll_ints ns)
theorem depth_ints : ∀ ns : List Int, PyData.depthAll (ns.map .int) = 0
  | [] => rfl
  | n :: ns => by simp [PyData.depthAll, depth_ints ns, PyData.depth]
section
variable {X : Cx}
/-- max of a list or a tuple of numbers -/
def rMaxI (K : PySem.W.Frag) : List V → Hp → VK → Prop := fun xs H Q => ∃ (a : Addr) (n : Int) (ns : List Int), xs = [V.ref a] ∧ (SqL K H a ((n :: ns).map .int) ∨ SqT K H a ((n :: ns).map .int)) ∧ Q (.int (ns.foldl max n)) H
/-- repr of data of any depth -/
def rReprD (K : PySem.W.Frag) : List V → Hp → VK → Prop := fun xs H Q => ∃ (a : Addr) (d : PyData), xs = [V.ref a] ∧ Dp K H (V.ref a) d ∧ SeqAt.shaped d = true ∧ d.showable = true ∧ d.shown.length ≤ sizeLine ∧ Q (.str d.shown) H
theorem cr_reprD (hu : X.A.units + 65 < cLine) (hg : X.A.guards = some []) : CallR X (.builtin "repr") (rReprD X.K) := by
  intro pins s σ H xs us Q I r h
  obtain ⟨a, d, rfl, hd, sh, hs, hz, q⟩ := h
  obtain ⟨as, r1⟩ := Dp.reads I d (.ref a) (.ref a) hd rfl
  rw [Vals.ref1 r]
  have hcl := SeqAt.canLay_of_shaped sh
  have hdp : d.depth ≤ 64 := SeqAt.depth_of_shaped sh
  exact repr_of_reads' r1 hs (PyData.noDict_hsm (PyData.hasDict_of_canLay d hcl)) hg (by show X.A.units + (d.depth + 1) < cLine; omega) (fun _ _ e => e) (fun h' u tk hk => ⟨.str _, H, I.kept hk, ⟨_, rfl⟩, q⟩) hz
theorem cr_maxI (hc : X.calm = true) (hu : X.A.units + 65 < cLine) : CallR X (.builtin "max") (rMaxI X.K) := by
  intro pins s σ H xs us Q I r h
  obtain ⟨a, n, ns, rfl, hs, q⟩ := h
  rw [Vals.ref1 r]
  rcases hs with hs | hs
  · obtain ⟨its, rv, hl, _⟩ := I.list hs
    obtain ⟨as, h4⟩ := Dp.readsAll I _ _ its (dpAll_ints (n :: ns)) rv
    refine PySem.W.max_list_data (x := .int n) (xs := ns.map .int) (I.ok.hd hc) hl.isList (by simpa using h4) (alike_ints (n :: ns)) (by rw [show (PyData.int n :: ns.map .int) = (n :: ns).map .int from rfl, depth_ints]; omega) fun i v h' tk bs _ hr hk => ?_
    rw [PySem.W.maxD_ints] at hr
    cases hr
    exact ⟨.int _, H, I.kept hk, ⟨_, rfl⟩, q⟩
  · obtain ⟨its, rv, ⟨o, ho, hcl, m, hd⟩, _⟩ := I.tuple hs
    obtain ⟨as, h4⟩ := Dp.readsAll I _ _ its (dpAll_ints (n :: ns)) rv
    refine PySem.W.max_tuple_data (x := .int n) (xs := ns.map .int) (I.ok.hd hc) ⟨o, ho, hcl, m, hd⟩ (by simpa using h4) (alike_ints (n :: ns)) (by rw [show (PyData.int n :: ns.map .int) = (n :: ns).map .int from rfl, depth_ints]; omega) fun i v h' tk bs _ hr hk => ?_
    rw [PySem.W.maxD_ints] at hr
    cases hr
    exact ⟨.int _, H, I.kept hk, ⟨_, rfl⟩, q⟩
end
section
variable {T : Tb} {S0 S S' : Sw} {X : Cx} {u : IE → DTE} {es : IEs} {a : Expr} {pos : Pos}
theorem serves_itemsL : Serves T (r1 LiI.rItemsL) oItemsL := by
  intro S ds vs Qd Q R r h k
  unfold oItemsL at h
  split at h
  · obtain ⟨v, rfl, rx⟩ := repL_1 r
    refine ⟨v, rfl, ?_⟩
    split at h
    · rename_i kvs e
      obtain ⟨p, gs, rfl, h2, h3⟩ := view_dic R rx e
      refine ⟨p, gs, rfl, h2, fun H' q ts kp hq hts hqt hl hp => ?_⟩
      have s1 : Stp S ⟨S.hd, S.fz, H'⟩ := Stp.up kp
      have R1 : Rh T ⟨S.hd, S.fz, H'⟩ := R.up kp
      refine k (.nl (pairD kvs)) ⟨S.hd, S.fz, H'⟩ (.ref q) s1 R1 ⟨q, _, rfl, hl, pairs_mk (h3.stp R s1) hp, ?_⟩ h.2
      obtain ⟨n1, n2⟩ := R.there hq
      exact ⟨n1, n2, .inl hq⟩
    · exact h.elim
  · exact h.elim
theorem snd_itemsL (hc : X.calm = true) {p apos cpos : Pos} (h : PL X T S0 u [a] es) (hg : Gl X "list") (hm : X.mg "list" = none) (hb : nBase a = true) (hline : (apos.endLine == cpos.line) = true) :
    PE X (.Call (.Name "list" p) [.Call (.Attribute a "items" apos) [] [] cpos] [] pos) (lE T S0 (dApp oItemsL (wEs u es))) := by
  obtain ⟨k, e, rfl, h1⟩ := h.one
  exact pe_imp (LiI.pe_listItems hc h1 hg hm (by decide +kernel) (base_of hb) hline (star_of rfl)) fun σ H Q q => one_op serves_itemsL q
theorem asInts_rep {F : Fz} {H : Hp} : ∀ {ds : List D} {ns : List Int} {vs : List V}, asInts ds = some ns → repL T F H ds vs → vs = ns.map V.int
  | [], ns, vs, h, r => by cases h; rw [repL_nil r]; rfl
  | d :: ds, ns, vs, h, r => by
    obtain ⟨v, vr, e, r1, r2⟩ := repL_cons r
    subst e
    unfold asInts at h
    split at h
    · rename_i x xs e1 e2
      cases h
      rw [asI_rep r1 e1, asInts_rep e2 r2]; rfl
    · cases h
theorem ints_mk {F : Fz} {H : Hp} : ∀ {ns : List Int}, repL T F H (ns.map .int) (ns.map V.int)
  | [] => repL_mk0
  | _ :: _ => repL_mk mk_int ints_mk
theorem serves_sortI (hK : X.K = T.K) : Serves T (rSortedI X.K) oSortI := by
  intro S ds vs Qd Q R r h k
  unfold oSortI at h
  split at h
  · obtain ⟨v, rfl, rx⟩ := repL_1 r
    split at h
    · rename_i xs e
      obtain ⟨p, ws, rfl, h2, h3⟩ := view_lst R rx e
      split at h
      · rename_i ns en
        have ew := asInts_rep en h3
        subst ew
        exact ⟨p, ns, rfl, SqL.of h2, fun ns' q hp hs hq => done_nl R ints_mk (h ns' hp hs) k q hq⟩
      · exact h.elim
    · exact h.elim
  · exact h.elim
theorem asTIs_rep {F : Fz} {H : Hp} : ∀ {ds : List D} {ps : List (Tx × Int)} {vs : List V}, asTIs ds = some ps → repL T F H ds vs →
    Paired (fun x (p : Tx × Int) => ∃ t, x = V.ref t ∧ SqT T.K H t [.str (st p.1), .int p.2]) vs ps ∧ ∀ z ∈ vs.zip ps, rep T F H (tiD z.2) z.1
  | [], ns, vs, h, r => by cases h; rw [repL_nil r]; exact ⟨.nil, by simp⟩
  | d :: ds, ns, vs, h, r => by
    obtain ⟨v, vr, e, r1, r2⟩ := repL_cons r
    subst e
    unfold asTIs at h
    split at h
    · rename_i x xs e1 e2
      cases h
      obtain ⟨b1, b2⟩ := asTIs_rep e2 r2
      unfold asTI at e1
      split at e1
      · rename_i tx i
        cases e1
        obtain ⟨t, ws, e3, q, r3⟩ := rep_tup r1
        obtain ⟨w1, w2, e4, g1, g2⟩ := repL_2 r3
        subst e4
        have k1 := (rep_str g1).1
        have k2 := rep_int g2
        subst k1 k2
        refine ⟨.cons ⟨t, e3, q⟩ b1, fun z hz => ?_⟩
        rw [List.zip_cons_cons] at hz
        rcases List.mem_cons.mp hz with e | hz
        · rw [e]; exact r1
        · exact b2 z hz
      · cases e1
    · cases h
theorem zs_mk {F : Fz} {H : Hp} : ∀ {zs : List (V × (Tx × Int))}, (∀ z ∈ zs, rep T F H (tiD z.2) z.1) → repL T F H ((zs.map (·.2)).map tiD) (zs.map (·.1))
  | [], _ => repL_mk0
  | z :: zs, h => repL_mk (h z (by simp)) (zs_mk fun y hy => h y (by simp [hy]))
theorem zip_snd : ∀ {vs : List V} {ps : List (Tx × Int)}, vs.length = ps.length → (vs.zip ps).map (·.2) = ps
  | [], [], _ => rfl
  | _ :: _, _ :: _, h => by rw [List.zip_cons_cons, List.map_cons, zip_snd (by simpa using h)]
theorem serves_repr (hK : X.K = T.K) : Serves T (rReprD X.K) oRepr := by
  intro S ds vs Qd Q R r h k
  have one : ∃ x, ds = [x] := by
    unfold oRepr at h
    split at h
    · exact ⟨_, rfl⟩
    · exact h.elim
  obtain ⟨x, rfl⟩ := one
  obtain ⟨v, rfl, rx⟩ := repL_1 r
  obtain ⟨h1, h2, h3, h4, h5, h6⟩ := (show _ ∧ _ ∧ _ ∧ _ ∧ _ ∧ _ from h)
  obtain ⟨d1, d2⟩ := dp_view R rx h2
  have hv : ∃ a, v = V.ref a := by
    cases e : view S.hd x <;> rw [e] at h1 d1 <;> first | cases h1 | skip
    · cases d1; exact ⟨_, rfl⟩
    · cases d1; exact ⟨_, rfl⟩
  obtain ⟨a, rfl⟩ := hv
  have es : (dPy (view S.hd x)).shown = st (reprT (view S.hd x)) := by
    unfold st reprT
    cases (dPy (view S.hd x)).shown
    rfl
  refine ⟨a, dPy (view S.hd x), rfl, by rw [hK]; exact d1, d2, h3, ?_, ?_⟩
  · rw [es, sizeLine_eq]
    simpa [st, PySem.Str.length] using h4
  · rw [es]
    exact done_v R (mk_str h4 h5) h6 k
theorem serves_maxL (hK : X.K = T.K) : Serves T (rMaxI X.K) oMaxL := by
  intro S ds vs Qd Q R r h k
  unfold oMaxL at h
  split at h
  · obtain ⟨v, rfl, rx⟩ := repL_1 r
    split at h
    · rename_i xs e
      obtain ⟨p, ws, rfl, h2, h3⟩ := view_lst R rx e
      split at h
      · rename_i n ns en
        have ew := asInts_rep en h3
        subst ew
        exact ⟨p, n, ns, rfl, .inl (SqL.of h2), done_v R mk_int h k⟩
      · exact h.elim
    · rename_i xs e
      obtain ⟨p, ws, rfl, h2, h3⟩ := view_tup R rx e
      split at h
      · rename_i n ns en
        have ew := asInts_rep en h3
        subst ew
        exact ⟨p, n, ns, rfl, .inr (by rw [hK]; exact h2), done_v R mk_int h k⟩
      · exact h.elim
    · exact h.elim
  · exact h.elim
theorem serves_sumL (hK : X.K = T.K) : Serves T (rSum X.K) oSumL := by
  intro S ds vs Qd Q R r h k
  unfold oSumL at h
  split at h
  · obtain ⟨v, rfl, rx⟩ := repL_1 r
    split at h
    · rename_i xs e
      obtain ⟨p, ws, rfl, h2, h3⟩ := view_lst R rx e
      split at h
      · rename_i ns en
        have ew := asInts_rep en h3
        subst ew
        exact ⟨p, ns, rfl, SqL.of h2, done_v R mk_int h k⟩
      · exact h.elim
    · exact h.elim
  · exact h.elim
theorem serves_sortP (hK : X.K = T.K) : Serves T (rSortTI X.K) oSortP := by
  intro S ds vs Qd Q R r h k
  unfold oSortP at h
  split at h
  · obtain ⟨v, rfl, rx⟩ := repL_1 r
    split at h
    · rename_i xs e
      obtain ⟨p, ws, rfl, h2, h3⟩ := view_lst R rx e
      split at h
      · rename_i ps en
        obtain ⟨b1, b2⟩ := asTIs_rep en h3
        rw [hK]
        refine ⟨p, ws, ps, rfl, SqL.of h2, b1, fun zs q hp hs hq => ?_⟩
        have hz : (zs.map (·.2)).Perm ps := by
          have := hp.map (·.2)
          rw [zip_snd (Paired.length b1)] at this
          exact this
        exact done_nl R (zs_mk fun z hm => b2 z (hp.mem_iff.mp hm)) (h (zs.map (·.2)) hz hs) k q hq
      · exact h.elim
    · exact h.elim
  · exact h.elim
end
end DL
set_option Elab.async false
set_option linter.all false
set_option maxRecDepth 100000
set_option maxHeartbeats 2000000
namespace DL
open PySem PySem.Spec PyProof.Rows L2
/-- the module's names, by number -/
structure Wd where
  T : Tb
  P : Pg
  fa : Nat → Addr
  fname : Nat → Str
  cname : Nat → Str
  gname : Nat → Str
  gf : Nat → Bool
  gc : Nat → Bool
def bltNames : List Str := ["len", "abs", "int", "tuple", "list", "dict", "divmod", "max", "min", "all", "any", "str", "sorted", "sum", "repr", "isinstance", "range", "enumerate", "bool"]
/-- what holds of a context -/
structure XOk (W : Wd) (G : Gam) (X : Cx) : Prop where
  hK : X.K = W.T.K
  hN : X.N.Nodup
  calm : X.calm = true
  hu : X.A.units + 200 < cLine
  ng : noG X.A
  tb : TbOk W.T
  blt : ∀ x ∈ bltNames, X.mg x = none
  cst : ∀ n d, W.P.gl n = some d → ∃ v u, X.mg (W.gname n) = some u ∧ RelV v u ∧ ∀ S : Sw, rep W.T S.fz S.hp d v
  fn : ∀ f, W.gf f = true → X.mg (W.fname f) = some (.ref (W.fa f)) ∧ PySem.W.keepIn X.K (.ref (W.fa f)) = true ∧ FFact X W.T (W.fa f) (G f)
  cls : ∀ c, W.gc c = true → X.mg (W.cname c) = some (.ref (W.T.ca c))
  ini : ∀ c f, W.P.ini c = some f → Mk X.K (W.T.ca c) (W.fa f) ∧ FFact X W.T (W.fa f) (G f)
  me : ∀ c m f, W.P.me c m = some f → MFact X W.T (W.T.ca c) (W.T.sym m) (G f)
  pr : ∀ c m f, W.P.pr c m = some f → PFact X W.T (W.T.ca c) (W.T.sym m) (G f)
theorem XOk.blk {W : Wd} {G : Gam} {X : Cx} (h : XOk W G X) (s : Shared) (H : Hp) (scope : Scope) (env : Env) (fp : List Addr) : XOk W G (X.blk s H scope env fp) :=
  ⟨h.hK, h.hN, h.calm, h.hu, h.ng, h.tb, h.blt, h.cst, h.fn, h.cls, h.ini, h.me, h.pr⟩
/-! ### what is asked of the syntax -/
def visB (sc : Scope) (x : Str) : Bool := match sc.names.lookup x with
  | some .local => true
  | some .cell => true
  | some .free => true
  | _ => false
theorem vis_of {sc : Scope} {x : Str} (h : visB sc x = true) : Vis sc x := by
  unfold visB at h
  split at h
  · exact .inl ‹_›
  · exact .inr (.inl ‹_›)
  · exact .inr (.inr ‹_›)
  · cases h
def glB (sc : Scope) (x : Str) : Bool := sc.names.lookup x == some .globalImplicit
theorem gl_of {X : Cx} {x : Str} (h : glB X.env.scope x = true) : Gl X x := by
  unfold glB at h
  exact eq_of_beq h
def plainN (x : Str) : Bool := !(x == ("__debug__" : Str)) && !(x == ("__classdict__" : Str)) && !(x == ("__name__" : Str))
theorem plain1 {x : Str} (h : plainN x = true) : (x == ("__debug__" : Str)) = false := by unfold plainN at h; simp at h; simp [h.1.1]
theorem plain2 {x : Str} (h : plainN x = true) : (x == ("__classdict__" : Str)) = false := by unfold plainN at h; simp at h; simp [h.1.2]
theorem plain3 {x : Str} (h : plainN x = true) : x ≠ ("__name__" : Str) := by unfold plainN at h; simp at h; exact h.2
def bin? (o : Operator) : Expr → Option (List Expr)
  | .BinOp a p b _ => if p = o then some [a, b] else none
  | _ => none
theorem bin_ok {o : Operator} {e : Expr} {as : List Expr} (h : bin? o e = some as) : ∃ a b pos, e = .BinOp a o b pos ∧ as = [a, b] := by
  unfold bin? at h
  split at h
  · split at h
    · rename_i e; cases h; exact ⟨_, _, _, by rw [e], rfl⟩
    · cases h
  · cases h
def cmp? (o : CmpOp) : Expr → Option (List Expr)
  | .Compare a [p] [b] _ => if p = o ∧ behindInMarks o b = false then some [a, b] else none
  | _ => none
theorem cmp_ok {o : CmpOp} {e : Expr} {as : List Expr} (h : cmp? o e = some as) : ∃ a b pos, e = .Compare a [o] [b] pos ∧ as = [a, b] ∧ behindInMarks o b = false := by
  unfold cmp? at h
  split at h
  · split at h
    · rename_i e; cases h; exact ⟨_, _, _, by rw [e.1], rfl, e.2⟩
    · cases h
  · cases h
def isn? (o : CmpOp) : Expr → Option (List Expr)
  | .Compare a [p] [.Constant .none _ _] _ => if p = o then some [a] else none
  | _ => none
theorem isn_ok {o : CmpOp} {e : Expr} {as : List Expr} (h : isn? o e = some as) : ∃ a j p pos, e = .Compare a [o] [.Constant .none j p] pos ∧ as = [a] := by
  unfold isn? at h
  split at h
  · split at h
    · rename_i e; cases h; exact ⟨_, _, _, _, by rw [e], rfl⟩
    · cases h
  · cases h
def call? (sc : Scope) (nm : Str) : Expr → Option (List Expr)
  | .Call (.Name x _) (a :: as) [] _ => if x == nm && glB sc nm then some (a :: as) else none
  | _ => none
theorem call_ok {sc : Scope} {nm : Str} {e : Expr} {as : List Expr} (h : call? sc nm e = some as) : ∃ a r p pos, e = .Call (.Name nm p) (a :: r) [] pos ∧ as = a :: r ∧ glB sc nm = true := by
  unfold call? at h
  split at h
  · split at h
    · rename_i e
      simp only [Bool.and_eq_true] at e
      cases h
      exact ⟨_, _, _, _, by rw [eq_of_beq e.1], rfl, e.2⟩
    · cases h
  · cases h
def plainIx : Expr → Bool
  | .Slice _ _ _ _ => false
  | _ => true
theorem plainIx_of {b : Expr} (h : plainIx b = true) : PlainIx b := by
  cases b <;> first | (intro o i; rfl) | cases h
def tyS (W : Wd) (sc : Scope) (y : Str) : TyT → Bool
  | .bl => y == "bool" && glB sc y
  | .int => y == "int" && glB sc y
  | .str => y == "str" && glB sc y
  | .tup => y == "tuple" && glB sc y
  | .lst => y == "list" && glB sc y
  | .dic => y == "dict" && glB sc y
  | .non => false
  | .cls c => y == W.cname c && W.gc c && glB sc y && plainN y
/-- the parts of an operation, where the syntax is one -/
def opS (W : Wd) (sc : Scope) (o : Op) (e : Expr) : Option (List Expr) := match o with
  | .add => bin? .Add e
  | .sub => bin? .Sub e
  | .mul => bin? .Mult e
  | .fdiv => bin? .FloorDiv e
  | .mod => bin? .Mod e
  | .pow => bin? .Pow e
  | .neg => match e with
    | .UnaryOp .USub a _ => some [a]
    | _ => none
  | .lt => cmp? .Lt e
  | .le => cmp? .LtE e
  | .gt => cmp? .Gt e
  | .ge => cmp? .GtE e
  | .eq => cmp? .Eq e
  | .ne => cmp? .NotEq e
  | .inn => cmp? .In e
  | .notin => cmp? .NotIn e
  | .isN => isn? .Is e
  | .notN => isn? .IsNot e
  | .tup => match e with
    | .Tuple as _ _ => some as
    | _ => none
  | .lst => match e with
    | .List as _ => some as
    | _ => none
  | .dic0 => match e with
    | .Dict [] [] _ => some []
    | _ => none
  | .idx => match e with
    | .Subscript a b _ => if plainIx b then some [a, b] else none
    | _ => none
  | .sl true true => match e with
    | .Subscript a (.Slice (some b) (some c) none _) _ => some [a, b, c]
    | _ => none
  | .sl true false => match e with
    | .Subscript a (.Slice (some b) none none _) _ => some [a, b]
    | _ => none
  | .sl false true => match e with
    | .Subscript a (.Slice none (some b) none _) _ => some [a, b]
    | _ => none
  | .sl false false => match e with
    | .Subscript a (.Slice none none none _) _ => some [a]
    | _ => none
  | .len => call? sc "len" e
  | .abs => call? sc "abs" e
  | .int => call? sc "int" e
  | .tupof => call? sc "tuple" e
  | .lstof => call? sc "list" e
  | .dicof => call? sc "dict" e
  | .divmod => call? sc "divmod" e
  | .max2 => call? sc "max" e
  | .min2 => call? sc "min" e
  | .all => call? sc "all" e
  | .any => call? sc "any" e
  | .strI => call? sc "str" e
  | .sortI => call? sc "sorted" e
  | .sortP => call? sc "sorted" e
  | .maxL => call? sc "max" e
  | .sumL => call? sc "sum" e
  | .reprO => call? sc "repr" e
  | .itemsL => match e with
    | .Call (.Name x _) [.Call (.Attribute a m apos) [] [] cpos] [] _ => if x == ("list" : Str) && glB sc "list" && m == ("items" : Str) && nBase a && (apos.endLine == cpos.line) then some [a] else none
    | _ => none
  | .isin k => match e with
    | .Call (.Name x _) [a, .Name y _] [] _ => if x == ("isinstance" : Str) && glB sc "isinstance" && tyS W sc y k && noStar a then some [a] else none
    | _ => none
  | .attr f => match e with
    | .Attribute a x _ => if x == W.T.sym f && nBase a then some [a] else none
    | _ => none
  | _ => none
section
variable {W : Wd} {G : Gam} {S0 : Sw} {X : Cx} {u : IE → DTE} {es : IEs}
theorem i0_sub : OpR X (binaryOp .Sub) (rI (fun _ _ => True) fun i j => .int (i - j)) := opR_imp op_sub fun x y H Q ⟨i, j, a, b, _, q⟩ => ⟨i, j, a, b, q⟩
theorem call_any {x : Str} {id : String} {v : Value} {p pos : Pos} {a : Expr} {as : List Expr} {rr : List V → Hp → VK → Prop} {o : DOp} (XO : XOk W G X) (hx : x ∈ bltNames) (hg : glB X.env.scope x = true)
    (hc : CallR X v rr) (hv : bootBuiltins x = some v) (hty : (v = .builtin id) ∨ (v = .type id)) (hp : plainN x = true) (hs : Serves W.T rr o) (h : PL X W.T S0 u (a :: as) es) : PE X (.Call (.Name x p) (a :: as) [] pos) (lE W.T S0 (dApp o (wEs u es))) := by
  have ht : (backTo pos (starEach as X.env)).any (·.1) = false := by
    cases h with
    | cons h1 hn1 t => exact (t.stars pos).1
  rcases hty with rfl | rfl
  · exact snd_callB hc hs (gl_of hg) (XO.blt _ hx) hv h (plain3 hp) (plain1 hp) ht
  · exact snd_callTy hc hs (gl_of hg) (XO.blt _ hx) hv h (plain3 hp) (plain1 hp) ht
end
end DL
set_option Elab.async false
set_option linter.all false
set_option maxRecDepth 100000
set_option maxHeartbeats 4000000
namespace DL
open PySem PySem.Spec PyProof.Rows L2
section
variable {W : Wd} {G : Gam} {S0 : Sw} {X : Cx} {u : IE → DTE} {es : IEs}
theorem tyS_ok (XO : XOk W G X) {y : Str} {q : Pos} {k : TyT} (h : tyS W X.env.scope y k = true) : ∃ cv, ClsV cv (tyV' W.T k) ∧ PE X (.Name y q) (tC cv) := by
  cases k with
  | non => cases h
  | cls c =>
    simp only [tyS, Bool.and_eq_true] at h
    obtain ⟨⟨⟨h1, h2⟩, h3⟩, h4⟩ := h
    have e := eq_of_beq h1
    subst e
    exact ⟨.ref (W.T.ca c), .own _, cls_own (gl_of h3) (XO.cls c h2) (plain1 h4)⟩
  | _ =>
    simp only [tyS, Bool.and_eq_true] at h
    obtain ⟨h1, h3⟩ := h
    have e := eq_of_beq h1
    subst e
    exact ⟨.ty _, .ty _, cls_ty (gl_of h3) (XO.blt _ (by decide +kernel)) (by decide +kernel) (by decide +kernel) (by decide +kernel)⟩
theorem op_ok (XO : XOk W G X) {o : Op} {e : Expr} {as : List Expr} (h : opS W X.env.scope o e = some as) (hl : PL X W.T S0 u as es) : PE X e (lE W.T S0 (dApp (dop W.T o) (wEs u es))) := by
  have hK := XO.hK
  have hu := XO.hu
  cases o with
  | add => obtain ⟨a, b, pos, rfl, rfl⟩ := bin_ok h; exact snd_bin ox_add (serves_add hK) hl
  | sub => obtain ⟨a, b, pos, rfl, rfl⟩ := bin_ok h; exact snd_bin i0_sub (serves_int fun _ _ _ => trivial) hl
  | mul =>
    obtain ⟨a, b, pos, rfl, rfl⟩ := bin_ok h
    refine snd_bin op_mul (serves_int fun i j hc => ?_) hl
    unfold cMul at hc
    simp only [Bool.or_eq_true, Bool.and_eq_true, decide_eq_true_eq] at hc
    exact hc
  | fdiv =>
    obtain ⟨a, b, pos, rfl, rfl⟩ := bin_ok h
    refine snd_bin op_fdiv (serves_int fun i j hc => ?_) hl
    unfold cDiv at hc
    simp only [Bool.and_eq_true, decide_eq_true_eq] at hc
    exact hc
  | mod =>
    obtain ⟨a, b, pos, rfl, rfl⟩ := bin_ok h
    refine snd_bin op_mod (serves_int fun i j hc => ?_) hl
    unfold cMod at hc
    exact of_decide_eq_true hc
  | pow =>
    obtain ⟨a, b, pos, rfl, rfl⟩ := bin_ok h
    refine snd_bin op_pow (serves_int fun i j hc => ?_) hl
    unfold cPow at hc
    simp only [Bool.and_eq_true, decide_eq_true_eq] at hc
    exact ⟨hc.1.1, hc.1.2, hc.2⟩
  | neg =>
    simp only [opS] at h
    split at h
    · cases h; exact snd_neg serves_neg hl
    · cases h
  | lt => obtain ⟨a, b, pos, rfl, rfl, m⟩ := cmp_ok h; exact snd_cmp op_lt serves_cmp m hl
  | le => obtain ⟨a, b, pos, rfl, rfl, m⟩ := cmp_ok h; exact snd_cmp op_le serves_cmp m hl
  | gt => obtain ⟨a, b, pos, rfl, rfl, m⟩ := cmp_ok h; exact snd_cmp op_gt serves_cmp m hl
  | ge => obtain ⟨a, b, pos, rfl, rfl, m⟩ := cmp_ok h; exact snd_cmp op_ge serves_cmp m hl
  | eq => obtain ⟨a, b, pos, rfl, rfl, m⟩ := cmp_ok h; exact snd_cmp (op_eqD (by omega)) (serves_eq hK) m hl
  | ne => obtain ⟨a, b, pos, rfl, rfl, m⟩ := cmp_ok h; exact snd_cmp (op_neD (by omega)) (serves_ne hK) m hl
  | inn => obtain ⟨a, b, pos, rfl, rfl, m⟩ := cmp_ok h; exact snd_cmp (ox_in (by omega)) (serves_in hK false) m hl
  | notin => obtain ⟨a, b, pos, rfl, rfl, m⟩ := cmp_ok h; exact snd_cmp (ox_notin (by omega)) (serves_in hK true) m hl
  | isN => obtain ⟨a, j, p, pos, rfl, rfl⟩ := isn_ok h; exact snd_isN hl
  | notN => obtain ⟨a, j, p, pos, rfl, rfl⟩ := isn_ok h; exact snd_notN hl
  | tup =>
    simp only [opS] at h
    split at h
    · cases h; exact snd_tup hl
    · cases h
  | lst =>
    simp only [opS] at h
    split at h
    · cases h; exact snd_lst hl
    · cases h
  | dic0 =>
    simp only [opS] at h
    split at h
    · cases h; cases hl; exact snd_dic0
    · cases h
  | idx =>
    simp only [opS] at h
    split at h <;> first | cases h | skip
    split at h <;> first | cases h | skip
    exact snd_idx (ix_all (by omega)) (plainIx_of ‹_›) (serves_idxA hK) hl
  | len => obtain ⟨a, r, p, pos, rfl, rfl, g⟩ := call_ok h; exact call_any XO (id := "len") (by decide +kernel) g cx_len (by decide +kernel) (.inl rfl) (by decide +kernel) (serves_len hK) hl
  | abs => obtain ⟨a, r, p, pos, rfl, rfl, g⟩ := call_ok h; exact call_any XO (id := "abs") (by decide +kernel) g call_abs (by decide +kernel) (.inl rfl) (by decide +kernel) serves_abs hl
  | int => obtain ⟨a, r, p, pos, rfl, rfl, g⟩ := call_ok h; exact call_any XO (id := "int") (by decide +kernel) g call_int1 (by decide +kernel) (.inr rfl) (by decide +kernel) serves_intOf hl
  | tupof => obtain ⟨a, r, p, pos, rfl, rfl, g⟩ := call_ok h; exact call_any XO (id := "tuple") (by decide +kernel) g call_tuple_of (by decide +kernel) (.inr rfl) (by decide +kernel) (serves_tupOf hK) hl
  | lstof => obtain ⟨a, r, p, pos, rfl, rfl, g⟩ := call_ok h; exact call_any XO (id := "list") (by decide +kernel) g call_list_of (by decide +kernel) (.inr rfl) (by decide +kernel) (serves_lstOf hK) hl
  | dicof => obtain ⟨a, r, p, pos, rfl, rfl, g⟩ := call_ok h; exact call_any XO (id := "dict") (by decide +kernel) g (call_dictP XO.calm) (by decide +kernel) (.inr rfl) (by decide +kernel) (serves_dicOf hK) hl
  | divmod => obtain ⟨a, r, p, pos, rfl, rfl, g⟩ := call_ok h; exact call_any XO (id := "divmod") (by decide +kernel) g call_divmod (by decide +kernel) (.inl rfl) (by decide +kernel) serves_divmod hl
  | max2 => obtain ⟨a, r, p, pos, rfl, rfl, g⟩ := call_ok h; exact call_any XO (id := "max") (by decide +kernel) g (call_max2 XO.calm) (by decide +kernel) (.inl rfl) (by decide +kernel) serves_max2 hl
  | min2 => obtain ⟨a, r, p, pos, rfl, rfl, g⟩ := call_ok h; exact call_any XO (id := "min") (by decide +kernel) g (call_min2 XO.calm) (by decide +kernel) (.inl rfl) (by decide +kernel) serves_min2 hl
  | all => obtain ⟨a, r, p, pos, rfl, rfl, g⟩ := call_ok h; exact call_any XO (id := "all") (by decide +kernel) g (cr_all XO.calm) (by decide +kernel) (.inl rfl) (by decide +kernel) (serves_all hK) hl
  | any => obtain ⟨a, r, p, pos, rfl, rfl, g⟩ := call_ok h; exact call_any XO (id := "any") (by decide +kernel) g (cr_any XO.calm) (by decide +kernel) (.inl rfl) (by decide +kernel) (serves_any hK) hl
  | strI => obtain ⟨a, r, p, pos, rfl, rfl, g⟩ := call_ok h; exact call_any XO (id := "str") (by decide +kernel) g cx_str (by decide +kernel) (.inr rfl) (by decide +kernel) serves_strI hl
  | sortI => obtain ⟨a, r, p, pos, rfl, rfl, g⟩ := call_ok h; exact call_any XO (id := "sorted") (by decide +kernel) g cr_sortedI (by decide +kernel) (.inl rfl) (by decide +kernel) (serves_sortI hK) hl
  | sortP => obtain ⟨a, r, p, pos, rfl, rfl, g⟩ := call_ok h; exact call_any XO (id := "sorted") (by decide +kernel) g cr_sortTI (by decide +kernel) (.inl rfl) (by decide +kernel) (serves_sortP hK) hl
  | maxL => obtain ⟨a, r, p, pos, rfl, rfl, g⟩ := call_ok h; exact call_any XO (id := "max") (by decide +kernel) g (cr_maxI XO.calm (by have := XO.hu; omega)) (by decide +kernel) (.inl rfl) (by decide +kernel) (serves_maxL hK) hl
  | sumL => obtain ⟨a, r, p, pos, rfl, rfl, g⟩ := call_ok h; exact call_any XO (id := "sum") (by decide +kernel) g (cr_sum XO.calm) (by decide +kernel) (.inl rfl) (by decide +kernel) (serves_sumL hK) hl
  | reprO => obtain ⟨a, r, p, pos, rfl, rfl, g⟩ := call_ok h; exact call_any XO (id := "repr") (by decide +kernel) g (cr_reprD (by have := XO.hu; omega) XO.ng) (by decide +kernel) (.inl rfl) (by decide +kernel) (serves_repr hK) hl
  | itemsL =>
    simp only [opS] at h
    split at h <;> first | cases h | skip
    split at h <;> first | cases h | skip
    rename_i c
    simp only [Bool.and_eq_true] at c
    obtain ⟨⟨⟨⟨c1, c2⟩, c3⟩, c4⟩, c5⟩ := c
    rw [eq_of_beq c1, eq_of_beq c3]
    exact snd_itemsL XO.calm hl (gl_of c2) (XO.blt _ (by decide +kernel)) c4 c5
  | isin k =>
    simp only [opS] at h
    split at h <;> first | cases h | skip
    split at h <;> first | cases h | skip
    rename_i c
    simp only [Bool.and_eq_true] at c
    obtain ⟨⟨⟨c1, c2⟩, c3⟩, c4⟩ := c
    rw [eq_of_beq c1]
    exact snd_isin XO.tb hK (gl_of c2) (XO.blt _ (by decide +kernel)) (tyS_ok XO c3) hl c4
  | attr f =>
    simp only [opS] at h
    split at h <;> first | cases h | skip
    split at h <;> first | cases h | skip
    rename_i c
    simp only [Bool.and_eq_true] at c
    rw [eq_of_beq c.1]
    exact snd_attr XO.tb hK hl c.2
  | sl lo hi =>
    cases lo <;> cases hi <;> (simp only [opS] at h; split at h <;> first | cases h | skip)
    · exact snd_sl00 hK hl
    · exact snd_sl01 hK hl
    · exact snd_sl10 hK hl
    · exact snd_sl11 hK hl
  | _ => simp only [opS] at h; cases h
end
end DL
set_option Elab.async false
set_option linter.all false
set_option maxRecDepth 100000
set_option maxHeartbeats 4000000
namespace DL
open PySem PySem.Spec PyProof.Rows L2
/-! ### methods of built-in types -/
def metS : Tg → Op → Option Str
  | .str, .split => some "split"
  | .str, .part => some "partition"
  | .str, .join => some "join"
  | .str, .find => some "find"
  | .str, .countT => some "count"
  | .lst, .append => some "append"
  | .lst, .extend => some "extend"
  | .lst, .pop => some "pop"
  | .lst, .insert => some "insert"
  | _, _ => none
section
variable {W : Wd} {G : Gam} {S0 : Sw} {X : Cx} {u : IE → DTE} {es : IEs}
theorem bm_any (hK : X.K = W.T.K) {g : Tg} {o : DOp} {name : Str} {apos pos : Pos} {id : String} {a : Expr} {as : List Expr} {t : DTE} {r : V → List V → Hp → VK → Prop} (pa : PlainAttrs (tgN g)) (slot : Slot (tgN g) name id) (hty : typeOf (.builtin id) = pure (.type "method_descriptor")) (hm : MtR X id r)
    (hs : Serves W.T (rm r) o) (h : PE X a (lE W.T S0 t)) (hl : PL X W.T S0 u as es) (hb : nBase a = true) (hp : (apos.endLine == pos.line) = true) (hn : as.length < 20) : PE X (.Call (.Attribute a name apos) as [] pos) (lE W.T S0 (dMeth g o t (wEs u es))) := by
  cases as with
  | nil => cases hl; exact snd_bm0 hK pa slot hty hm hs h hb hp
  | cons b as => exact snd_bm hK pa slot hty hm hs h hl hb hp (by rw [List.length_cons] at hn; omega)
theorem met_ok (XO : XOk W G X) {g : Tg} {o : Op} {name : Str} {apos pos : Pos} {a : Expr} {as : List Expr} {t : DTE} (hm : metS g o = some name) (h : PE X a (lE W.T S0 t)) (hl : PL X W.T S0 u as es) (hb : nBase a = true) (hp : (apos.endLine == pos.line) = true) (hn : as.length < 20) :
    PE X (.Call (.Attribute a name apos) as [] pos) (lE W.T S0 (dMeth g (dop W.T o) t (wEs u es))) := by
  have hK := XO.hK
  unfold metS at hm
  split at hm <;> first | (cases hm; done) | skip
  all_goals cases hm
  · exact bm_any hK F.plainAttrs_str F.slot_str_split F.type_str_split mt_split serves_split h hl hb hp hn
  · exact bm_any hK F.plainAttrs_str F.slot_str_partition F.type_str_partition mt_partition serves_part h hl hb hp hn
  · exact bm_any hK F.plainAttrs_str F.slot_str_join F.type_str_join mt_join (serves_join hK) h hl hb hp hn
  · exact bm_any hK F.plainAttrs_str F.slot_str_find F.type_str_find mt_find serves_find h hl hb hp hn
  · exact bm_any hK F.plainAttrs_str F.slot_str_count F.type_str_count mt_count serves_countT h hl hb hp hn
  · exact bm_any hK F.plainAttrs_list F.slot_list_append F.type_list_append mt_append serves_append h hl hb hp hn
  · exact bm_any hK F.plainAttrs_list F.slot_list_extend F.type_list_extend mt_extend serves_extend h hl hb hp hn
  · exact bm_any hK F.plainAttrs_list F.slot_list_pop F.type_list_pop mt_pop serves_pop h hl hb hp hn
  · exact bm_any hK F.plainAttrs_list F.slot_list_insert F.type_list_insert mt_insert serves_insert h hl hb hp hn
end
/-! ### the comparison of the two readings -/
theorem wEs_eq {T : Tb} {P : Pg} {G : Gam} : ∀ es : IEs, wEs (wpE T P G) es = wpEs T P G es
  | .nil => by funext ds hd Q; simp only [wEs, wpEs, dNil]
  | .cons b e r => by
    unfold wEs
    rw [wEs_eq r]
    funext ds hd Q
    show _ = wpEs T P G (.cons b e r) ds hd Q
    conv => rhs; unfold wpEs
    rfl
theorem wSt_eq {T : Tb} {P : Pg} {G : Gam} : ∀ es : ISt, wSt (wpE T P G) es = wpSt T P G es
  | .nil => by funext ds hd Q; simp only [wSt, wpSt, dNil]
  | .one e r => by
    unfold wSt
    rw [wSt_eq r]
    funext ds hd Q
    conv => rhs; unfold wpSt
  | .all e r => by
    unfold wSt
    rw [wSt_eq r]
    funext ds hd Q
    (conv => rhs; unfold wpSt) <;> rfl
def litB (d : D) (c : Const) : Bool := match d, c with
  | .non, .none => true
  | .bl a, .bool b => a == b
  | .int i, .int j => i == j
  | .str x, .str s => s == st x && decide (x.length ≤ 16777216) && x.all fun c => decide (c < 1114112)
  | _, _ => false
theorem snd_lit {T : Tb} {P : Pg} {G : Gam} {S0 : Sw} {X : Cx} {d : D} {c : Const} {j : Nat} {pos : Pos} (h : litB d c = true) : PE X (.Constant c j pos) (lE T S0 (wpE T P G (.lit d))) := by
  have key : ∀ v : V, (∀ S : Sw, rep T S.fz S.hp d v) → ∀ (σ : L2.St) (H : Hp) (Q : VK), lE T S0 (wpE T P G (.lit d)) σ H Q → tC v σ H Q := fun v hv σ H Q ⟨S, ds, eh, A, Qd, ht, k⟩ => by
    subst eh
    exact k (.v d) S v (Stp.refl S) A.rh (hv S) ht
  unfold litB at h
  split at h
  · exact pe_imp pe_non (key .non fun S => mk_non)
  · rename_i a b; rw [← eq_of_beq h]; exact pe_imp pe_bl (key (.bl a) fun S => mk_bl)
  · rename_i a b; rw [← eq_of_beq h]; exact pe_imp pe_int (key (.int a) fun S => mk_int)
  · rename_i x s
    simp only [Bool.and_eq_true, decide_eq_true_eq] at h
    rw [eq_of_beq h.1.1]
    exact pe_imp pe_str (key (.str (st x)) fun S => mk_str h.1.2 fun c hc => of_decide_eq_true (List.all_eq_true.mp h.2 c hc))
  · cases h
theorem snd_var {T : Tb} {P : Pg} {G : Gam} {S0 : Sw} {X : Cx} {i : Nat} {x : Str} {pos : Pos} (hN : X.N[i]? = some x) (hv : visB X.env.scope x = true) (hp : plainN x = true) : PE X (.Name x pos) (lE T S0 (wpE T P G (.var i))) :=
  pe_imp (pe_var hN (vis_of hv) (plain1 hp) (plain2 hp)) fun σ H Q ⟨S, ds, eh, A, Qd, ht, k⟩ => by
    subst eh
    unfold wpE at ht
    split at ht
    · rename_i d e
      obtain ⟨v, e1, r⟩ := A.rs.at_ i d e
      exact ⟨v, e1, k (.v d) S v (Stp.refl S) A.rh r ht⟩
    · exact ht.elim
theorem snd_glob {W : Wd} {G : Gam} {S0 : Sw} {X : Cx} (XO : XOk W G X) {n : Nat} {pos : Pos} (hg : glB X.env.scope (W.gname n) = true) (hp : plainN (W.gname n) = true) : PE X (.Name (W.gname n) pos) (lE W.T S0 (wpE W.T W.P G (.glob n))) := by
  refine ⟨fun pins s σ H Q I h => ?_⟩
  obtain ⟨S, ds, eh, A, Qd, ht, k⟩ := h
  subst eh
  unfold wpE at ht
  split at ht
  · rename_i d e
    obtain ⟨v, u, hm, rv, hr⟩ := XO.cst n d e
    exact ld_glob I (gl_of hg) hm ⟨v, S.hp, I, rv, k (.v d) S v (Stp.refl S) A.rh (hr S) ht⟩ (plain1 hp)
  · exact ht.elim
def locB (fl : Bool) (sc : Scope) (x : Str) : Bool := sc.names.lookup x == some .local || (fl && sc.names.lookup x == some .cell)
def ixB (N : List Str) (i : Nat) (x : Str) : Bool := N[i]? == some x
def tgsB (fl : Bool) (N : List Str) (sc : Scope) : List Nat → List Expr → Bool
  | [], [] => true
  | i :: is, .Name x _ :: ts => ixB N i x && locB fl sc x && tgsB fl N sc is ts
  | _, _ => false
def tgB (fl : Bool) (N : List Str) (sc : Scope) : IG → Expr → Bool
  | .nm i, .Name x _ => ixB N i x && locB fl sc x
  | .tp is, .Tuple ts _ _ => tgsB fl N sc is ts
  | _, _ => false
theorem loc_of {X : Cx} {fl : Bool} {x : Str} (hfl : fl = true → ∀ x, X.fn x = true) (h : locB fl X.env.scope x = true) : Loc X.env.scope x ∧ (X.fn x = true ∨ X.env.scope.names.lookup x = some .local) := by
  unfold locB at h
  simp only [Bool.or_eq_true, Bool.and_eq_true] at h
  rcases h with h | ⟨h1, h⟩
  · exact ⟨.inl (eq_of_beq h), .inr (eq_of_beq h)⟩
  · exact ⟨.inr (eq_of_beq h), .inl (hfl h1 x)⟩
theorem tgs_ok {X : Cx} {fl : Bool} (hfl : fl = true → ∀ x, X.fn x = true) (hN : X.N.Nodup) : ∀ {is : List Nat} {ts : List Expr}, tgsB fl X.N X.env.scope is ts = true → PGs X ts (gNames is) ∧ (assignEach ts X.env).length = is.length ∧ (assignEach ts X.env).findIdx? (·.1) = none
  | [], [], _ => ⟨pgs_nil, rfl, rfl⟩
  | [], _ :: _, h => by cases h
  | i :: is, [], h => by cases h
  | i :: is, t :: ts, h => by
    cases t with
    | Name x p =>
      simp only [tgsB, Bool.and_eq_true] at h
      obtain ⟨⟨h1, h2⟩, h3⟩ := h
      obtain ⟨a1, a2, a3⟩ := tgs_ok hfl hN h3
      obtain ⟨l1, l2⟩ := loc_of hfl h2
      refine ⟨pgs_cons (pg_name hN (eq_of_beq h1) l1 l2) a1 rfl, ?_, ?_⟩
      · show (assignEach ts X.env).length + 1 = _; rw [a2]; rfl
      · show List.findIdx? _ ((false, _) :: assignEach ts X.env) = none
        rw [List.findIdx?_cons]
        simp [a3]
    | _ => cases h
theorem tg_ok {T : Tb} {X : Cx} {fl : Bool} (hK : X.K = T.K) (hc : X.calm = true) (hfl : fl = true → ∀ x, X.fn x = true) (hN : X.N.Nodup) {g : IG} {t : Expr} (h : tgB fl X.N X.env.scope g t = true) : PG X t (gV T g) := by
  unfold tgB at h
  split at h
  · simp only [Bool.and_eq_true] at h
    obtain ⟨l1, l2⟩ := loc_of hfl h.2
    exact pg_name hN (eq_of_beq h.1) l1 l2
  · obtain ⟨a1, a2, a3⟩ := tgs_ok hfl hN h
    unfold gV
    rw [← hK]
    exact pg_or (pg_tup hc a1 a2 a3) (pg_unl hc a1 a2 a3)
  · cases h
def relabelB (sc scope : Scope) : Scope := { scope with names := scope.names.map fun (n, k) => if (k == .free && sc.kind == .function && sc.names.lookup n == some .cell) then (n, .cell) else (n, k) }
def uniqB : List (Str × NameKind) → List (Str × NameKind) → Bool
  | all, [] => true
  | all, y :: r => (all.lookup y.1 == some y.2) && uniqB all r
def ownB (N : List Str) (own : List Nat) : List (Str × Nat) := own.map fun i => ((N[i]?).getD ⟨#[]⟩, i)
def blkB (N : List Str) (sc scope : Scope) (own : List Nat) : Bool :=
  decide (scope.kind = .function) && (scope.names.all fun y => scope.names.lookup y.1 == some y.2) && (own.all fun i => decide (i < N.length)) &&
  (scope.names.all fun y => !(y.2 == .free) || sc.names.lookup y.1 == some .cell || sc.names.lookup y.1 == some .free) &&
  (scope.names.all fun y => !(y.2 == .local || y.2 == .cell) || ((ownB N own).map (·.1)).contains y.1 || !(N.contains y.1))
theorem blk_of {N : List Str} {sc scope : Scope} {own : List Nat} (h : blkB N sc scope own = true) : BlkOk N sc scope (ownB N own) ∧ (ownB N own).map (·.2) = own := by
  unfold blkB at h
  simp only [Bool.and_eq_true, List.all_eq_true, decide_eq_true_eq] at h
  obtain ⟨⟨⟨⟨h1, h2⟩, h3⟩, h4⟩, h5⟩ := h
  refine ⟨⟨h1, fun y hy => eq_of_beq (h2 y hy), fun p hp => ?_, fun y hy e => ?_, fun y hy e => ?_⟩, ?_⟩
  · unfold ownB at hp
    obtain ⟨i, hi, rfl⟩ := List.mem_map.mp hp
    have := h3 i hi
    simp [List.getElem?_eq_getElem this]
  · have := h4 y hy
    simp only [e, Bool.or_eq_true] at this
    rcases this with (z | z) | z
    · simp at z
    · exact .inl (eq_of_beq z)
    · exact .inr (eq_of_beq z)
  · have := h5 y hy
    simp only [Bool.or_eq_true] at this
    rcases this with (z | z) | z
    · rcases e with e | e <;> simp [e] at z
    · exact .inl (by simpa using z)
    · exact .inr (by simpa using z)
  · unfold ownB
    rw [List.map_map]
    exact List.map_id _
end DL
set_option Elab.async false
set_option linter.all false
set_option maxRecDepth 100000
set_option maxHeartbeats 4000000
namespace DL
open PySem PySem.Spec PyProof.Rows L2
def cmpS (o : Op) (p : CmpOp) : Bool := match o, p with
  | .lt, .Lt => true
  | .le, .LtE => true
  | .gt, .Gt => true
  | .ge, .GtE => true
  | _, _ => false
def isCmpO : Op → Bool
  | .lt => true | .le => true | .gt => true | .ge => true | .eq => true | .ne => true | .inn => true | .notin => true | .isN => true | .notN => true
  | _ => false
/-- a test whose truth is its value's -/
def plainT : Expr → Bool
  | .Call _ _ _ _ => true
  | .Name _ _ => true
  | .Attribute _ _ _ => true
  | .Subscript _ _ _ => true
  | .Constant _ _ _ => true
  | _ => false
theorem plainT_of {e : Expr} {env : Env} (h : plainT e = true) : ∀ whole, isTrue e env whole = (do let v ← whole; standAt e.pos; holding [v] (truthy v)) := by
  cases e <;> first | (intro _; rfl) | cases h
def notSet : Expr → Bool
  | .Set _ _ _ => false
  | _ => true
theorem notSet_of {e : Expr} {env : Env} (h : notSet e = true) : ∀ x, foldedSetIterable e env x = pure x := by
  cases e <;> first | (intro _; rfl) | cases h
section
variable (W : Wd) (N : List Str)
mutual
def chkE : Scope → IE → Expr → Bool
  | sc, .var i, e => match e with
    | .Name x _ => ixB N i x && visB sc x && plainN x
    | _ => false
  | sc, .lit d, e => match e with
    | .Constant c _ _ => litB d c
    | _ => false
  | sc, .glob n, e => match e with
    | .Name x _ => x == W.gname n && glB sc (W.gname n) && plainN (W.gname n)
    | _ => false
  | sc, .op o es, e => match opS W sc o e with
    | some as => chkEs sc es as
    | none => false
  | sc, .meth g o r es, e => match e with
    | .Call (.Attribute a name apos) as [] pos => decide (as.length < 20) && nBase a && (apos.endLine == pos.line) && chkE sc r a && chkEs sc es as && (metS g o == some name || (g == .dic && o == .get2 && name == ("get" : Str) && as.length == 2))
    | _ => false
  | sc, .andv x y, e => match e with
    | .BoolOp .And [a, b] _ => chkE sc x a && chkE sc y b
    | .BoolOp .And (a :: b :: c :: r) pos => chkE sc x a && chkE sc y (.BoolOp .And (b :: c :: r) pos)
    | _ => false
  | sc, .orv x y, e => match e with
    | .BoolOp .Or [a, b] _ => chkE sc x a && chkE sc y b
    | .BoolOp .Or (a :: b :: c :: r) pos => chkE sc x a && chkE sc y (.BoolOp .Or (b :: c :: r) pos)
    | _ => false
  | sc, .tst t, e => match t, e with
    | .not (.val x), .UnaryOp .Not a _ => chkE sc x a
    | _, _ => false
  | sc, .ife t x y, e => match e with
    | .IfExp c a b _ => chkT sc t c && chkE sc x a && chkE sc y b
    | _ => false
  | sc, .chain o o2 x y z, e => match e with
    | .Compare a [p, q] [b, c] _ => cmpS o p && cmpS o2 q && !lastMarks [p, q] [b, c] && chkE sc x a && chkE sc y b && chkE sc z c
    | _ => false
  | sc, .call f es, e => match e with
    | .Call (.Name x _) as [] _ => x == W.fname f && W.gf f && glB sc (W.fname f) && plainN (W.fname f) && chkEs sc es as
    | _ => false
  | sc, .ucall m r es, e => match e with
    | .Call (.Attribute a name apos) as [] pos => name == W.T.sym m && decide (as.length < 20) && nBase a && (apos.endLine == pos.line) && chkE sc r a && chkEs sc es as
    | _ => false
  | sc, .prop m r, e => match e with
    | .Attribute a name _ => name == W.T.sym m && nBase a && chkE sc r a
    | _ => false
  | sc, .make _ c es, e => match e with
    | .Call (.Name x _) as [] _ => x == W.cname c && W.gc c && glB sc (W.cname c) && plainN (W.cname c) && chkEs sc es as && (W.P.ini c).isSome
    | _ => false
  | sc, .comp x g it own, e => match e with
    | .ListComp elt [⟨tg, iter, [], 0⟩] scope _ => blkB N sc scope own && tgB false N (relabelB sc scope) g tg && (gIx g).all own.contains && notSet iter && chkI sc it tg iter && chkE (relabelB sc scope) x elt
    | _ => false
  | sc, .compIf x g it t own, e => match e with
    | .ListComp elt [⟨tg, iter, [c], 0⟩] scope _ => blkB N sc scope own && tgB false N (relabelB sc scope) g tg && (gIx g).all own.contains && notSet iter && chkI sc it tg iter && chkE (relabelB sc scope) x elt && chkT (relabelB sc scope) t c
    | _ => false
  | sc, .star l es, e => match l, e with
    | true, .List as _ => chkSt sc es as
    | false, .Tuple as _ _ => chkSt sc es as
    | _, _ => false
  | sc, .rel x, e => chkE sc x e
  | sc, .compD x g d own, e => match e with
    | .ListComp elt [⟨tg, iter, [], 0⟩] scope _ => blkB N sc scope own && tgB false N (relabelB sc scope) g tg && (gIx g).all own.contains && notSet iter && chkE sc d iter && chkE (relabelB sc scope) x elt
    | _ => false
def chkT : Scope → IT → Expr → Bool
  | sc, .val x, e => plainT e && chkE sc x e
  | sc, .op o es, e => isCmpO o && match opS W sc o e with
    | some as => chkEs sc es as
    | none => false
  | sc, .chain o o2 x y z, e => match e with
    | .Compare a [p, q] [b, c] _ => cmpS o p && cmpS o2 q && !lastMarks [p, q] [b, c] && chkE sc x a && chkE sc y b && chkE sc z c
    | _ => false
  | sc, .and x y, e => match e with
    | .BoolOp .And [a, b] _ => chkT sc x a && chkT sc y b
    | .BoolOp .And (a :: b :: c :: r) pos => chkT sc x a && chkT sc y (.BoolOp .And (b :: c :: r) pos)
    | _ => false
  | sc, .or x y, e => match e with
    | .BoolOp .Or [a, b] _ => chkT sc x a && chkT sc y b
    | .BoolOp .Or (a :: b :: c :: r) pos => chkT sc x a && chkT sc y (.BoolOp .Or (b :: c :: r) pos)
    | _ => false
  | sc, .not x, e => match e with
    | .UnaryOp .Not a _ => chkT sc x a
    | _ => false
def chkEs : Scope → IEs → List Expr → Bool
  | sc, .nil, as => as.isEmpty
  | sc, .cons _ x r, as => match as with
    | a :: as => noStar a && chkE sc x a && chkEs sc r as
    | [] => false
def chkSt : Scope → ISt → List Expr → Bool
  | sc, .nil, as => as.isEmpty
  | sc, .one x r, as => match as with
    | a :: as => noStar a && chkE sc x a && chkSt sc r as
    | [] => false
  | sc, .all x r, as => match as with
    | .Starred a _ :: as => chkE sc x a && chkSt sc r as
    | _ => false
def chkI : Scope → II → Expr → Expr → Bool
  | sc, .val x, _, e => chkE sc x e
  | sc, .rng1 x, _, e => match e with
    | .Call (.Name f _) [a] [] _ => f == ("range" : Str) && glB sc "range" && noStar a && chkE sc x a
    | _ => false
  | sc, .rng2 x y, _, e => match e with
    | .Call (.Name f _) [a, b] [] _ => f == ("range" : Str) && glB sc "range" && noStar a && noStar b && chkE sc x a && chkE sc y b
    | _ => false
  | sc, .enum x, tg, e => match tg, e with
    | .Tuple _ _ _, .Call (.Name f _) [a] [] _ => f == ("enumerate" : Str) && glB sc "enumerate" && noStar a && chkE sc x a
    | _, _ => false
  | _, .items _, _, _ => false
end
end
theorem cmpS_ok {T : Tb} {X : Cx} {o : Op} {p : CmpOp} (h : cmpS o p = true) : ∃ r, OpR X (compareOp p) r ∧ Serves T (r2 r) (dop T o) := by
  unfold cmpS at h
  split at h
  · exact ⟨_, op_lt, serves_cmp⟩
  · exact ⟨_, op_le, serves_cmp⟩
  · exact ⟨_, op_gt, serves_cmp⟩
  · exact ⟨_, op_ge, serves_cmp⟩
  · cases h
theorem tcmp_ok {W : Wd} {G : Gam} {S0 : Sw} {X : Cx} {u : IE → DTE} {es : IEs} (XO : XOk W G X) {o : Op} {e : Expr} {as : List Expr} (hc : isCmpO o = true) (h : opS W X.env.scope o e = some as) (hl : PL X W.T S0 u as es) : PT X e (lT W.T S0 (dBl (dApp (dop W.T o) (wEs u es)))) := by
  have hK := XO.hK
  have hu := XO.hu
  cases o with
  | lt => obtain ⟨a, b, pos, rfl, rfl, m⟩ := cmp_ok h; exact snd_tcmp op_lt serves_cmp m hl
  | le => obtain ⟨a, b, pos, rfl, rfl, m⟩ := cmp_ok h; exact snd_tcmp op_le serves_cmp m hl
  | gt => obtain ⟨a, b, pos, rfl, rfl, m⟩ := cmp_ok h; exact snd_tcmp op_gt serves_cmp m hl
  | ge => obtain ⟨a, b, pos, rfl, rfl, m⟩ := cmp_ok h; exact snd_tcmp op_ge serves_cmp m hl
  | eq => obtain ⟨a, b, pos, rfl, rfl, m⟩ := cmp_ok h; exact snd_tcmp (op_eqD (by omega)) (serves_eq hK) m hl
  | ne => obtain ⟨a, b, pos, rfl, rfl, m⟩ := cmp_ok h; exact snd_tcmp (op_neD (by omega)) (serves_ne hK) m hl
  | inn => obtain ⟨a, b, pos, rfl, rfl, m⟩ := cmp_ok h; exact snd_tcmp (ox_in (by omega)) (serves_in hK false) m hl
  | notin => obtain ⟨a, b, pos, rfl, rfl, m⟩ := cmp_ok h; exact snd_tcmp (ox_notin (by omega)) (serves_in hK true) m hl
  | isN => obtain ⟨a, j, p, pos, rfl, rfl⟩ := isn_ok h; exact snd_tisN hl
  | notN => obtain ⟨a, j, p, pos, rfl, rfl⟩ := isn_ok h; exact snd_tnotN hl
  | _ => cases hc
def isBool : Expr → Bool
  | .BoolOp _ _ _ => true
  | _ => false
theorem castE {T : Tb} {S0 : Sw} {X : Cx} {x : Expr} {t t' : DTL} (f : DTL → DTE) (e : t = t') (h : PE X x (lE T S0 (f t))) : PE X x (lE T S0 (f t')) := e ▸ h
section
variable {W : Wd} {N : List Str} {G : Gam} {S0 : Sw}
mutual
theorem sndE : ∀ (i : IE) {X : Cx} (XO : XOk W G X) (hN : X.N = N) {e : Expr}, chkE W N X.env.scope i e = true → PE X e (lE W.T S0 (wpE W.T W.P G i))
  | .var i, X, XO, hN, e, h => by
    unfold chkE at h
    split at h
    · simp only [Bool.and_eq_true] at h
      exact snd_var (by rw [hN]; exact eq_of_beq h.1.1) h.1.2 h.2
    · cases h
  | .lit d, X, XO, hN, e, h => by
    unfold chkE at h
    split at h
    · exact snd_lit h
    · cases h
  | .glob n, X, XO, hN, e, h => by
    unfold chkE at h
    split at h
    · simp only [Bool.and_eq_true] at h
      rw [eq_of_beq h.1.1]
      exact snd_glob XO h.1.2 h.2
    · cases h
  | .op o es, X, XO, hN, e, h => by
    unfold chkE at h
    split at h
    · rename_i as ea
      have := op_ok (S0 := S0) (u := wpE W.T W.P G) XO ea (sndEs es XO hN h)
      rw [wEs_eq] at this
      exact this
    · cases h
  | .meth g o r es, X, XO, hN, e, h => by
    unfold chkE at h
    split at h
    · simp only [Bool.and_eq_true, Bool.or_eq_true, decide_eq_true_eq] at h
      obtain ⟨⟨⟨⟨⟨h1, h2⟩, h3⟩, h4⟩, h5⟩, h6⟩ := h
      have hr := sndE r XO hN h4
      have hes := sndEs es XO hN h5
      rcases h6 with h6 | ⟨⟨⟨g1, g2⟩, g3⟩, g4⟩
      · have := met_ok (S0 := S0) (u := wpE W.T W.P G) XO (eq_of_beq h6) hr hes h2 h3 h1
        rw [wEs_eq] at this
        exact this
      · rw [eq_of_beq g3]
        have e1 := eq_of_beq g1
        have e2 := eq_of_beq g2
        subst e1 e2
        rename_i a name apos as pos
        match as, g4, hes with
        | [b, c], _, hes =>
          have := snd_get2 XO.hK (by have := XO.hu; omega) hr hes h2 h3
          rw [wEs_eq] at this
          exact this
    · cases h
  | .andv x y, X, XO, hN, e, h => by
    unfold chkE at h
    split at h
    · simp only [Bool.and_eq_true] at h
      exact snd_andv XO.hK (sndE x XO hN h.1) (pe_one (sndE y XO hN h.2))
    · simp only [Bool.and_eq_true] at h
      exact snd_andv XO.hK (sndE x XO hN h.1) (sndE y XO hN h.2)
    · cases h
  | .orv x y, X, XO, hN, e, h => by
    unfold chkE at h
    split at h
    · simp only [Bool.and_eq_true] at h
      exact snd_orv XO.hK (sndE x XO hN h.1) (pe_one (sndE y XO hN h.2))
    · simp only [Bool.and_eq_true] at h
      exact snd_orv XO.hK (sndE x XO hN h.1) (sndE y XO hN h.2)
    · cases h
  | .tst (.not (.val x)), X, XO, hN, e, h => by
    unfold chkE at h
    split at h
    · rename_i x' a p e'
      cases e'
      exact snd_notv XO.hK (sndE x XO hN h)
    · cases h
  | .tst (.val _), X, XO, hN, e, h => by unfold chkE at h; cases h
  | .tst (.op _ _), X, XO, hN, e, h => by unfold chkE at h; cases h
  | .tst (.chain _ _ _ _ _), X, XO, hN, e, h => by unfold chkE at h; cases h
  | .tst (.and _ _), X, XO, hN, e, h => by unfold chkE at h; cases h
  | .tst (.or _ _), X, XO, hN, e, h => by unfold chkE at h; cases h
  | .tst (.not (.op _ _)), X, XO, hN, e, h => by unfold chkE at h; cases h
  | .tst (.not (.chain _ _ _ _ _)), X, XO, hN, e, h => by unfold chkE at h; cases h
  | .tst (.not (.and _ _)), X, XO, hN, e, h => by unfold chkE at h; cases h
  | .tst (.not (.or _ _)), X, XO, hN, e, h => by unfold chkE at h; cases h
  | .tst (.not (.not _)), X, XO, hN, e, h => by unfold chkE at h; cases h
  | .ife t x y, X, XO, hN, e, h => by
    unfold chkE at h
    split at h
    · simp only [Bool.and_eq_true] at h
      exact snd_ife (sndT t XO hN h.1.1).1 (sndE x XO hN h.1.2) (sndE y XO hN h.2)
    · cases h
  | .chain o o2 x y z, X, XO, hN, e, h => by
    unfold chkE at h
    split at h
    · simp only [Bool.and_eq_true, Bool.not_eq_true'] at h
      obtain ⟨⟨⟨⟨⟨h1, h2⟩, h3⟩, h4⟩, h5⟩, h6⟩ := h
      obtain ⟨r, a1, a2⟩ := cmpS_ok (T := W.T) (X := X) h1
      obtain ⟨r', b1, b2⟩ := cmpS_ok (T := W.T) (X := X) h2
      exact snd_chain a1 b1 a2 b2 (sndE x XO hN h4) (sndE y XO hN h5) (sndE z XO hN h6) h3
    · cases h
  | .call f es, X, XO, hN, e, h => by
    unfold chkE at h
    split at h
    · simp only [Bool.and_eq_true] at h
      obtain ⟨⟨⟨⟨h1, h2⟩, h3⟩, h4⟩, h5⟩ := h
      rw [eq_of_beq h1]
      obtain ⟨f1, f2, f3⟩ := XO.fn f h2
      exact castE (fun t => dApp (fun hd l Q => G f l hd Q) t) (wEs_eq es) (snd_call (S0 := S0) f3 (gl_of h3) f1 f2 (sndEs es XO hN h5) (plain1 h4))
    · cases h
  | .ucall m r es, X, XO, hN, e, h => by
    unfold chkE at h
    split at h
    · simp only [Bool.and_eq_true, decide_eq_true_eq] at h
      obtain ⟨⟨⟨⟨⟨h1, h2⟩, h3⟩, h4⟩, h5⟩, h6⟩ := h
      rw [eq_of_beq h1]
      exact castE (fun t => dUcall W.P.me G m (wpE W.T W.P G r) t) (wEs_eq es) (snd_ucall (S0 := S0) XO.tb (fun c f => XO.me c m f) (sndE r XO hN h5) (sndEs es XO hN h6) h3 h4 h2)
    · cases h
  | .prop m r, X, XO, hN, e, h => by
    unfold chkE at h
    split at h
    · simp only [Bool.and_eq_true] at h
      obtain ⟨⟨h1, h2⟩, h3⟩ := h
      rw [eq_of_beq h1]
      exact snd_prop (fun c f => XO.pr c m f) (sndE r XO hN h3) h2
    · cases h
  | .make sl c es, X, XO, hN, e, h => by
    unfold chkE at h
    split at h
    · simp only [Bool.and_eq_true] at h
      obtain ⟨⟨⟨⟨⟨h1, h2⟩, h3⟩, h4⟩, h5⟩, h6⟩ := h
      rw [eq_of_beq h1]
      obtain ⟨f, hf⟩ := Option.isSome_iff_exists.mp h6
      obtain ⟨m1, m2⟩ := XO.ini c f hf
      refine pe_imp (castE (fun t => dApp (dMake c (G f) sl) t) (wEs_eq es) (snd_make (S0 := S0) (shut := sl) m1 m2 (gl_of h3) (XO.cls c h2) (sndEs es XO hN h5) (plain1 h4))) fun σ H Q ⟨S, ds, eh, A, Qd, ht, k⟩ => ⟨S, ds, eh, A, Qd, ?_, k⟩
      unfold wpE at ht
      rw [hf] at ht
      exact ht
    · cases h
  | .comp x g it own, X, XO, hN, e, h => by
    unfold chkE at h
    split at h
    · rename_i elt tg iter scope pos
      simp only [Bool.and_eq_true] at h
      obtain ⟨⟨⟨⟨⟨h1, h2⟩, h3⟩, h4⟩, h5⟩, h6⟩ := h
      rw [← hN] at h1
      obtain ⟨b1, b2⟩ := blk_of h1
      have ho : ∀ i ∈ gIx g, i ∈ (ownB X.N own).map (·.2) := fun i hi => by
        rw [b2]; simpa using List.all_eq_true.mp h3 i hi
      have := snd_comp (S0 := S0) (T := W.T) (g := g) (tt := dYes) (te := wpE W.T W.P G x) (pos := pos) XO.calm XO.hN (sndI it XO hN h5) b1
        (fun s H C cl fp => tg_ok (X := X.blk s H scope (compEnvC scope cl C X.env) fp) (fl := false) XO.hK XO.calm (fun z => by cases z) XO.hN (by rw [← hN] at h2; exact h2))
        (fun s H C cl fp => ⟨fun p s σ H Q I q => pts_nil.run p s σ H Q I (lT_yes (Y := X) (own := []) q)⟩)
        (fun s H C cl fp => pe_frz (sndE x (XO.blk s H scope (compEnvC scope cl C X.env) fp) hN h6)) ho (notSet_of h4)
      rw [b2] at this
      exact this
    · cases h
  | .compD x g d own, X, XO, hN, e, h => by
    unfold chkE at h
    split at h
    · rename_i elt tg iter scope pos
      simp only [Bool.and_eq_true] at h
      obtain ⟨⟨⟨⟨⟨h1, h2⟩, h3⟩, h4⟩, h5⟩, h6⟩ := h
      rw [← hN] at h1
      obtain ⟨b1, b2⟩ := blk_of h1
      have ho : ∀ i ∈ gIx g, i ∈ (ownB X.N own).map (·.2) := fun i hi => by
        rw [b2]; simpa using List.all_eq_true.mp h3 i hi
      have := snd_compD (S0 := S0) (T := W.T) (g := g) (te := wpE W.T W.P G x) (pos := pos) XO.calm XO.hN (sndE d XO hN h5) b1
        (fun s H C cl fp => tg_ok (X := X.blk s H scope (compEnvC scope cl C X.env) fp) (fl := false) XO.hK XO.calm (fun z => by cases z) XO.hN (by rw [← hN] at h2; exact h2))
        (fun s H C cl fp => ⟨fun p s σ H Q I q => pts_nil.run p s σ H Q I (lT_yes (Y := X) (own := []) q)⟩)
        (fun s H C cl fp => pe_frz (sndE x (XO.blk s H scope (compEnvC scope cl C X.env) fp) hN h6)) ho (notSet_of h4)
      rw [b2] at this
      exact this
    · cases h
  | .compIf x g it t own, X, XO, hN, e, h => by
    unfold chkE at h
    split at h
    · rename_i elt tg iter c scope pos
      simp only [Bool.and_eq_true] at h
      obtain ⟨⟨⟨⟨⟨⟨h1, h2⟩, h3⟩, h4⟩, h5⟩, h6⟩, h7⟩ := h
      rw [← hN] at h1
      obtain ⟨b1, b2⟩ := blk_of h1
      have ho : ∀ i ∈ gIx g, i ∈ (ownB X.N own).map (·.2) := fun i hi => by
        rw [b2]; simpa using List.all_eq_true.mp h3 i hi
      have := snd_comp (S0 := S0) (T := W.T) (g := g) (tt := wpT W.T W.P G t) (te := wpE W.T W.P G x) (pos := pos) XO.calm XO.hN (sndI it XO hN h5) b1
        (fun s H C cl fp => tg_ok (X := X.blk s H scope (compEnvC scope cl C X.env) fp) (fl := false) XO.hK XO.calm (fun z => by cases z) XO.hN (by rw [← hN] at h2; exact h2))
        (fun s H C cl fp => pts_one (sndT t (XO.blk s H scope (compEnvC scope cl C X.env) fp) hN h7).1)
        (fun s H C cl fp => pe_frz (sndE x (XO.blk s H scope (compEnvC scope cl C X.env) fp) hN h6)) ho (notSet_of h4)
      rw [b2] at this
      exact this
    · cases h
  | .star l es, X, XO, hN, e, h => by
    unfold chkE at h
    split at h
    · have := snd_starL (S0 := S0) XO.hK (pos := ‹_›) (sndSt es XO hN h)
      rw [wSt_eq] at this
      exact this
    · have := snd_starT (S0 := S0) XO.hK (pos := ‹_›) (k := ‹_›) (sndSt es XO hN h)
      rw [wSt_eq] at this
      exact this
    · cases h
  | .rel x, X, XO, hN, e, h => by
    unfold chkE at h
    exact snd_rel (sndE x XO hN h)
theorem sndT : ∀ (i : IT) {X : Cx} (XO : XOk W G X) (hN : X.N = N) {e : Expr}, chkT W N X.env.scope i e = true → PT X e (lT W.T S0 (wpT W.T W.P G i)) ∧ (isBool e = true → PW X e (lT W.T S0 (wpT W.T W.P G i)))
  | .val x, X, XO, hN, e, h => by
    unfold chkT at h
    simp only [Bool.and_eq_true] at h
    exact ⟨snd_val XO.hK (sndE x XO hN h.2) (plainT_of h.1), fun z => by cases e <;> first | (cases z; done) | cases (show false = true from h.1)⟩
  | .op o es, X, XO, hN, e, h => by
    unfold chkT at h
    simp only [Bool.and_eq_true] at h
    obtain ⟨h0, h⟩ := h
    split at h
    · rename_i as ea
      have := tcmp_ok (S0 := S0) (u := wpE W.T W.P G) XO h0 ea (sndEs es XO hN h)
      rw [wEs_eq] at this
      refine ⟨this, fun z => ?_⟩
      cases e <;> first | (cases z; done) | skip
      cases o <;> first | (cases h0; done) | cases (show (none : Option (List Expr)) = some as from ea)
    · cases h
  | .chain o o2 x y z, X, XO, hN, e, h => by
    unfold chkT at h
    split at h
    · simp only [Bool.and_eq_true, Bool.not_eq_true'] at h
      obtain ⟨⟨⟨⟨⟨h1, h2⟩, h3⟩, h4⟩, h5⟩, h6⟩ := h
      obtain ⟨r, a1, a2⟩ := cmpS_ok (T := W.T) (X := X) h1
      obtain ⟨r', b1, b2⟩ := cmpS_ok (T := W.T) (X := X) h2
      refine ⟨pt_imp (snd_tchain a1 b1 a2 b2 (sndE x XO hN h4) (sndE y XO hN h5) (sndE z XO hN h6) h3) fun σ H Q ⟨S, ds, eh, A, Qd, ht, k⟩ => ⟨S, ds, eh, A, Qd, ?_, k⟩, fun z => by cases z⟩
      exact ht
    · cases h
  | .and x y, X, XO, hN, e, h => by
    unfold chkT at h
    split at h
    · simp only [Bool.and_eq_true] at h
      exact (fun q => ⟨PW.pt q, fun _ => q⟩) (snd_tand (sndT x XO hN h.1).1 (pw_and1 (sndT y XO hN h.2).1))
    · simp only [Bool.and_eq_true] at h
      exact (fun q => ⟨PW.pt q, fun _ => q⟩) (snd_tand (sndT x XO hN h.1).1 ((sndT y XO hN h.2).2 rfl))
    · cases h
  | .or x y, X, XO, hN, e, h => by
    unfold chkT at h
    split at h
    · simp only [Bool.and_eq_true] at h
      exact (fun q => ⟨PW.pt q, fun _ => q⟩) (snd_tor (sndT x XO hN h.1).1 (pw_or1 (sndT y XO hN h.2).1))
    · simp only [Bool.and_eq_true] at h
      exact (fun q => ⟨PW.pt q, fun _ => q⟩) (snd_tor (sndT x XO hN h.1).1 ((sndT y XO hN h.2).2 rfl))
    · cases h
  | .not x, X, XO, hN, e, h => by
    unfold chkT at h
    split at h
    · exact ⟨snd_tnot (sndT x XO hN h).1, fun z => by cases z⟩
    · cases h
theorem sndEs : ∀ (i : IEs) {X : Cx} (XO : XOk W G X) (hN : X.N = N) {as : List Expr}, chkEs W N X.env.scope i as = true → PL X W.T S0 (wpE W.T W.P G) as i
  | .nil, X, XO, hN, as, h => by
    unfold chkEs at h
    cases as with
    | nil => exact .nil
    | cons => cases h
  | .cons b x r, X, XO, hN, as, h => by
    unfold chkEs at h
    split at h
    · simp only [Bool.and_eq_true] at h
      exact .cons (sndE x XO hN h.1.2) (star_of h.1.1) (sndEs r XO hN h.2)
    · cases h
theorem sndSt : ∀ (i : ISt) {X : Cx} (XO : XOk W G X) (hN : X.N = N) {as : List Expr}, chkSt W N X.env.scope i as = true → PSt X W.T S0 (wpE W.T W.P G) as i
  | .nil, X, XO, hN, as, h => by
    unfold chkSt at h
    cases as with
    | nil => exact .nil
    | cons => cases h
  | .one x r, X, XO, hN, as, h => by
    unfold chkSt at h
    split at h
    · simp only [Bool.and_eq_true] at h
      exact .one (sndE x XO hN h.1.2) (star_of h.1.1) (sndSt r XO hN h.2)
    · cases h
  | .all x r, X, XO, hN, as, h => by
    unfold chkSt at h
    split at h
    · simp only [Bool.and_eq_true] at h
      exact .all (sndE x XO hN h.1) rfl (sndSt r XO hN h.2)
    · cases h
theorem sndI : ∀ (i : II) {X : Cx} (XO : XOk W G X) (hN : X.N = N) {tg e : Expr}, chkI W N X.env.scope i tg e = true → PI X tg e (lI W.T S0 (wpI W.T W.P G i))
  | .val x, X, XO, hN, tg, e, h => by
    unfold chkI at h
    exact snd_walk XO.hK (sndE x XO hN h)
  | .rng1 x, X, XO, hN, tg, e, h => by
    unfold chkI at h
    split at h
    · simp only [Bool.and_eq_true] at h
      obtain ⟨⟨⟨h1, h2⟩, h3⟩, h4⟩ := h
      rw [eq_of_beq h1]
      exact snd_rng1 (gl_of h2) (XO.blt _ (by decide +kernel)) h3 (sndE x XO hN h4)
    · cases h
  | .rng2 x y, X, XO, hN, tg, e, h => by
    unfold chkI at h
    split at h
    · simp only [Bool.and_eq_true] at h
      obtain ⟨⟨⟨⟨⟨h1, h2⟩, h3⟩, h4⟩, h5⟩, h6⟩ := h
      rw [eq_of_beq h1]
      exact snd_rng2 (gl_of h2) (XO.blt _ (by decide +kernel)) h3 h4 (sndE x XO hN h5) (sndE y XO hN h6)
    · cases h
  | .enum x, X, XO, hN, tg, e, h => by
    unfold chkI at h
    split at h
    · simp only [Bool.and_eq_true] at h
      obtain ⟨⟨⟨h1, h2⟩, h3⟩, h4⟩ := h
      rw [eq_of_beq h1]
      exact snd_enum XO.hK (gl_of h2) (XO.blt _ (by decide +kernel)) h3 (sndE x XO hN h4)
    · cases h
  | .items x, X, XO, hN, tg, e, h => by
    unfold chkI at h
    cases h
end
end
end DL
set_option Elab.async false
set_option linter.all false
set_option maxRecDepth 100000
set_option maxHeartbeats 4000000
namespace DL
open PySem PySem.Spec PyProof.Rows L2
/-! ### the order of stores -/
def isStar : Expr → Bool
  | .Starred _ _ => true
  | _ => false
theorem star_any (vs : List Expr) : (vs.any fun | .Starred .. => true | _ => false) = vs.any isStar := rfl
section
variable {env : Env} {x y z : Str} {px py pz pt pt2 : Pos} {kt k2 : Nat} {a b c : Expr}
theorem sw2 (hk : env.scope.kind = .function) (hx : env.scope.names.lookup x = some .local) (hy : env.scope.names.lookup y = some .local) (hl : (py.line == px.line) = true) (hxy : (x == y) = false)
    (hs : [a, b].any isStar = false) (hf : [a, b].all (foldedForSure 8) = false) (hc : [a, b].all (constantsAlone 8) = false) :
    swappedStores [.Tuple [.Name x px, .Name y py] kt pt] (.Tuple [a, b] k2 pt2) env = pure (some [x, y]) := by
  have hb : env.blockKind = .function := by unfold Env.blockKind; rw [hk]; rfl
  have kx : env.kindOf x = some .local := hx
  have ky : env.kindOf y = some .local := hy
  have hs' : ([a, b].any fun | .Starred .. => true | _ => false) = false := hs
  have hyx : (y == x) = false := by
    cases e : y == x with
    | false => rfl
    | true => rw [eq_of_beq e] at hxy; simp at hxy
  have ed : ([x, y] : List Str).eraseDups = [x, y] := by
    simp [List.eraseDups_cons, hyx]
  unfold swappedStores
  simp only [List.length_cons, List.length_nil, hb, hs', hf, hc, List.filterMap_cons, List.filterMap_nil, kx, ky, List.head?_cons, Option.map_some, Option.getD_some, Expr.pos, hl, beq_self_eq_true, Bool.and_self, if_true, ed]
  refine Eq.trans (if_neg (by decide)) ?_
  refine Eq.trans (if_neg (fun e => ?_)) ?_
  · exact absurd (hs.symm.trans e) (by decide)
  refine Eq.trans (if_neg (by decide)) ?_
  rfl
theorem sw3 (hk : env.scope.kind = .function) (hx : env.scope.names.lookup x = some .local) (hy : env.scope.names.lookup y = some .local) (hz : env.scope.names.lookup z = some .local) (hl : (py.line == px.line) = true) (hl2 : (pz.line == px.line) = true) (hxy : (x == y) = false) (hxz : (x == z) = false) (hyz : (y == z) = false)
    (hs : [a, b, c].any isStar = false) (hf : [a, b, c].all (foldedForSure 8) = false) (hc : [a, b, c].all (constantsAlone 8) = false) :
    swappedStores [.Tuple [.Name x px, .Name y py, .Name z pz] kt pt] (.Tuple [a, b, c] k2 pt2) env = pure (some [x, y, z]) := by
  have hb : env.blockKind = .function := by unfold Env.blockKind; rw [hk]; rfl
  have kx : env.kindOf x = some .local := hx
  have ky : env.kindOf y = some .local := hy
  have kz : env.kindOf z = some .local := hz
  have hs' : ([a, b, c].any fun | .Starred .. => true | _ => false) = false := hs
  have sym : ∀ {u v : Str}, (u == v) = false → (v == u) = false := fun {u v} h => by
    cases e : v == u with
    | false => rfl
    | true => rw [eq_of_beq e] at h; simp at h
  have ed : ([x, y, z] : List Str).eraseDups = [x, y, z] := by
    simp [List.eraseDups_cons, sym hxy, sym hxz, sym hyz]
  unfold swappedStores
  simp only [List.length_cons, List.length_nil, hb, hs', hf, hc, List.filterMap_cons, List.filterMap_nil, kx, ky, kz, List.head?_cons, Option.map_some, Option.getD_some, Expr.pos, hl, hl2, beq_self_eq_true, Bool.and_self, if_true, ed]
  refine Eq.trans (if_neg (by decide)) ?_
  refine Eq.trans (if_neg (fun e => ?_)) ?_
  · exact absurd (hs.symm.trans e) (by decide)
  refine Eq.trans (if_neg (by decide)) ?_
  rfl
/-- the value is not used by the statement's own line -/
def swB (sc : Scope) (tg v : Expr) : Bool := match v with
  | .ListComp _ _ s p => match tg with
    | .Name t tp => sc.names.lookup t == some .local && (tp.line == p.line) && !(s.names.any fun (n, k) => n == t && (k == .local || k == .cell))
    | _ => false
  | _ => false
def noCompB : Expr → Bool
  | .SetComp _ _ _ _ => false
  | .DictComp _ _ _ _ _ => false
  | _ => true
def notLC : Expr → Bool
  | .ListComp _ _ _ _ => false
  | _ => true
theorem sw_no {l : Nat} (hk : env.scope.kind = .function) {tg v : Expr} (h : swB env.scope tg v = false) (h2 : noCompB v = true) : swapsWith v (some tg) l env = pure false := by
  cases v with
  | ListComp elt gs s p =>
    cases tg with
    | Name t tp =>
      have hb : env.blockKind = .function := by unfold Env.blockKind; rw [hk]; rfl
      have h' : ((env.kindOf t == some .local) && (tp.line == p.line) && !(s.names.any fun (n, k) => n == t && (k == .local || k == .cell))) = false := h
      unfold swapsWith
      simp only [hb, Expr.pos]
      have : ((ScopeKind.function == ScopeKind.function) && (env.kindOf t == some .local) && (tp.line == p.line) && !(s.names.any fun (n, k) => n == t && (k == .local || k == .cell))) = false := by
        rw [← h']; rfl
      simp only [Bind.bind, this]
    | _ => rfl
  | SetComp _ _ _ _ => cases h2
  | DictComp _ _ _ _ _ => cases h2
  | _ => rfl
theorem sw_yes {l : Nat} (hk : env.scope.kind = .function) {t : Str} {tp p : Pos} {elt : Expr} {gs : List Comprehension} {s : Scope} (h : swB env.scope (.Name t tp) (.ListComp elt gs s p) = true) : swapsWith (.ListComp elt gs s p) (some (.Name t tp)) l env = pure true := by
  simp only [swB, Bool.and_eq_true, Bool.not_eq_true'] at h
  exact sw_true hk (eq_of_beq h.1.1) h.1.2 h.2
def noStarE : Expr → Bool := noStar
def storeB (tg v : Expr) : Bool := match tg, v with
  | .Tuple ts _ _, .Tuple _ _ _ => !(ts.length == 2 || ts.length == 3)
  | .List _ _, _ => false
  | _, _ => true
theorem store_of {tg v : Expr} (h : storeB tg v = true) : swappedStores [tg] v env = pure none := by
  cases tg with
  | Tuple ts k p =>
    cases v with
    | Tuple vs k2 p2 =>
      simp only [storeB, Bool.not_eq_true'] at h
      unfold swappedStores
      simp only [h]
      rfl
    | _ => rfl
  | List _ _ => cases h
  | _ => rfl
theorem asg1_of {tg : Expr} (h : noStar tg = true) : (assignEach [tg] env).map (·.2) = [assign tg env] := by
  cases tg <;> first | rfl | cases h
end
theorem sole_of {env : Env} {tg v : Expr} {l : Nat} (h : swapsWith v (some tg) l env = pure false) : swapsWithSole [tg] v l env = pure false := h
/-! ### statements, compared -/
section
variable (W : Wd) (N : List Str)
def chkG (sc : Scope) : IGt → Expr → Bool
  | .nm i, .Name x _ => ixB N i x && locB true sc x
  | .at_ o f, .Attribute oe x _ => x == W.T.sym f && chkE W N sc o oe
  | .sub o i, .Subscript oe ie _ => plainIx ie && chkE W N sc o oe && chkE W N sc i ie
  | _, _ => false
def chkGs (sc : Scope) : List IGt → List Expr → Bool
  | [], [] => true
  | g :: gs, t :: ts => noStar t && chkG W N sc g t && chkGs sc gs ts
  | _, _ => false
def isComp : IE → Bool
  | .comp _ _ _ _ => true
  | .compIf _ _ _ _ _ => true
  | _ => false
def parB (sc : Scope) : List Nat → List Expr → List Expr → Bool
  | [i, j], [.Name x px, .Name y py], [a, b] => ixB N i x && ixB N j y && decide (i ≠ j) && (sc.names.lookup x == some .local) && (sc.names.lookup y == some .local) && (py.line == px.line) && !(x == y) &&
      ![a, b].any isStar && ![a, b].all (foldedForSure 8) && ![a, b].all (constantsAlone 8)
  | [i, j, l], [.Name x px, .Name y py, .Name z pz], [a, b, c] => ixB N i x && ixB N j y && ixB N l z && decide (i ≠ j ∧ i ≠ l ∧ j ≠ l) && (sc.names.lookup x == some .local) && (sc.names.lookup y == some .local) && (sc.names.lookup z == some .local) &&
      (py.line == px.line) && (pz.line == px.line) && !(x == y) && !(x == z) && !(y == z) && ![a, b, c].any isStar && ![a, b, c].all (foldedForSure 8) && ![a, b, c].all (constantsAlone 8)
  | _, _, _ => false
mutual
def chkS (sc : Scope) : IS → Stmt → Bool
  | .expr e, s => match s with
    | .Expr x _ => noCompB x && notLC x && chkE W N sc e x
    | _ => false
  | .asg _ g e, s => match s with
    | .Assign [tg] v _ => chkE W N sc e v && (match swB sc tg v with
      | true => match g, tg with
        | .nm i, .Name x _ => isComp e && ixB N i x
        | _, _ => false
      | false => noCompB v && storeB tg v && noStar tg && tgB true N sc g tg)
    | _ => false
  | .par is es, s => match s with
    | .Assign [.Tuple ts _ _] (.Tuple vs _ _) _ => parB N sc is ts vs && chkEs W N sc es vs
    | _ => false
  | .st _ g e, s => match s with
    | .Assign [tg] v _ => chkE W N sc e v && !swB sc tg v && noCompB v && storeB tg v && noStar tg && chkG W N sc g tg
    | _ => false
  | .unp gs e, s => match s with
    | .Assign [.Tuple ts _ _] v _ => chkE W N sc e v && noCompB v && storeB (.Tuple ts 0 ⟨0, 0, 0, 0⟩) v && chkGs W N sc gs ts
    | _ => false
  | .ret _ e, s => match s with
    | .Return (some x) _ => chkE W N sc e x
    | _ => false
  | .retN, s => match s with
    | .Return none _ => true
    | _ => false
  | .ife t a b, s => match s with
    | .If c p q _ => chkT W N sc t c && chkSs sc a p && chkSs sc b q
    | _ => false
  | .for_ g it b, s => match s with
    | .For tg iter body [] _ => tgB true N sc g tg && notSet iter && chkI W N sc it tg iter && chkSs sc b body
    | _ => false
  | .whl t b, s => match s with
    | .While c body [] _ => chkT W N sc t c && chkSs sc b body
    | _ => false
  | .brk, s => match s with
    | .Break _ => true
    | _ => false
  | .cont, s => match s with
    | .Continue _ => true
    | _ => false
  | .pass, s => match s with
    | .Pass _ => true
    | _ => false
  | .never, _ => true
def chkSs (sc : Scope) : ISs → List Stmt → Bool
  | .nil, ss => ss.isEmpty
  | .cons s r, ss => match ss with
    | x :: xs => chkS sc s x && chkSs sc r xs
    | [] => false
end
end
structure SOk (X : Cx) : Prop where
  hp : PassesOwn (model X.prog X.w) X.A X.env X.xe
  fn : ∀ x, X.fn x = true
  kd : X.env.scope.kind = .function
section
variable {W : Wd} {N : List Str} {G : Gam} {S0 : Sw} {X : Cx}
theorem sndG (XO : XOk W G X) (SO : SOk X) (hN : X.N = N) {g : IGt} {t : Expr} (h : chkG W N X.env.scope g t = true) : PG X t (lG W.T S0 (setG W.T W.P G g)) := by
  unfold chkG at h
  split at h
  · simp only [Bool.and_eq_true] at h
    obtain ⟨l1, l2⟩ := loc_of (fun _ => SO.fn) h.2
    refine pg_imp (stg_nm (T := W.T) (S0 := S0) (pg_name XO.hN (by rw [hN]; exact eq_of_beq h.1) l1 l2)) fun v σ H Q ⟨S, ds, d, eh, A, r, Qd, q, k⟩ => ⟨S, ds, d, eh, A, r, Qd, ?_, k⟩
    unfold setG at q
    exact q
  · simp only [Bool.and_eq_true] at h
    rw [eq_of_beq h.1]
    refine pg_imp (stg_at (S0 := S0) XO.tb XO.hK (sndE _ XO hN h.2)) fun v σ H Q ⟨S, ds, d, eh, A, r, Qd, q, k⟩ => ⟨S, ds, d, eh, A, r, Qd, ?_, k⟩
    unfold setG at q
    exact q
  · simp only [Bool.and_eq_true] at h
    refine pg_imp (stg_sub (S0 := S0) (by have := XO.hu; omega) (sndE _ XO hN h.1.2) (sndE _ XO hN h.2) ?_) fun v σ H Q ⟨S, ds, d, eh, A, r, Qd, q, k⟩ => ⟨S, ds, d, eh, A, r, Qd, ?_, k⟩
    · rename_i ie _
      intro v
      cases ie <;> first | rfl | cases h.1.1
    · unfold setG at q
      exact q
  · cases h
theorem sndGs (XO : XOk W G X) (SO : SOk X) (hN : X.N = N) : ∀ {gs : List IGt} {ts : List Expr}, chkGs W N X.env.scope gs ts = true → PGL X W.T S0 (setG W.T W.P G) ts gs ∧ (assignEach ts X.env).length = gs.length ∧ (assignEach ts X.env).findIdx? (·.1) = none
  | [], [], _ => ⟨.nil, rfl, rfl⟩
  | [], _ :: _, h => by cases h
  | _ :: _, [], h => by cases h
  | g :: gs, t :: ts, h => by
    simp only [chkGs, Bool.and_eq_true] at h
    obtain ⟨⟨h1, h2⟩, h3⟩ := h
    obtain ⟨a1, a2, a3⟩ := sndGs XO SO hN h3
    have e : assignEach (t :: ts) X.env = (false, assign t X.env) :: assignEach ts X.env := by cases t <;> first | rfl | cases h1
    refine ⟨.cons (sndG XO SO hN h2) (by rw [e]; rfl) a1, by rw [e, List.length_cons, List.length_cons, a2], ?_⟩
    rw [e, List.findIdx?_cons]
    simp [a3]
theorem wGs_eq {T : Tb} {P : Pg} : ∀ (gs : List IGt), wGs (setG T P G) gs = setGs T P G gs
  | [] => by funext l ds hd Q; cases l <;> simp only [wGs, setGs]
  | g :: gs => by
    funext l ds hd Q
    cases l with
    | nil => simp only [wGs, setGs]
    | cons d l => simp only [wGs, setGs]; rw [wGs_eq gs]
theorem sndUnp (XO : XOk W G X) (SO : SOk X) (hN : X.N = N) {gs : List IGt} {ts : List Expr} {k : Nat} {p : Pos} (h : chkGs W N X.env.scope gs ts = true) :
    PG X (.Tuple ts k p) (lG W.T S0 fun d ds hd Q => match d with
      | .tup xs => xs.length = gs.length ∧ setGs W.T W.P G gs xs ds hd Q
      | _ => False) := by
  obtain ⟨a1, a2, a3⟩ := sndGs (S0 := S0) XO SO hN h
  refine pg_imp (pg_tup XO.calm a1.pgs a2 a3) fun v σ H Q ⟨S, ds, d, eh, A, r, Qd, q, kk⟩ => ?_
  cases d with
  | tup xs =>
    obtain ⟨ql, q⟩ := q
    rw [← wGs_eq] at q
    obtain ⟨a, vs, e, sq, rl⟩ := rep_tup r
    subst eh
    exact ⟨a, vs, e, by rw [XO.hK]; exact sq, by rw [← repL_len rl, ql], S, ds, xs, rfl, A, rl, Qd, q, kk⟩
  | _ => exact q.elim
/-- x = [..] on one line -/
theorem sndSetC (XO : XOk W G X) (SO : SOk X) (hN : X.N = N) {e : IE} {i : Nat} {x : Str} {px pos : Pos} {v : Expr} {b : Bool} (hc : isComp e = true) (h : chkE W N X.env.scope e v = true) (hi : ixB N i x = true) (hs : swB X.env.scope (.Name x px) v = true) :
    PS X (.Assign [.Name x px] v pos) (lS W.T S0 fun E ds hd => wpE W.T W.P G e ds hd fun ev hd1 => take b ev hd1 fun d hd2 => bindG (.nm i) d ds fun ds1 => E.nx ds1 hd2) := by
  cases e with
  | comp x' g it own =>
    unfold chkE at h
    split at h
    · rename_i elt tg iter scope p2
      simp only [Bool.and_eq_true] at h
      obtain ⟨⟨⟨⟨⟨h1, h2⟩, h3⟩, h4⟩, h5⟩, h6⟩ := h
      have h1' := h1
      rw [← hN] at h1'
      obtain ⟨b1, b2⟩ := blk_of h1'
      have ho : ∀ i ∈ gIx g, i ∈ (ownB X.N own).map (·.2) := fun i hi => by
        rw [b2]; simpa using List.all_eq_true.mp h3 i hi
      have hl : X.env.scope.names.lookup x = some .local := by
        simp only [swB, Bool.and_eq_true] at hs
        exact eq_of_beq hs.1.1
      have := sts_setLc (S0 := S0) (T := W.T) (i := i) (y := x) (py := px) (spos := pos) (g := g) (tt := dYes) (te := wpE W.T W.P G x') (pos := p2) (b := b) XO.calm XO.hN (by rw [hN]; exact eq_of_beq hi) hl (sw_yes SO.kd hs) (sndI it XO hN h5) b1
        (fun s H C cl fp => tg_ok (X := X.blk s H scope (compEnvC scope cl C X.env) fp) (fl := false) XO.hK XO.calm (fun z => by cases z) XO.hN (by rw [← hN] at h2; exact h2))
        (fun s H C cl fp => ⟨fun p s σ H Q I q => pts_nil.run p s σ H Q I (lT_yes (Y := X) (own := []) q)⟩)
        (fun s H C cl fp => pe_frz (sndE x' (XO.blk s H scope (compEnvC scope cl C X.env) fp) hN h6)) ho (notSet_of h4)
      rw [b2] at this
      exact this
    · cases h
  | compIf x' g it t own =>
    unfold chkE at h
    split at h
    · rename_i elt tg iter c scope p2
      simp only [Bool.and_eq_true] at h
      obtain ⟨⟨⟨⟨⟨⟨h1, h2⟩, h3⟩, h4⟩, h5⟩, h6⟩, h7⟩ := h
      have h1' := h1
      rw [← hN] at h1'
      obtain ⟨b1, b2⟩ := blk_of h1'
      have ho : ∀ i ∈ gIx g, i ∈ (ownB X.N own).map (·.2) := fun i hi => by
        rw [b2]; simpa using List.all_eq_true.mp h3 i hi
      have hl : X.env.scope.names.lookup x = some .local := by
        simp only [swB, Bool.and_eq_true] at hs
        exact eq_of_beq hs.1.1
      have := sts_setLc (S0 := S0) (T := W.T) (i := i) (y := x) (py := px) (spos := pos) (g := g) (tt := wpT W.T W.P G t) (te := wpE W.T W.P G x') (pos := p2) (b := b) XO.calm XO.hN (by rw [hN]; exact eq_of_beq hi) hl (sw_yes SO.kd hs) (sndI it XO hN h5) b1
        (fun s H C cl fp => tg_ok (X := X.blk s H scope (compEnvC scope cl C X.env) fp) (fl := false) XO.hK XO.calm (fun z => by cases z) XO.hN (by rw [← hN] at h2; exact h2))
        (fun s H C cl fp => pts_one (sndT t (XO.blk s H scope (compEnvC scope cl C X.env) fp) hN h7).1)
        (fun s H C cl fp => pe_frz (sndE x' (XO.blk s H scope (compEnvC scope cl C X.env) fp) hN h6)) ho (notSet_of h4)
      rw [b2] at this
      exact this
    · cases h
  | _ => cases hc
theorem swN_of {e : Expr} {env : Env} {l : Nat} (h1 : noCompB e = true) (h2 : notLC e = true) : swapsWith e none l env = pure false := by
  cases e <;> first | rfl | (cases h1; done) | (cases h2; done)
theorem par_ok (XO : XOk W G X) (SO : SOk X) (hN : X.N = N) {is : List Nat} {ts vs : List Expr} {es : IEs} {kt k2 : Nat} {pt pt2 pos : Pos} (h : parB N X.env.scope is ts vs = true) (hv : chkEs W N X.env.scope es vs = true) :
    PS X (.Assign [.Tuple ts kt pt] (.Tuple vs k2 pt2) pos) (lS W.T S0 (wpS W.T W.P G (.par is es))) := by
  have hp := (sndEs (S0 := S0) es XO hN hv).pa
  rw [wEs_eq] at hp
  unfold parB at h
  split at h
  · simp only [Bool.and_eq_true, Bool.not_eq_true', decide_eq_true_eq] at h
    obtain ⟨⟨⟨⟨⟨⟨⟨⟨⟨h1, h2⟩, h3⟩, h4⟩, h5⟩, h6⟩, h7⟩, h8⟩, h9⟩, h10⟩ := h
    exact sts_par XO.calm XO.hN (by rw [hN]; exact eq_of_beq h1) (by rw [hN]; exact eq_of_beq h2) h3 (eq_of_beq h4) (eq_of_beq h5) hp (sw2 SO.kd (eq_of_beq h4) (eq_of_beq h5) h6 h7 h8 h9 h10) rfl
  · simp only [Bool.and_eq_true, Bool.not_eq_true', decide_eq_true_eq] at h
    obtain ⟨⟨⟨⟨⟨⟨⟨⟨⟨⟨⟨⟨⟨⟨h1, h2⟩, h3⟩, h4⟩, h5⟩, h6⟩, h7⟩, h8⟩, h9⟩, h10⟩, h11⟩, h12⟩, h13⟩, h14⟩, h15⟩ := h
    exact sts_par3 XO.calm XO.hN (by rw [hN]; exact eq_of_beq h1) (by rw [hN]; exact eq_of_beq h2) (by rw [hN]; exact eq_of_beq h3) h4.1 h4.2.1 h4.2.2 (eq_of_beq h5) (eq_of_beq h6) (eq_of_beq h7) hp (sw3 SO.kd (eq_of_beq h5) (eq_of_beq h6) (eq_of_beq h7) h8 h9 h10 h11 h12 h13 h14 h15) rfl
  · cases h
mutual
theorem sndS (XO : XOk W G X) (SO : SOk X) (hN : X.N = N) : ∀ (i : IS) {s : Stmt}, chkS W N X.env.scope i s = true → PS X s (lS W.T S0 (wpS W.T W.P G i))
  | .expr e, s, h => by
    unfold chkS at h
    split at h
    · simp only [Bool.and_eq_true] at h
      exact sts_expr (sndE e XO hN h.2) (swN_of h.1.1 h.1.2)
    · cases h
  | .asg b g e, s, h => by
    unfold chkS at h
    split at h
    · rename_i tg v pos
      simp only [Bool.and_eq_true] at h
      obtain ⟨h1, h2⟩ := h
      split at h2
      · rename_i hs
        split at h2
        · rename_i i x px
          simp only [Bool.and_eq_true] at h2
          exact sndSetC XO SO hN h2.1 h1 h2.2 hs
        · cases h2
      · rename_i hs
        simp only [Bool.and_eq_true] at h2
        obtain ⟨⟨⟨g1, g2⟩, g3⟩, g4⟩ := h2
        exact sts_asg (sndE e XO hN h1) (tg_ok XO.hK XO.calm (fun _ => SO.fn) XO.hN (by rw [hN]; exact g4)) (sole_of (sw_no SO.kd hs g1)) (store_of g2) (asg1_of g3)
    · cases h
  | .par is es, s, h => by
    unfold chkS at h
    split at h
    · simp only [Bool.and_eq_true] at h
      exact par_ok XO SO hN h.1 h.2
    · cases h
  | .st b g e, s, h => by
    unfold chkS at h
    split at h
    · simp only [Bool.and_eq_true, Bool.not_eq_true'] at h
      obtain ⟨⟨⟨⟨⟨h1, h2⟩, h3⟩, h4⟩, h5⟩, h6⟩ := h
      exact sts_st (sndE e XO hN h1) (sndG XO SO hN h6) (sole_of (sw_no SO.kd h2 h3)) (store_of h4) (asg1_of h5)
    · cases h
  | .unp gs e, s, h => by
    unfold chkS at h
    split at h
    · rename_i ts k p v pos
      simp only [Bool.and_eq_true] at h
      obtain ⟨⟨⟨h1, h2⟩, h3⟩, h4⟩ := h
      have h3' : storeB (.Tuple ts k p) v = true := by cases v <;> exact h3
      have := sts_st (b := false) (pos := pos) (sndE e XO hN h1) (sndUnp (S0 := S0) (k := k) (p := p) XO SO hN h4) (sole_of (sw_no SO.kd (by cases v <;> rfl) h2)) (store_of h3') rfl
      exact this
    · cases h
  | .ret b e, s, h => by
    unfold chkS at h
    split at h
    · exact sts_ret (sndE e XO hN h)
    · cases h
  | .retN, s, h => by
    unfold chkS at h
    split at h
    · exact sts_retN
    · cases h
  | .ife t a b, s, h => by
    unfold chkS at h
    split at h
    · simp only [Bool.and_eq_true] at h
      exact sts_if (sndT t XO hN h.1.1).1 (sndSs XO SO hN a h.1.2) (sndSs XO SO hN b h.2)
    · cases h
  | .for_ g it b, s, h => by
    unfold chkS at h
    split at h
    · simp only [Bool.and_eq_true] at h
      obtain ⟨⟨⟨h1, h2⟩, h3⟩, h4⟩ := h
      exact sts_for SO.hp XO.calm (sndI it XO hN h3) (tg_ok XO.hK XO.calm (fun _ => SO.fn) XO.hN (by rw [hN]; exact h1)) (sndSs XO SO hN b h4) (notSet_of h2)
    · cases h
  | .whl t b, s, h => by
    unfold chkS at h
    split at h
    · simp only [Bool.and_eq_true] at h
      exact sts_while SO.hp (sndT t XO hN h.1).1 (sndSs XO SO hN b h.2)
    · cases h
  | .brk, s, h => by
    unfold chkS at h
    split at h
    · exact sts_brk
    · cases h
  | .cont, s, h => by
    unfold chkS at h
    split at h
    · exact sts_cont
    · cases h
  | .pass, s, h => by
    unfold chkS at h
    split at h
    · exact sts_pass
    · cases h
  | .never, s, h => sts_never
theorem sndSs (XO : XOk W G X) (SO : SOk X) (hN : X.N = N) : ∀ (i : ISs) {s : List Stmt}, chkSs W N X.env.scope i s = true → PSs X s (lS W.T S0 (wpSs W.T W.P G i))
  | .nil, s, h => by
    unfold chkSs at h
    cases s with
    | nil => exact sts_nil
    | cons => cases h
  | .cons i r, s, h => by
    unfold chkSs at h
    split at h
    · simp only [Bool.and_eq_true] at h
      refine pss_imp (sts_cons (sndS XO SO hN i h.1) (sndSs XO SO hN r h.2)) fun D σ H ⟨S, ds, eh, A, E, q, ok⟩ => ⟨S, ds, eh, A, E, ?_, ok⟩
      unfold wpSs at q
      exact q
    · cases h
end
end
end DL
set_option Elab.async false
set_option linter.all false
set_option maxRecDepth 100000
set_option maxHeartbeats 4000000
namespace DL
open PySem PySem.Spec PyProof.Rows L2
/-- what is asked of the module as it stands -/
structure WOk (W : Wd) (mg : Str → Option Value) : Prop where
  tb : TbOk W.T
  blt : ∀ x ∈ bltNames, mg x = none
  cst : ∀ n d, W.P.gl n = some d → ∃ v u, mg (W.gname n) = some u ∧ RelV v u ∧ ∀ S : Sw, rep W.T S.fz S.hp d v
  fn : ∀ f, W.gf f = true → mg (W.fname f) = some (.ref (W.fa f)) ∧ PySem.W.keepIn W.T.K (.ref (W.fa f)) = true ∧ (W.P.fn f).isSome = true
  cls : ∀ c, W.gc c = true → mg (W.cname c) = some (.ref (W.T.ca c))
  ini : ∀ c f, W.P.ini c = some f → Mk W.T.K (W.T.ca c) (W.fa f) ∧ (W.P.fn f).isSome = true
  me : ∀ c m f, W.P.me c m = some f → Cls W.T.K (W.T.ca c) ∧ Meth W.T.K (W.T.ca c) (W.T.sym m) (W.fa f) ∧ (W.P.fn f).isSome = true
  pr : ∀ c m f, W.P.pr c m = some f → (∃ p, PropOf W.T.K (W.T.ca c) (W.T.sym m) p (W.fa f)) ∧ Cls W.T.K (W.T.ca c) ∧ (W.P.fn f).isSome = true
  df : ∀ f F, W.P.fn f = some F → ∃ x qual params body scope N ps fd, FunD W.T.K x qual params body scope [] [] (W.fa f) fd ∧ FnScope N ps scope ∧ Binds W.T.K fd ps [] ∧ chkSs W N scope F.body body = true ∧ ps.length = F.np ∧ N.length = F.nn
theorem gam_len {T : Tb} {P : Pg} {n f : Nat} {F : Fn} (hF : P.fn f = some F) {ds : List D} {hd : Hd} {Q : EV → Hd → Prop} (h : gam T P n f ds hd Q) : ds.length = F.np := by
  cases n with
  | zero => exact h.elim
  | succ n =>
    unfold gam at h
    rw [hF] at h
    exact h.1
theorem start_rs {T : Tb} {S : Sw} {ds : List D} {vs : List V} {nn : Nat} {N : List Str} (hN : N.length = nn) (r : repL T S.fz S.hp ds vs) : Rs T S (ds.map some ++ List.replicate (nn - ds.length) none) (L2.start N vs) := by
  have hl := repL_len r
  refine ⟨by unfold L2.start; simp [hN, hl], fun i d h => ?_⟩
  unfold L2.start
  by_cases hi : i < ds.length
  · rw [List.getElem?_append_left (by simpa using hi)] at h
    rw [List.getElem?_append_left (by simpa [← hl] using hi)]
    rw [List.getElem?_map] at h
    cases e : ds[i]? with
    | none => rw [e] at h; cases h
    | some d' =>
      rw [e] at h
      cases h
      obtain ⟨v, ev, rv⟩ := repL_at r e
      exact ⟨v, by rw [List.getElem?_map, ev]; rfl, rv⟩
  · rw [List.getElem?_append_right (by simpa using Nat.le_of_not_lt hi)] at h
    rw [List.getElem?_replicate] at h
    split at h <;> cases h
theorem repE.drop {T : Tb} {S S' : Sw} {h2 : Hd} (k : Sub h2 S'.hd) {ev : EV} {v : V} (q : repE T S S' ev v) : repE T S (S'.drop h2) ev v := by
  have fr : ∀ a, Fresh S S' a → Fresh S (S'.drop h2) a := fun a ⟨f1, f2, f3⟩ => by
    refine ⟨?_, f2, f3⟩
    show h2 a = none
    cases e : h2 a with
    | none => rfl
    | some o => exact nomatch (f1.symm.trans (k a o e))
  cases ev with
  | v d => exact q
  | nl xs => obtain ⟨a, vs, e, q1, r, f⟩ := q; exact ⟨a, vs, e, q1, r, fr a f⟩
  | nd xs => obtain ⟨a, vs, e, q1, r, f⟩ := q; exact ⟨a, vs, e, q1, r, fr a f⟩
  | no c xs => obtain ⟨a, dx, vs, e, q1, r, f⟩ := q; exact ⟨a, dx, vs, e, q1, r, fr a f⟩
/-- a def keeps its promise, where all keep theirs one step less deep -/
theorem step_ok {W : Wd} {P : Program} {w : World} {mg : Str → Option Value} {base : Heap} (WO : WOk W mg) {n f : Nat} {F : Fn} (hF : W.P.fn f = some F)
    (IH : ∀ (f : Nat) (F : Fn), W.P.fn f = some F → ∃ fd ps, FnG P w W.T.K mg base CX0 (2 * n) (W.fa f) fd ps (lSp W.T F.np (gam W.T W.P n f)) ∧ Binds W.T.K fd ps [])
    {x qual : Str} {params : Arguments} {body : List Stmt} {scope : Scope} {N ps : List Str} {fd : FuncData} (FD : FunD W.T.K x qual params body scope [] [] (W.fa f) fd) (S : FnScope N ps scope) (hc : chkSs W N scope F.body body = true) (hp : ps.length = F.np) (hn : N.length = F.nn) :
    FnG P w W.T.K mg base CX0 (2 * (n + 1)) (W.fa f) fd ps (lSp W.T F.np (gam W.T W.P (n + 1) f)) := by
  refine gDef (k := 2 * n + 1) FD S (fun vs H Q E h => by rw [hp]; exact h.1) fun cdv A outer s H vs Q E hG hr h => ?_
  obtain ⟨hvl, S1, ds, Qd, eh, R, r, hg, k⟩ := h
  have ff : ∀ f' F', W.P.fn f' = some F' → FFact (cxOf CX0 P w W.T.K mg base N qual scope (W.fa f) cdv A outer s H E) W.T (W.fa f') (gam W.T W.P n f') := fun f' F' hF' => by
    obtain ⟨fd', ps', F1, b1⟩ := IH f' F' hF'
    exact ⟨2 * n, fd', ps', F'.np, F1, hr, hG, b1, fun ds hd Q q => gam_len hF' q⟩
  have ffs : ∀ f', (W.P.fn f').isSome = true → FFact (cxOf CX0 P w W.T.K mg base N qual scope (W.fa f) cdv A outer s H E) W.T (W.fa f') (gam W.T W.P n f') := fun f' h' => by
    obtain ⟨F', hF'⟩ := Option.isSome_iff_exists.mp h'
    exact ff f' F' hF'
  have XO : XOk W (gam W.T W.P n) (cxOf CX0 P w W.T.K mg base N qual scope (W.fa f) cdv A outer s H E) :=
    { hK := rfl, hN := S.nd, calm := rfl, ng := hG, hu := by have := hr.un; show (A.deeper _).units + 200 < cLine; omega, tb := WO.tb, blt := WO.blt, cst := WO.cst
      fn := fun f' h' => by obtain ⟨a, b, c⟩ := WO.fn f' h'; exact ⟨a, b, ffs f' c⟩
      cls := WO.cls
      ini := fun c f' h' => by obtain ⟨a, b⟩ := WO.ini c f' h'; exact ⟨a, ffs f' b⟩
      me := fun c m f' h' => by obtain ⟨a, b, d⟩ := WO.me c m f' h'; exact ⟨W.fa f', a, b, ffs f' d⟩
      pr := fun c m f' h' => by obtain ⟨⟨p, a⟩, b, d⟩ := WO.pr c m f' h'; exact ⟨p, W.fa f', b, a, ffs f' d⟩ }
  have SO : SOk (cxOf CX0 P w W.T.K mg base N qual scope (W.fa f) cdv A outer s H E) := ⟨passes_of rfl, fun _ => rfl, S.kind⟩
  refine ⟨_, sndSs (S0 := S1) (N := N) XO SO rfl F.body hc, ?_⟩
  unfold gam at hg
  rw [hF] at hg
  obtain ⟨hl, hw⟩ := hg
  have hrs := start_rs (N := N) hn r
  rw [hl] at hrs
  refine ⟨S1, _, eh, ⟨Stp.refl S1, R, hrs⟩, _, hw, ⟨fun S' ds' σ' A' s' ⟨h2, sb, q⟩ => ?_, fun ev S' v s' R' q ⟨h2, sb, q2⟩ => ?_, fun _ _ _ _ _ q => q.elim, fun _ _ _ _ _ q => q.elim⟩⟩
  · exact k (.v .non) (S'.drop h2) .non (A'.stp.drop sb) (A'.rh.drop sb) (by unfold repE; exact mk_non) q
  · exact k ev (S'.drop h2) v (s'.drop sb) (R'.drop sb) (q.drop sb) q2
/-- every def keeps its promise, at each depth -/
theorem all_ok {W : Wd} {P : Program} {w : World} {mg : Str → Option Value} {base : Heap} (WO : WOk W mg) : ∀ (n f : Nat) (F : Fn), W.P.fn f = some F →
    ∃ fd ps, FnG P w W.T.K mg base CX0 (2 * n) (W.fa f) fd ps (lSp W.T F.np (gam W.T W.P n f)) ∧ Binds W.T.K fd ps []
  | 0, f, F, hF => by
    obtain ⟨x, qual, params, body, scope, N, ps, fd, FD, S, hb, hc, hp, hn⟩ := WO.df f F hF
    refine ⟨fd, ps, ⟨fun vs H Q E h => ?_, fun A outer s H args us vs Q E _ _ _ _ _ h => ?_⟩, hb⟩
    · obtain ⟨_, _, _, _, _, _, _, g, _⟩ := h; exact False.elim g
    · obtain ⟨_, _, _, _, _, _, _, g, _⟩ := h; exact False.elim g
  | n + 1, f, F, hF => by
    obtain ⟨x, qual, params, body, scope, N, ps, fd, FD, S, hb, hc, hp, hn⟩ := WO.df f F hF
    exact ⟨fd, ps, step_ok WO hF (all_ok WO n) FD S hc hp hn, hb⟩
end DL
set_option Elab.async false
set_option linter.all false
set_option maxRecDepth 100000
set_option maxHeartbeats 2000000
namespace DL
open PySem PySem.Spec PyProof.Rows L2
/-- what the law's call is to end in -/
abbrev LawEnd (s0 : Shared) : Result → Shared → Prop := fun r s' => r = .ok (.ret (.bool true)) ∧ OldK s0.heap s'.heap ∧ s'.os = s0.os ∧ AllBare s'.gens
section
variable {P : Program} {w : World} {K : PySem.W.Frag} {mg mb : Str → Option Value} {CX : CXT} {k : Nat} {fa a : Addr} {fd : FuncData} {x : Str} {sp : Sp} {s0 : Shared} {us : List Value} {ns : List Int}
/-- over one abstract heap, in which the script alone may be tracked -/
theorem gLaw1 {H : Hp} (inK : K.In s0.heap) (hm : s0.heap.Ns mainGlobals mg) (hb : s0.heap.Ns builtinsNs mb) (hbb : ∀ y : Str, y ≠ "__name__" → mb y = bootBuiltins y) (nl : s0.heap.NoLimit) (ng : s0.gens = #[])
    (ea : s0.heap.get? a = some { cls := .type "list", data := .seq us.toArray }) (hr : Room k callerA) (F : ∀ base : Heap, K.In base → base.Ns mainGlobals mg → FnG P w K mg base CX k fa fd [x] sp)
    (bd : ∀ (s : Shared) (u : Value), BindsTo s fd ⟨[u], []⟩ [(x, u)]) (hs : sp [.ref a] H (fun v _ => v = .bl true) fun _ _ _ => False) (nx : ∀ H e s', CX [] H s0 (fun _ _ _ => False) e s' → False)
    (hO : Only H) (hk : HOk P w H s0.heap) (oa : ∀ b, H b ≠ none → b = a) (ka : H a ≠ none → K.lookup a = none) : codeAny (model P w) callerA (.call (.ref fa) ⟨[.ref a], []⟩) (LawEnd s0) s0 := by
  -- what is no part of the script's object is seen
  have free : ∀ {b : Addr}, b ≠ a → H b = none := fun {b} n => Classical.byContradiction fun z => n (oa b z)
  have dictFree : ∀ {b : Addr} {o : Obj} {es : Array DictEntry} {n : Nat}, s0.heap.get? b = some o → o.data = .dict es n → H b = none := fun {b o es n} e1 e2 => by
    refine free fun z => ?_
    rw [z, ea] at e1
    cases e1
    cases e2
  have ns2 : ∀ {b : Addr} {m : Str → Option Value}, s0.heap.Ns b m → (hidT s0.heap H).Ns b m := fun {b m} z => by
    obtain ⟨o, es, n, e1, e2, r⟩ := z
    exact ⟨o, es, n, hidT_get e1 (dictFree e1 e2), e2, r⟩
  have inK2 : K.In (hidT s0.heap H) := fun b o e => by
    refine hidT_get (inK b o e) (Classical.byContradiction fun z => ?_)
    have := oa b z
    subst this
    rw [ka z] at e
    cases e
  have mod2 : Mod K mg (hidT s0.heap H) := ⟨inK2, ns2 hm, ⟨mb, ns2 hb, hbb⟩, by obtain ⟨m, l1, l2⟩ := nl; exact ⟨m, ns2 l1, l2⟩⟩
  have ev : Env0 P w K mg (hidT s0.heap H) callerA [] s0 H := ⟨rfl, mod2, fun _ _ => of_hidT, Nat.le_of_eq (hidT_size ..), trivial, fun _ z => (nomatch z), hk, .of_eq ng⟩
  refine codeAny_mono ((F _ inK2 (ns2 hm)).go callerA [] s0 H ⟨[.ref a], []⟩ [.ref a] [.ref a] _ _ rfl hr ev (bd s0 _) (.cons rfl .nil) hs) ?_
  intro r s2 z
  match r, z with
  | .error e, z => exact (nx H e s2 z).elim
  | .ok .next, z => exact z.elim
  | .ok .brk, z => exact z.elim
  | .ok .cont, z => exact z.elim
  | .ok (.ret u), z =>
    obtain ⟨v, H2, e1, e2, un, hk2, rv, q⟩ := z
    have q : v = .bl true := q
    subst q
    have ru : u = Value.bool true := rv
    subst ru
    refine ⟨rfl, OldK.of_keep ?_, e1, e2⟩
    intro b o eb
    by_cases hb : H b = none
    · exact un.keep b o eb hb (fun z => nomatch z) (fun z => nomatch z)
    · rcases hO b with z | ⟨ob, xs, z⟩
      · exact (hb z).elim
      · have h1 := (hk b _ z).1
        have h2 := (hk2 b _ (un.frzs b ob _ z)).1
        rw [eb] at h1
        cases h1
        exact h2
theorem gLaw (inK : K.In s0.heap) (hm : s0.heap.Ns mainGlobals mg) (hb : s0.heap.Ns builtinsNs mb) (hbb : ∀ y : Str, y ≠ "__name__" → mb y = bootBuiltins y) (nl : s0.heap.NoLimit) (ng : s0.gens = #[])
    (ea : s0.heap.get? a = some { cls := .type "list", data := .seq us.toArray }) (hi : IntsAre us ns) (hl : ns.length ≤ sizeLine) (hr : Room k callerA) (F : ∀ base : Heap, K.In base → base.Ns mainGlobals mg → FnG P w K mg base CX k fa fd [x] sp)
    (bd : ∀ (s : Shared) (u : Value), BindsTo s fd ⟨[u], []⟩ [(x, u)]) (hs : ∀ H : Hp, Only H → SqL K H a (ns.map V.int) → sp [.ref a] H (fun v _ => v = .bl true) fun _ _ _ => False) (nx : ∀ H e s', CX [] H s0 (fun _ _ _ => False) e s' → False) :
    codeAny (model P w) callerA (.call (.ref fa) ⟨[.ref a], []⟩) (LawEnd s0) s0 := by
  have rv := vals_ints hi
  by_cases hk : K.lookup a = none
  · let o1 : Obj := { cls := .type "list", data := .seq us.toArray }
    let H1 : Hp := fun b => if b = a then some (.frz o1 (.lst (ns.map V.int))) else none
    have at1 : H1 a = some (.frz o1 (.lst (ns.map V.int))) := if_pos rfl
    have off : ∀ {b}, b ≠ a → H1 b = none := fun n => if_neg n
    have O1 : Only H1 := fun b => by
      by_cases z : b = a
      · subst z; exact .inr ⟨_, _, at1⟩
      · exact .inl (off z)
    refine gLaw1 inK hm hb hbb nl ng ea hr F bd (hs H1 O1 (.inl (.inr ⟨o1, at1⟩))) nx O1 (fun b u z => ?_) (fun b z => Classical.byContradiction fun n => z (off n)) fun _ => hk
    by_cases hb : b = a
    · subst hb
      rw [at1] at z
      cases z
      exact ⟨ea, by rw [List.length_map]; exact hl, us, _, rv, ea⟩
    · rw [off hb] at z; cases z
  · obtain ⟨o, ho⟩ := Option.ne_none_iff_exists'.mp hk
    have e := inK a o ho
    rw [ea] at e
    cases e
    have O1 : Only (fun _ => none) := fun _ => .inl rfl
    refine gLaw1 (H := fun _ => none) inK hm hb hbb nl ng ea hr F bd (hs _ O1 (.inr ⟨_, us.toArray, _, ho, rfl, rfl, rfl, ?_, by simpa using rv⟩)) nx O1 (fun b u z => nomatch z) (fun b z => (z rfl).elim) fun z => (z rfl).elim
    rw [List.size_toArray, hi.length]
    exact hl
end
/-- a law's end over a head by facts -/
theorem gWalk {l : PySem.W.OpenLaw} {n k : Nat} {q : Program} {loose : List Str} {XP : (Str → Option Value) → Heap → Prop} {YP : World → Heap → Prop} {d : DefRec} {CX : CXT} {x : Str} (hn : l.most = some n) (small : n ≤ sizeLine) (nd : d.params.defaults = []) (hr : Room k callerA)
    (F : ∀ (w : World) (mg : Str → Option Value) (fa : Addr) (h : Heap), YP w h → h.Ns mainGlobals mg → mg d.name = some (.ref fa) → ∃ (K : PySem.W.Frag) (fd : FuncData) (sp : Sp), K.In h ∧ (∀ (s : Shared) (u : Value), BindsTo s fd ⟨[u], []⟩ [(x, u)]) ∧
      (∀ (H : Hp) (a : Addr) (ns : List Int), ns.length ≤ n → Only H → SqL K H a (ns.map V.int) → sp [.ref a] H (fun v _ => v = .bl true) fun _ _ _ => False) ∧ ∀ base : Heap, K.In base → base.Ns mainGlobals mg → FnG l.prog w K mg base CX k fa fd [x] sp)
    (nx : ∀ (H : Hp) (s : Shared) (e : Value) (s' : Shared), CX [] H s (fun _ _ _ => False) e s' → False) : PySem.W.WalkO q loose XP YP l.row.toRowW d [] (fun f vs => PySem.call f vs) := by
  refine Att.attach_call hn nd ?_
  intro w s0 s1 mg mb fa o pm cd doc a us ns G Y _ _ _ hmg ea hi hlen ng
  obtain ⟨K, fd, sp, inK, bd, hs, hF⟩ := F w mg fa _ Y G.T.g hmg
  exact gLaw inK G.T.g G.T.b G.T.builtins G.T.nolimit ng ea hi (Nat.le_trans hlen small) hr hF bd (fun H hO hS => hs H a ns hlen hO hS) fun H e s' => nx H s1 e s'
end DL
set_option Elab.async false
set_option linter.all false
set_option maxRecDepth 100000
set_option maxHeartbeats 4000000
namespace DL
open PySem PySem.Spec PyProof.Rows L2
/-! ### the head: what the module's names stand for, read from the heap -/
inductive FnK where
  | top (x : Str) | meth (c m : Str) | prop (c m : Str)
def propAd (K : PySem.W.Frag) (C : Addr) (m : Str) : Addr := match PySem.W.recIn K (He.ma K C m) "property" with
  | some (.ref g :: _) => g
  | _ => 0
def FnK.at_ (K : PySem.W.Frag) : FnK → Addr
  | .top x => He.ga K x
  | .meth c m => He.ma K (He.ga K c) m
  | .prop c m => propAd K (He.ga K c) m
structure FnI where
  no : Nat
  k : FnK
  name : Str
  qual : Str
  st : Stmt
  N : List Str
  ps : List Str
  F : Fn
def FnI.d (i : FnI) : He5.DefA := ⟨fun K => i.k.at_ K, i.name, i.qual, defArgs i.st, defBody i.st, defScope i.st, [], []⟩
/-- a law's module -/
structure Md where
  fns : List FnI
  gls : List (Nat × Str × D)
  clss : List (Nat × Str)
  syms : List Str
  na : List (Nat × Nat)
  kc : List (TyT × TyT × Bool)
  ini : List (Nat × Nat)
  me : List (Nat × Nat × Nat)
  pr : List (Nat × Nat × Nat)
def nmAt (l : List Str) (n : Nat) : Str := match l[n]? with
  | some x => x
  | none => ⟨(List.replicate (n + 1) 0).toArray⟩
def find2 (l : List (Nat × Nat)) (a : Nat) : Option Nat := (l.find? fun p => p.1 == a).map (·.2)
def find3 (l : List (Nat × Nat × Nat)) (a b : Nat) : Option Nat := (l.find? fun p => p.1 == a && p.2.1 == b).map (·.2.2)
def Md.get (M : Md) (f : Nat) : Option FnI := M.fns.find? fun i => i.no == f
def Md.cn (M : Md) (c : Nat) : Str := match M.clss.find? fun p => p.1 == c with
  | some p => p.2
  | none => ⟨#[]⟩
def Md.gc (M : Md) (c : Nat) : Bool := (M.clss.find? fun p => p.1 == c).isSome
def Md.gl (M : Md) (n : Nat) : Option (Nat × Str × D) := M.gls.find? fun p => p.1 == n
def Md.pg (M : Md) : Pg where
  fn := fun f => (M.get f).map (·.F)
  me := find3 M.me
  pr := find3 M.pr
  ini := find2 M.ini
  gl := fun n => (M.gl n).map (·.2.2)
def isTop : FnK → Bool
  | .top _ => true
  | _ => false
def topN : FnK → Str
  | .top x => x
  | _ => ⟨#[]⟩
def Md.tb (M : Md) (K : PySem.W.Frag) : Tb where
  K := K
  sym := nmAt M.syms
  ca := fun c => He.ga K (M.cn c)
  na := fun c f => M.na.contains (c, f)
  kc := fun t u => (M.kc.find? fun p => p.1 == t && p.2.1 == u).map (·.2.2)
def Md.wd (M : Md) (K : PySem.W.Frag) : Wd where
  T := M.tb K
  P := M.pg
  fa := fun f => match M.get f with
    | some i => i.k.at_ K
    | none => 0
  fname := fun f => match M.get f with
    | some i => topN i.k
    | none => ⟨#[]⟩
  cname := M.cn
  gname := fun n => match M.gl n with
    | some p => p.2.1
    | none => ⟨#[]⟩
  gf := fun f => match M.get f with
    | some i => isTop i.k
    | none => false
  gc := M.gc
/-- a constant -/
def glOk (K : PySem.W.Frag) (x : Str) : D → Bool
  | .int i => (He.Fa.int x i).ok K
  | .str y => (He.Fa.str x (st y)).ok K && (decide (y.length ≤ 16777216) && y.all fun c => decide (c < 1114112))
  | .tup ds => (match asStrs ds with
    | some xs => eqOO (PySem.W.nsIn K mainGlobals x) (some (some (.ref (He.ga K x)))) && (He.tupB K x (xs.map fun y => .str (st y)) && xs.all fun y => decide (y.length ≤ 16777216) && y.all fun c => decide (c < 1114112))
    | none => false)
  | _ => false
where eqOO (a b : Option (Option Value)) : Bool := He.eqO a b
def Md.ck (M : Md) (K : PySem.W.Frag) : Bool :=
  (bltNames.all fun x => (He.Fa.free x).ok K) &&
  (M.gls.all fun p => glOk K p.2.1 p.2.2) &&
  (M.fns.all fun i => !isTop i.k || (He.Fa.glo (topN i.k)).ok K) &&
  (M.clss.all fun x => (He.Fa.glo x.2).ok K && ((He.Fa.cls x.2).ok K && (He.eqO (PySem.W.findIn K (.ref (He.ga K x.2)) "__class__") (some (some (.builtin "object.__class__"))) && decide (PySem.W.mroIn K (He.ga K x.2) (.type "object") = some true)))) &&
  (M.na.all fun p => M.gc p.1 && (He.Fa.noat (M.cn p.1) (nmAt M.syms p.2)).ok K) &&
  (M.kc.all fun p => decide (PySem.W.kitOne K (tyV' (M.tb K) p.1) (tyV' (M.tb K) p.2.1) = some p.2.2) && (match p.1 with
    | .cls c => M.gc c
    | _ => true)) &&
  (M.ini.all fun p => M.gc p.1 && ((He.Fa.mkr (M.cn p.1)).ok K && (match M.get p.2 with
    | some i => decide (i.k.at_ K = He.ma K (He.ga K (M.cn p.1)) "__init__")
    | none => false))) &&
  (M.me.all fun p => M.gc p.1 && ((He.Fa.meth (M.cn p.1) (nmAt M.syms p.2.1)).ok K && (match M.get p.2.2 with
    | some i => decide (i.k.at_ K = He.ma K (He.ga K (M.cn p.1)) (nmAt M.syms p.2.1))
    | none => false))) &&
  (M.pr.all fun p => M.gc p.1 && ((match M.get p.2.2 with
    | some i => (He.eqO (PySem.W.findIn K (.ref (He.ga K (M.cn p.1))) (nmAt M.syms p.2.1)) (some (some (.ref (He.ma K (He.ga K (M.cn p.1)) (nmAt M.syms p.2.1))))) &&
        (He.eqO (PySem.W.specialIn K (.ref (He.ma K (He.ga K (M.cn p.1)) (nmAt M.syms p.2.1))) "__get__") (some (some (.builtin "property.__get__"))) &&
        (decide (PySem.W.takesIn K (.ref (He.ma K (He.ga K (M.cn p.1)) (nmAt M.syms p.2.1))) = some true) &&
        (match PySem.W.recIn K (He.ma K (He.ga K (M.cn p.1)) (nmAt M.syms p.2.1)) "property" with
          | some (.ref g :: _) => decide (i.k.at_ K = g)
          | _ => false))))
    | none => false))) &&
  (He.eqO (PySem.W.specialIn K (.builtin "object.__class__") "__get__") (some (some (.builtin "getset_descriptor.__get__"))) && decide (PySem.W.takesIn K (.builtin "object.__class__") = some true))
def obsC (M : Md) (K : PySem.W.Frag) : He.AlD := (M.ck K && M.fns.all fun i => i.d.ok K, M.fns.map fun i => He5.fnA K (i.k.at_ K))
def valC (M : Md) : He.AlD := (true, M.fns.map fun i => i.d.val)
def obsCG (n : Nat) (M : Md) (g : Addr → Option Obj) : He.AlD := obsC M (He.frG g (He.asD g n))
def hookC (n : Nat) (M : Md) : PySem.W.Hook where
  α := He.AlD
  obs := fun s => obsCG n M s.heap.get?
  val := fun _ => valC M
  says := fun _ h => ∃ K : PySem.W.Frag, K.In h ∧ obsC M K = valC M
  of := fun _ _ e => ⟨_, He.frG_in, e⟩
  keeps := fun _ _ _ ⟨K, hK, c⟩ k => ⟨K, PySem.W.Frag.In.keeps hK k, c⟩
theorem obsCG_eq {n : Nat} {M : Md} {g : Addr → Option Obj} {s : Shared} (h : ∀ a, g a = s.heap.get? a) : obsCG n M g = (hookC n M).obs s := by
  have e : g = s.heap.get? := funext h
  rw [e] <;> rfl
/-- what is known of a def without the heap -/
structure FnSt (M : Md) (i : FnI) : Prop where
  sc : FnScope i.N i.ps (defScope i.st)
  ck : ∀ K, chkSs (M.wd K) i.N (defScope i.st) i.F.body (defBody i.st) = true
  bi : ∀ K f fd, FunD K i.name i.qual (defArgs i.st) (defBody i.st) (defScope i.st) [] [] f fd → Binds K fd i.ps []
  np : i.ps.length = i.F.np
  nn : i.N.length = i.F.nn
theorem nmAt_inj {l : List Str} (hn : (l.all fun x => !(x.cps.toList.all fun c => c == 0)) = true) (nd : l.Nodup) : ∀ i j, nmAt l i = nmAt l j → i = j := by
  have z : ∀ n (x : Str), x ∈ l → x ≠ ⟨(List.replicate (n + 1) 0).toArray⟩ := fun n x hx e => by
    have := List.all_eq_true.mp hn x hx
    rw [e] at this
    simp at this
  intro i j h
  unfold nmAt at h
  cases hi : l[i]? with
  | none =>
    cases hj : l[j]? with
    | none =>
      rw [hi, hj] at h
      have := congrArg (fun s : Str => s.cps.toList.length) h
      simpa using this
    | some y =>
      rw [hi, hj] at h
      exact (z i y (List.mem_of_getElem? hj) h.symm).elim
  | some x =>
    cases hj : l[j]? with
    | none =>
      rw [hi, hj] at h
      exact (z j x (List.mem_of_getElem? hi) h).elim
    | some y =>
      rw [hi, hj] at h
      have e : x = y := h
      subst e
      obtain ⟨h1, e1⟩ := List.getElem?_eq_some_iff.mp hi
      obtain ⟨h2, e2⟩ := List.getElem?_eq_some_iff.mp hj
      exact (List.getElem_inj nd).mp (e1.trans e2.symm)
theorem find2_mem {l : List (Nat × Nat)} {a b : Nat} (h : find2 l a = some b) : (a, b) ∈ l := by
  unfold find2 at h
  cases e : l.find? fun p => p.1 == a with
  | none => rw [e] at h; cases h
  | some p =>
    rw [e] at h
    have e2 : p.2 = b := Option.some.inj h
    have e1 : p.1 = a := by simpa using List.find?_some e
    have := List.mem_of_find?_eq_some e
    rw [← e1, ← e2]; exact this
theorem find3_mem {l : List (Nat × Nat × Nat)} {a b c : Nat} (h : find3 l a b = some c) : (a, b, c) ∈ l := by
  unfold find3 at h
  cases e : l.find? fun p => p.1 == a && p.2.1 == b with
  | none => rw [e] at h; cases h
  | some p =>
    rw [e] at h
    have e2 : p.2.2 = c := Option.some.inj h
    have e1 := List.find?_some e
    simp only [Bool.and_eq_true, beq_iff_eq] at e1
    have := List.mem_of_find?_eq_some e
    rw [← e1.1, ← e1.2, ← e2]; exact this
theorem strs_dv {K : PySem.W.Frag} (xs : List Tx) : (xs.map fun y => He.Dv.str (st y)).map (He.Dv.v K) = (xs.map st).map V.str := by
  rw [List.map_map, List.map_map]; rfl
theorem asStrs_eq : ∀ {ds : List D} {xs : List Tx}, asStrs ds = some xs → ds = xs.map .str
  | [], xs, h => by cases h; rfl
  | d :: ds, xs, h => by
    unfold asStrs at h
    split at h
    · rename_i x r e1 e2
      cases h
      cases d with
      | str y => cases e1; rw [asStrs_eq e2]; rfl
      | _ => cases e1
    · cases h
theorem gl_ok {T : Tb} {K : PySem.W.Frag} (hT : T.K = K) {h : Heap} {mg : Str → Option Value} (X : K.In h) (Gn : h.Ns mainGlobals mg) {x : Str} {d : D} (c : glOk K x d = true) : ∃ v u, mg x = some u ∧ RelV v u ∧ ∀ S : Sw, rep T S.fz S.hp d v := by
  cases d with
  | int i =>
    obtain ⟨t, e⟩ := He.int_ok X Gn c
    exact ⟨.int i, _, e, ⟨t, rfl⟩, fun S => mk_int⟩
  | str y =>
    simp only [glOk, Bool.and_eq_true, decide_eq_true_eq] at c
    obtain ⟨t, e⟩ := He.str_ok X Gn c.1
    exact ⟨.str (st y), _, e, ⟨t, rfl⟩, fun S => mk_str c.2.1 fun q hq => of_decide_eq_true (List.all_eq_true.mp c.2.2 q hq)⟩
  | tup ds =>
    simp only [glOk] at c
    split at c
    · rename_i xs e
      simp only [Bool.and_eq_true] at c
      obtain ⟨c1, c2, c3⟩ := c
      refine ⟨.ref (He.ga K x), _, PySem.W.mg_of X Gn (He.eqO_ok c1), rfl, fun S => ?_⟩
      have q := He.tupB_ok c2 S.hp
      rw [strs_dv] at q
      rw [asStrs_eq e]
      refine mk_tup (by rw [hT]; exact q) (strs_rep fun y hy => ?_)
      have := List.all_eq_true.mp c3 y hy
      simp only [Bool.and_eq_true, decide_eq_true_eq] at this
      exact ⟨this.1, fun q hq => of_decide_eq_true (List.all_eq_true.mp this.2 q hq)⟩
    · cases c
  | _ => cases c
theorem wok_of {M : Md} {K : PySem.W.Frag} {h : Heap} {mg : Str → Option Value} (X : K.In h) (Gn : h.Ns mainGlobals mg) (c : obsC M K = valC M) (sy : (M.syms.all fun x => !(x.cps.toList.all fun c => c == 0)) = true) (nd : M.syms.Nodup) (hf : ∀ i ∈ M.fns, FnSt M i) : WOk (M.wd K) mg := by
  have c1 : (M.ck K && M.fns.all fun i => i.d.ok K) = true := congrArg (fun z : He.AlD => z.1) c
  have c2 : (M.fns.map fun i => He5.fnA K (i.k.at_ K)) = M.fns.map fun i => i.d.val := congrArg (fun z : He.AlD => z.2) c
  obtain ⟨ck, cd⟩ := Bool.and_eq_true_iff.mp c1
  unfold Md.ck at ck
  simp only [Bool.and_eq_true, List.all_eq_true] at ck
  obtain ⟨⟨⟨⟨⟨⟨⟨⟨⟨k1, k2⟩, k3⟩, k4⟩, k5⟩, k6⟩, k7⟩, k8⟩, k9⟩, k10, k11⟩ := ck
  have cls : ∀ n, M.gc n = true → ∃ p ∈ M.clss, M.cn n = p.2 := fun n hn => by
    unfold Md.gc at hn
    obtain ⟨p, hp⟩ := Option.isSome_iff_exists.mp hn
    refine ⟨p, List.mem_of_find?_eq_some hp, ?_⟩
    unfold Md.cn
    rw [hp]
  have cok : ∀ n, M.gc n = true → ClsOk K (He.ga K (M.cn n)) := fun n hn => by
    obtain ⟨p, hp, e⟩ := cls n hn
    obtain ⟨_, a2, a3, a4⟩ := k4 _ hp
    rw [e]
    exact ⟨He.cls_ok a2, He.eqO_ok a3, of_decide_eq_true a4⟩
  have fD : ∀ i ∈ M.fns, ∃ fd, FunD K i.name i.qual (defArgs i.st) (defBody i.st) (defScope i.st) [] [] (i.k.at_ K) fd := fun i hi => by
    obtain ⟨j, hj, e⟩ := List.mem_iff_getElem.mp hi
    have e2 : (M.fns.map fun i => He5.fnA K (i.k.at_ K))[j]? = (M.fns.map fun i => i.d.val)[j]? := by rw [c2]
    rw [List.getElem?_map, List.getElem?_map, List.getElem?_eq_getElem hj, e] at e2
    exact He5.DefA.funD (d := i.d) (Option.some.inj e2) (List.all_eq_true.mp cd i hi)
  have some_of : ∀ {f : Nat} {i : FnI}, M.get f = some i → ((M.wd K).P.fn f).isSome = true := fun {f i} e => by
    show ((M.get f).map (·.F)).isSome = true
    rw [e]; rfl
  have fa_of : ∀ {f : Nat} {i : FnI}, M.get f = some i → (M.wd K).fa f = i.k.at_ K := fun {f i} e => by
    show (match M.get f with | some i => i.k.at_ K | none => 0) = _
    rw [e]
  refine { tb := ?_, blt := fun x hx => He.free_ok X Gn (k1 x hx), cst := fun n d e => ?_, fn := fun f e => ?_, cls := fun c e => ?_, ini := fun c f e => ?_, me := fun c m f e => ?_, pr := fun c m f e => ?_, df := fun f F e => ?_ }
  · refine { inj := nmAt_inj sy nd, na := fun c f e => ?_, kc := fun t u b e => ?_, ko := fun c u b e => ?_, hn := He.eqO_ok k10, htk := of_decide_eq_true k11 }
    · have hm : (c, f) ∈ M.na := List.contains_iff_mem.mp (show M.na.contains (c, f) = true from e)
      obtain ⟨a1, a2⟩ := k5 _ hm
      exact ⟨cok c a1, He.noat_ok a2⟩
    all_goals
      have e' : (M.kc.find? fun p => p.1 == _ && p.2.1 == _).map (·.2.2) = some b := e
      cases q : M.kc.find? fun p => p.1 == _ && p.2.1 == u with
      | none => rw [q] at e'; cases e'
      | some p =>
        rw [q] at e'
        have hb : p.2.2 = b := Option.some.inj e'
        have hp := List.find?_some q
        simp only [Bool.and_eq_true, beq_iff_eq] at hp
        obtain ⟨a1, a2⟩ := k6 p (List.mem_of_find?_eq_some q)
        first
          | (rw [← hp.1, ← hp.2, ← hb]; exact of_decide_eq_true a1)
          | (rw [hp.1] at a2; exact cok c a2)
  · have e' : (M.gl n).map (·.2.2) = some d := e
    cases q : M.gl n with
    | none => rw [q] at e'; cases e'
    | some p =>
      rw [q] at e'
      cases e'
      have hg : (M.wd K).gname n = p.2.1 := by
        show (match M.gl n with | some p => p.2.1 | none => _) = _
        rw [q]
      rw [hg]
      exact gl_ok (T := M.tb K) rfl X Gn (k2 p (List.mem_of_find?_eq_some q))
  · have e' : (match M.get f with | some i => isTop i.k | none => false) = true := e
    cases q : M.get f with
    | none => rw [q] at e'; cases e'
    | some i =>
      rw [q] at e'
      have hm : i ∈ M.fns := List.mem_of_find?_eq_some q
      have a := k3 i hm
      rw [Bool.or_eq_true] at a
      have a2 : (He.Fa.glo (topN i.k)).ok K = true := a.resolve_left (by rw [show isTop i.k = true from e']; decide)
      have hn : (M.wd K).fname f = topN i.k := by
        show (match M.get f with | some i => topN i.k | none => _) = _
        rw [q]
      obtain ⟨fd, FD⟩ := fD i hm
      rw [hn, fa_of q]
      refine ⟨?_, FD.kp, some_of q⟩
      have := He.glo_ok X Gn a2
      rw [this]
      cases hk : i.k with
      | top x => rfl
      | meth c m => exact Bool.noConfusion ((congrArg isTop hk).symm.trans (show isTop i.k = true from e'))
      | prop c m => exact Bool.noConfusion ((congrArg isTop hk).symm.trans (show isTop i.k = true from e'))
  · obtain ⟨p, hp, ep⟩ := cls c e
    have := He.glo_ok X Gn (k4 _ hp).1
    rw [← ep] at this
    exact this
  · obtain ⟨a1, a2, a3⟩ := k7 _ (find2_mem e)
    split at a3
    · rename_i i q
      rw [fa_of q, of_decide_eq_true a3]
      exact ⟨He.mkr_ok a2, some_of q⟩
    · cases a3
  · obtain ⟨a1, a2, a3⟩ := k8 _ (find3_mem e)
    split at a3
    · rename_i i q
      rw [fa_of q, of_decide_eq_true a3]
      exact ⟨(cok c a1).c, He.meth_ok a2, some_of q⟩
    · cases a3
  · obtain ⟨a1, a3⟩ := k9 _ (find3_mem e)
    split at a3
    · rename_i i q
      simp only [Bool.and_eq_true] at a3
      obtain ⟨b1, b2, b3, b4⟩ := a3
      split at b4
      · rename_i g r hr
        rw [fa_of q, of_decide_eq_true b4]
        exact ⟨⟨_, ⟨He.eqO_ok b1, He.eqO_ok b2, of_decide_eq_true b3, _, hr⟩⟩, (cok c a1).c, some_of q⟩
      · cases b4
    · cases a3
  · have e' : (M.get f).map (·.F) = some F := e
    cases q : M.get f with
    | none => rw [q] at e'; cases e'
    | some i =>
      rw [q] at e'
      cases e'
      have hm : i ∈ M.fns := List.mem_of_find?_eq_some q
      obtain ⟨fd, FD⟩ := fD i hm
      have H := hf i hm
      rw [fa_of q]
      exact ⟨i.name, i.qual, defArgs i.st, defBody i.st, defScope i.st, i.N, i.ps, fd, FD, H.sc, H.bi K _ fd FD, H.ck K, H.np, H.nn⟩
theorem top_glo {M : Md} {K : PySem.W.Frag} (c : obsC M K = valC M) {i : FnI} (hm : i ∈ M.fns) {x : Str} (hk : i.k = .top x) : (He.Fa.glo x).ok K = true := by
  have c1 : (M.ck K && M.fns.all fun i => i.d.ok K) = true := congrArg (fun z : He.AlD => z.1) c
  obtain ⟨ck, _⟩ := Bool.and_eq_true_iff.mp c1
  unfold Md.ck at ck
  simp only [Bool.and_eq_true, List.all_eq_true] at ck
  obtain ⟨⟨⟨⟨⟨⟨⟨⟨⟨_, _⟩, k3⟩, _⟩, _⟩, _⟩, _⟩, _⟩, _⟩, _⟩ := ck
  have := k3 i hm
  rw [hk] at this
  simpa [isTop, topN] using this
/-- the law's def, from what the heap tells -/
theorem law_facts {M : Md} {K : PySem.W.Frag} {h : Heap} {mg : Str → Option Value} (X : K.In h) (Gn : h.Ns mainGlobals mg) (c : obsC M K = valC M) (sy : (M.syms.all fun x => !(x.cps.toList.all fun c => c == 0)) = true) (nd : M.syms.Nodup) (hf : ∀ i ∈ M.fns, FnSt M i)
    {ix n : Nat} {i : FnI} (hi : M.get ix = some i) {x : Str} (hps : i.ps = [x]) {lw : Str} (hk : i.k = .top lw) {f : Addr} (hfa : mg lw = some (.ref f))
    (hb : ∀ (kV doc pm : Value) (an : Option Addr) (cdv ct : Value) (us : List Value), us.length = i.ps.length → bindArgs (PySem.W.fnOf i.name i.qual (defArgs i.st) (defBody i.st) (defScope i.st) .none kV doc pm an cdv ct) ⟨us, []⟩ = pure (i.ps.zip us)) :
    ∃ fd : FuncData, (∀ (s : Shared) (v : Value), BindsTo s fd ⟨[v], []⟩ [(x, v)]) ∧ ∀ (P : Program) (w : World) (base : Heap), FnG P w K mg base CX0 (2 * (n + 1)) f fd [x] (lSp (M.tb K) i.F.np (gam (M.tb K) M.pg (n + 1) ix)) := by
  have WO := wok_of X Gn c sy nd hf
  have c1 : (M.ck K && M.fns.all fun i => i.d.ok K) = true := congrArg (fun z : He.AlD => z.1) c
  have c2 : (M.fns.map fun i => He5.fnA K (i.k.at_ K)) = M.fns.map fun i => i.d.val := congrArg (fun z : He.AlD => z.2) c
  obtain ⟨ck, cd⟩ := Bool.and_eq_true_iff.mp c1
  have hm : i ∈ M.fns := List.mem_of_find?_eq_some hi
  obtain ⟨j, hj, ej⟩ := List.mem_iff_getElem.mp hm
  have e2 : (M.fns.map fun i => He5.fnA K (i.k.at_ K))[j]? = (M.fns.map fun i => i.d.val)[j]? := by rw [c2]
  rw [List.getElem?_map, List.getElem?_map, List.getElem?_eq_getElem hj, ej] at e2
  obtain ⟨fd, FD⟩ := He5.DefA.funD (d := i.d) (Option.some.inj e2) (List.all_eq_true.mp cd i hm)
  have FD' : FunD K i.name i.qual (defArgs i.st) (defBody i.st) (defScope i.st) [] [] (i.k.at_ K) fd := FD
  have H := hf i hm
  have e := hfa.symm.trans (He.glo_ok X Gn (top_glo c hm hk))
  have ef : f = i.k.at_ K := by
    rw [hk]
    injection e with e
    injection e
  have hfa2 : (M.wd K).fa ix = i.k.at_ K := by
    show (match M.get ix with | some i => i.k.at_ K | none => 0) = _
    rw [hi]
  have hF : (M.wd K).P.fn ix = some i.F := by
    show (M.get ix).map (·.F) = _
    rw [hi]; rfl
  refine ⟨fd, fun s v => ?_, fun P w base => ?_⟩
  · have b := FunD.bindsA (ps := i.ps) FD' hb s [v] (by rw [hps]; rfl)
    rw [hps] at b
    exact b
  · have := step_ok (P := P) (w := w) (base := base) (n := n) WO hF (all_ok WO n) (by rw [hfa2]; exact FD') H.sc (H.ck K) H.np H.nn
    rw [hfa2, ← ef, hps] at this
    exact this
/-- the promise of the law's def, from its reading -/
theorem law_sp {T : Tb} {n ix : Nat} {a : Addr} {ns : List Int} {H : Hp} (hO : Only H) (hS : SqL T.K H a (ns.map V.int)) (h : gam T P n ix [.rol (ns.map .int)] (fun _ => none) fun ev _ => ev = .v (.bl true)) (E : XK) : lSp T 1 (gam T P n ix) [.ref a] H (fun v _ => v = .bl true) E := by
  refine ⟨rfl, ⟨fun _ => none, fun _ => False, H⟩, [.rol (ns.map .int)], _, rfl, ⟨fun _ _ e => (nomatch e), fun _ z => False.elim z⟩, ?_, h, fun ev S' v _ _ q e => ?_⟩
  · refine repL_mk ?_ repL_mk0
    unfold rep
    refine ⟨a, ns.map V.int, rfl, ?_, ints_mk⟩
    rcases hS with (h | ⟨o, h⟩) | h
    · rcases hO a with z | ⟨o, xs, z⟩ <;> (rw [h] at z; cases z)
    · exact .inl ⟨o, h⟩
    · exact .inr h
  · have e' : ev = .v (.bl true) := e
    subst e'
    have q' : rep T S'.fz S'.hp (.bl true) v := q
    exact rep_bl q'
end DL
set_option Elab.async false
set_option linter.all false
set_option maxRecDepth 100000
set_option maxHeartbeats 4000000
namespace LK15
open PySem PySem.Spec PyProof.Rows L2 DL
abbrev prog : List Stmt := PySem.Challenge.pw_likevalues_k15_whole_walks_step_by_step.main.body
def top (i : Nat) : Stmt := prog.getD i (.Pass ⟨0, 0, 0, 0⟩)
def clsBody : Stmt → List Stmt
  | .ClassDef _ _ _ b _ _ _ _ _ _ _ => b
  | _ => []
def inCls (i j : Nat) : Stmt := (clsBody (top i)).getD j (.Pass ⟨0, 0, 0, 0⟩)
/-- is_integer -/
def f0 : Fn := ⟨1, 1,
      (.cons (.ret false (.andv (.op (.isin .int) (.cons false (.var 0) .nil)) (.tst (.not (.val (.op (.isin .bl) (.cons false (.var 0) .nil)))))))
      .nil)⟩
/-- is_long_word -/
def f1 : Fn := ⟨2, 3,
      (.cons (.ife (.or (.not (.val (.op (.isin .str) (.cons false (.var 0) .nil)))) (.or (.not (.chain .le .le (.lit (.int 1)) (.op .len (.cons false (.var 0) .nil)) (.var 1))) (.op .notin (.cons false (.op .idx (.cons false (.var 0) (.cons false (.lit (.int 0)) .nil))) (.cons false (.glob 0) .nil))))) (.cons (.ret false (.lit (.bl false)))
      .nil) .nil)
      (.cons (.ret false (.op .all (.cons false (.comp (.orv (.op .inn (.cons false (.var 2) (.cons false (.glob 0) .nil))) (.op .inn (.cons false (.var 2) (.cons false (.glob 1) .nil)))) (.nm 2) (.val (.var 0)) [2]) .nil)))
      .nil))⟩
/-- is_word -/
def f2 : Fn := ⟨1, 1,
      (.cons (.ret false (.call 1 (.cons false (.var 0) (.cons false (.glob 2) .nil))))
      .nil)⟩
/-- calls_in -/
def f3 : Fn := ⟨1, 3,
      (.cons (.ife (.val (.op (.isin .str) (.cons false (.var 0) .nil))) (.cons (.ret false (.op .lst .nil))
      .nil) .nil)
      (.cons (.asg true (.nm 1) (.op .lst (.cons false (.op .tup (.cons false (.op .idx (.cons false (.var 0) (.cons false (.lit (.int 0)) .nil))) (.cons false (.op .len (.cons false (.op .idx (.cons false (.var 0) (.cons false (.lit (.int 1)) .nil))) .nil)) .nil))) .nil)))
      (.cons (.for_ (.nm 2) (.val (.op .idx (.cons false (.var 0) (.cons false (.lit (.int 1)) .nil)))) (.cons (.expr (.meth .lst .extend (.var 1) (.cons false (.call 3 (.cons false (.var 2) .nil)) .nil)))
      .nil))
      (.cons (.ret true (.var 1))
      .nil))))⟩
/-- fits_calls -/
def f4 : Fn := ⟨2, 5,
      (.cons (.asg true (.nm 2) (.op .dicof (.cons false (.op .lstof (.cons false (.var 1) .nil)) .nil)))
      (.cons (.for_ (.tp [3, 4]) (.val (.call 3 (.cons false (.var 0) .nil))) (.cons (.ife (.op .ne (.cons false (.meth .dic .get2 (.var 2) (.cons false (.var 3) (.cons false (.var 4) .nil))) (.cons false (.var 4) .nil))) (.cons (.ret false (.lit (.bl false)))
      .nil) .nil)
      (.cons (.st false (.sub (.var 2) (.var 3)) (.var 4))
      .nil)))
      (.cons (.ret false (.lit (.bl true)))
      .nil)))⟩
/-- read_assignment -/
def f5 : Fn := ⟨2, 9,
      (.cons (.asg false (.tp [3, 4, 5]) (.meth .str .part (.var 0) (.cons false (.lit (.str [32, 61, 32])) .nil)))
      (.cons (.ife (.or (.op .eq (.cons false (.var 4) (.cons false (.lit (.str [])) .nil))) (.op .notin (.cons false (.var 3) (.cons false (.var 1) .nil)))) (.cons (.ret false (.lit .non))
      .nil) .nil)
      (.cons (.ife (.op .eq (.cons false (.var 5) (.cons false (.lit (.str [63])) .nil))) (.cons (.ret false (.op .tup (.cons false (.lit (.str [114, 101, 97, 100])) (.cons false (.var 3) .nil))))
      .nil) .nil)
      (.cons (.ife (.op .inn (.cons false (.var 5) (.cons false (.var 1) .nil))) (.cons (.ret false (.op .tup (.cons false (.lit (.str [99, 111, 112, 121])) (.cons false (.var 3) (.cons false (.var 5) .nil)))))
      .nil) .nil)
      (.cons (.asg false (.tp [6, 4, 7]) (.meth .str .part (.var 5) (.cons false (.lit (.str [40])) .nil)))
      (.cons (.ife (.or (.op .eq (.cons false (.var 4) (.cons false (.lit (.str [])) .nil))) (.or (.not (.val (.call 2 (.cons false (.var 6) .nil)))) (.op .ne (.cons false (.op (.sl true false) (.cons false (.var 7) (.cons false (.op .neg (.cons false (.lit (.int 1)) .nil)) .nil))) (.cons false (.lit (.str [41])) .nil))))) (.cons (.ret false (.lit .non))
      .nil) .nil)
      (.cons (.asg false (.nm 2) (.ife (.op .ne (.cons false (.var 7) (.cons false (.lit (.str [41])) .nil))) (.meth .str .split (.op (.sl false true) (.cons false (.var 7) (.cons false (.op .neg (.cons false (.lit (.int 1)) .nil)) .nil))) (.cons false (.lit (.str [44, 32])) .nil)) (.op .lst .nil)))
      (.cons (.ife (.or (.op .gt (.cons false (.op .len (.cons false (.var 2) .nil)) (.cons false (.glob 3) .nil))) (.not (.val (.op .all (.cons false (.comp (.op .inn (.cons false (.var 8) (.cons false (.var 1) .nil))) (.nm 8) (.val (.var 2)) [8]) .nil))))) (.cons (.ret false (.lit .non))
      .nil) .nil)
      (.cons (.ret false (.op .tup (.cons false (.lit (.str [99, 97, 108, 108])) (.cons false (.var 3) (.cons false (.op .tup (.cons false (.var 6) (.cons false (.op .tupof (.cons false (.var 2) .nil)) .nil))) .nil)))))
      .nil)))))))))⟩
/-- read_row -/
def f6 : Fn := ⟨2, 3,
      (.cons (.ife (.op .inn (.cons false (.var 0) (.cons false (.glob 4) .nil))) (.cons (.ret false (.op .tup (.cons false (.var 0) .nil)))
      .nil) .nil)
      (.cons (.asg false (.nm 2) (.meth .str .split (.var 0) (.cons false (.lit (.str [32])) .nil)))
      (.cons (.ife (.and (.op .eq (.cons false (.op .len (.cons false (.var 2) .nil)) (.cons false (.lit (.int 2)) .nil))) (.and (.op .inn (.cons false (.op .idx (.cons false (.var 2) (.cons false (.lit (.int 0)) .nil))) (.cons false (.op .tup (.cons false (.lit (.str [100, 111])) (.cons false (.lit (.str [112, 97, 114, 116])) .nil))) .nil))) (.val (.call 2 (.cons false (.op .idx (.cons false (.var 2) (.cons false (.lit (.int 1)) .nil))) .nil))))) (.cons (.ret false (.op .tup (.cons false (.op .idx (.cons false (.var 2) (.cons false (.lit (.int 0)) .nil))) (.cons false (.op .idx (.cons false (.var 2) (.cons false (.lit (.int 1)) .nil))) .nil))))
      .nil) .nil)
      (.cons (.ret false (.call 5 (.cons false (.var 0) (.cons false (.var 1) .nil))))
      .nil))))⟩
/-- read_words -/
def f7 : Fn := ⟨3, 5,
      (.cons (.asg false (.nm 3) (.meth .str .split (.var 0) (.cons false (.lit (.str [32])) .nil)))
      (.cons (.ife (.or (.op .ne (.cons false (.op .idx (.cons false (.var 3) (.cons false (.lit (.int 0)) .nil))) (.cons false (.var 1) .nil))) (.not (.val (.op .all (.cons false (.comp (.call 1 (.cons false (.var 4) (.cons false (.var 2) .nil))) (.nm 4) (.val (.op (.sl true false) (.cons false (.var 3) (.cons false (.lit (.int 1)) .nil)))) [4]) .nil))))) (.cons (.ret false (.lit .non))
      .nil) .nil)
      (.cons (.ret false (.ife (.op .eq (.cons false (.op .len (.cons false (.op .dicof (.cons false (.comp (.op .tup (.cons false (.var 4) (.cons false (.lit (.bl true)) .nil))) (.nm 4) (.val (.op (.sl true false) (.cons false (.var 3) (.cons false (.lit (.int 1)) .nil)))) [4]) .nil)) .nil)) (.cons false (.op .sub (.cons false (.op .len (.cons false (.var 3) .nil)) (.cons false (.lit (.int 1)) .nil))) .nil))) (.op (.sl true false) (.cons false (.var 3) (.cons false (.lit (.int 1)) .nil))) (.lit .non)))
      .nil)))⟩
/-- Plan.__init__ -/
def f8 : Fn := ⟨5, 7,
      (.cons (.st false (.at_ (.var 0) 9) (.meth .str .split (.var 1) (.cons false (.lit (.str [10])) .nil)))
      (.cons (.st false (.at_ (.var 0) 10) (.orv (.call 7 (.cons false (.op .idx (.cons false (.op (.attr 9) (.cons false (.var 0) .nil)) (.cons false (.lit (.int 0)) .nil))) (.cons false (.lit (.str [110, 97, 109, 101, 115])) (.cons false (.var 4) .nil)))) (.op .lst .nil)))
      (.cons (.asg false (.nm 5) (.ife (.op .gt (.cons false (.op .len (.cons false (.op (.attr 9) (.cons false (.var 0) .nil)) .nil)) (.cons false (.lit (.int 1)) .nil))) (.call 7 (.cons false (.op .idx (.cons false (.op (.attr 9) (.cons false (.var 0) .nil)) (.cons false (.lit (.int 1)) .nil))) (.cons false (.lit (.str [107, 101, 101, 112])) (.cons false (.var 4) .nil)))) (.lit .non)))
      (.cons (.st false (.at_ (.var 0) 11) (.orv (.var 5) (.op .lst .nil)))
      (.cons (.st false (.at_ (.var 0) 8) (.op .add (.cons false (.op .lst (.cons false (.op .tup (.cons false (.lit (.str [110, 97, 109, 101, 115])) .nil)) (.cons false (.op .tup (.cons false (.lit (.str [107, 101, 101, 112])) .nil)) .nil))) (.cons false (.comp (.call 6 (.cons false (.var 6) (.cons false (.op (.attr 10) (.cons false (.var 0) .nil)) .nil))) (.nm 6) (.val (.op (.sl true false) (.cons false (.op (.attr 9) (.cons false (.var 0) .nil)) (.cons false (.lit (.int 2)) .nil)))) [6]) .nil))))
      (.cons (.unp [(.at_ (.var 0) 4), (.at_ (.var 0) 5), (.at_ (.var 0) 6), (.at_ (.var 0) 7)] (.op .tup (.cons true (.op .dic0 .nil) (.cons true (.op .dic0 .nil) (.cons true (.op .dic0 .nil) (.cons false (.lit (.int 0)) .nil))))))
      (.cons (.st false (.at_ (.var 0) 0) (.andv (.ucall 1 (.var 0) (.cons false (.var 2) (.cons false (.var 3) .nil))) (.andv (.ucall 2 (.var 0) .nil) (.ucall 3 (.var 0) .nil))))
      .nil)))))))⟩
/-- Plan.is_headed -/
def f9 : Fn := ⟨3, 4,
      (.cons (.ife (.or (.not (.chain .le .le (.lit (.int 1)) (.op .len (.cons false (.op (.attr 10) (.cons false (.var 0) .nil)) .nil)) (.var 1))) (.not (.chain .le .le (.glob 5) (.op .len (.cons false (.op (.attr 9) (.cons false (.var 0) .nil)) .nil)) (.var 2)))) (.cons (.ret false (.lit (.bl false)))
      .nil) .nil)
      (.cons (.ife (.or (.op .eq (.cons false (.op (.attr 11) (.cons false (.var 0) .nil)) (.cons false (.op .lst .nil) .nil))) (.op .ne (.cons false (.op (.attr 11) (.cons false (.var 0) .nil)) (.cons false (.compIf (.var 3) (.nm 3) (.val (.op (.attr 10) (.cons false (.var 0) .nil))) (.op .inn (.cons false (.var 3) (.cons false (.op (.attr 11) (.cons false (.var 0) .nil)) .nil))) [3]) .nil)))) (.cons (.ret false (.lit (.bl false)))
      .nil) .nil)
      (.cons (.ret false (.op .notin (.cons false (.lit .non) (.cons false (.op (.attr 8) (.cons false (.var 0) .nil)) .nil))))
      .nil)))⟩
/-- Plan.is_laid -/
def f10 : Fn := ⟨1, 6,
      (.cons (.asg true (.nm 1) (.op .lst .nil))
      (.cons (.for_ (.nm 2) (.rng2 (.glob 5) (.op .add (.cons false (.op .len (.cons false (.op (.attr 9) (.cons false (.var 0) .nil)) .nil)) (.cons false (.lit (.int 1)) .nil)))) (.cons (.asg false (.nm 4) (.op .idx (.cons false (.op (.attr 8) (.cons false (.var 0) .nil)) (.cons false (.op .sub (.cons false (.var 2) (.cons false (.lit (.int 1)) .nil))) .nil))))
      (.cons (.ife (.op .eq (.cons false (.op .idx (.cons false (.var 4) (.cons false (.lit (.int 0)) .nil))) (.cons false (.lit (.str [112, 97, 114, 116])) .nil))) (.cons (.ife (.or (.op .ne (.cons false (.var 1) (.cons false (.op .lst .nil) .nil))) (.or (.op .gt (.cons false (.op (.attr 7) (.cons false (.var 0) .nil)) (.cons false (.lit (.int 0)) .nil))) (.or (.op .inn (.cons false (.op .idx (.cons false (.var 4) (.cons false (.lit (.int 1)) .nil))) (.cons false (.op (.attr 6) (.cons false (.var 0) .nil)) .nil))) (.op .eq (.cons false (.op .len (.cons false (.op (.attr 6) (.cons false (.var 0) .nil)) .nil)) (.cons false (.glob 6) .nil)))))) (.cons (.ret false (.lit (.bl false)))
      .nil) .nil)
      (.cons (.expr (.meth .lst .append (.var 1) (.cons false (.var 2) .nil)))
      (.cons (.st false (.sub (.op (.attr 6) (.cons false (.var 0) .nil)) (.op .idx (.cons false (.var 4) (.cons false (.lit (.int 1)) .nil)))) (.var 2))
      .nil))) (.cons (.ife (.and (.op .eq (.cons false (.var 1) (.cons false (.op .lst .nil) .nil))) (.op .eq (.cons false (.op (.attr 7) (.cons false (.var 0) .nil)) (.cons false (.lit (.int 0)) .nil)))) (.cons (.st false (.at_ (.var 0) 7) (.var 2))
      .nil) .nil)
      .nil))
      (.cons (.ife (.not (.val (.ucall 12 (.var 0) (.cons false (.var 2) (.cons false (.var 4) (.cons true (.var 1) .nil)))))) (.cons (.ret false (.lit (.bl false)))
      .nil) .nil)
      .nil))))
      (.cons (.asg false (.nm 3) (.compIf (.op .idx (.cons false (.var 4) (.cons false (.lit (.int 1)) .nil))) (.nm 4) (.val (.op (.attr 8) (.cons false (.var 0) .nil))) (.op .eq (.cons false (.op .idx (.cons false (.var 4) (.cons false (.lit (.int 0)) .nil))) (.cons false (.lit (.str [100, 111])) .nil))) [4]))
      (.cons (.ret false (.andv (.op .eq (.cons false (.var 1) (.cons false (.op .lst .nil) .nil))) (.andv (.op .gt (.cons false (.op (.attr 7) (.cons false (.var 0) .nil)) (.cons false (.lit (.int 0)) .nil))) (.op .all (.cons false (.compD (.op .inn (.cons false (.var 5) (.cons false (.var 3) .nil))) (.nm 5) (.op (.attr 6) (.cons false (.var 0) .nil)) [5]) .nil)))))
      .nil))))⟩
/-- Plan.is_placed -/
def f11 : Fn := ⟨4, 6,
      (.cons (.asg false (.nm 4) (.ife (.op .ne (.cons false (.var 3) (.cons false (.op .lst .nil) .nil))) (.op .idx (.cons false (.op .idx (.cons false (.op (.attr 8) (.cons false (.var 0) .nil)) (.cons false (.op .sub (.cons false (.op .idx (.cons false (.var 3) (.cons false (.op .neg (.cons false (.lit (.int 1)) .nil)) .nil))) (.cons false (.lit (.int 1)) .nil))) .nil))) (.cons false (.lit (.int 0)) .nil))) (.lit (.str []))))
      (.cons (.ife (.op .inn (.cons false (.op .idx (.cons false (.var 2) (.cons false (.lit (.int 0)) .nil))) (.cons false (.op .tup (.cons false (.lit (.str [101, 105, 116, 104, 101, 114])) (.cons false (.lit (.str [108, 111, 111, 112])) .nil))) .nil))) (.cons (.expr (.meth .lst .append (.var 3) (.cons false (.var 1) .nil)))
      (.cons (.ret false (.op .le (.cons false (.op .len (.cons false (.compIf (.var 5) (.nm 5) (.val (.var 3)) (.op .ne (.cons false (.op .idx (.cons false (.op .idx (.cons false (.op (.attr 8) (.cons false (.var 0) .nil)) (.cons false (.op .sub (.cons false (.var 5) (.cons false (.lit (.int 1)) .nil))) .nil))) (.cons false (.lit (.int 0)) .nil))) (.cons false (.lit (.str [112, 97, 114, 116])) .nil))) [5]) .nil)) (.cons false (.glob 7) .nil))))
      .nil)) .nil)
      (.cons (.ife (.op .eq (.cons false (.op .idx (.cons false (.var 2) (.cons false (.lit (.int 0)) .nil))) (.cons false (.lit (.str [111, 114])) .nil))) (.cons (.ife (.op .ne (.cons false (.var 4) (.cons false (.lit (.str [101, 105, 116, 104, 101, 114])) .nil))) (.cons (.ret false (.lit (.bl false)))
      .nil) .nil)
      (.cons (.st false (.sub (.op (.attr 4) (.cons false (.var 0) .nil)) (.op .idx (.cons false (.var 3) (.cons false (.op .neg (.cons false (.lit (.int 1)) .nil)) .nil)))) (.var 1))
      (.cons (.st false (.sub (.op (.attr 5) (.cons false (.var 0) .nil)) (.var 1)) (.op .idx (.cons false (.var 3) (.cons false (.op .neg (.cons false (.lit (.int 1)) .nil)) .nil))))
      (.cons (.st false (.sub (.var 3) (.op .neg (.cons false (.lit (.int 1)) .nil))) (.var 1))
      .nil)))) .nil)
      (.cons (.ife (.op .eq (.cons false (.op .idx (.cons false (.var 2) (.cons false (.lit (.int 0)) .nil))) (.cons false (.lit (.str [101, 110, 100])) .nil))) (.cons (.ife (.op .notin (.cons false (.var 4) (.cons false (.op .tup (.cons false (.lit (.str [111, 114])) (.cons false (.lit (.str [108, 111, 111, 112])) (.cons false (.lit (.str [112, 97, 114, 116])) .nil)))) .nil))) (.cons (.ret false (.lit (.bl false)))
      .nil) .nil)
      (.cons (.st false (.sub (.op (.attr 4) (.cons false (.var 0) .nil)) (.op .idx (.cons false (.var 3) (.cons false (.op .neg (.cons false (.lit (.int 1)) .nil)) .nil)))) (.var 1))
      (.cons (.st false (.sub (.op (.attr 5) (.cons false (.var 0) .nil)) (.var 1)) (.op .idx (.cons false (.var 3) (.cons false (.op .neg (.cons false (.lit (.int 1)) .nil)) .nil))))
      (.cons (.expr (.meth .lst .pop (.var 3) .nil))
      .nil)))) .nil)
      (.cons (.ret false (.orv (.op .ne (.cons false (.op .idx (.cons false (.var 2) (.cons false (.lit (.int 0)) .nil))) (.cons false (.lit (.str [100, 111])) .nil))) (.ucall 13 (.var 0) (.cons false (.op .idx (.cons false (.var 2) (.cons false (.lit (.int 1)) .nil))) (.cons false (.var 3) .nil)))))
      .nil)))))⟩
/-- Plan.is_ahead -/
def f12 : Fn := ⟨3, 3,
      (.cons (.ret false (.andv (.op .inn (.cons false (.var 1) (.cons false (.op (.attr 6) (.cons false (.var 0) .nil)) .nil))) (.op .notin (.cons false (.op .idx (.cons false (.op (.attr 6) (.cons false (.var 0) .nil)) (.cons false (.var 1) .nil))) (.cons false (.var 2) .nil)))))
      .nil)⟩
/-- Plan.has_right_calls -/
def f13 : Fn := ⟨1, 2,
      (.cons (.for_ (.nm 1) (.val (.op (.attr 8) (.cons false (.var 0) .nil))) (.cons (.ife (.and (.op .eq (.cons false (.op .idx (.cons false (.var 1) (.cons false (.lit (.int 0)) .nil))) (.cons false (.lit (.str [99, 97, 108, 108])) .nil))) (.not (.val (.call 4 (.cons false (.op .idx (.cons false (.var 1) (.cons false (.lit (.int 2)) .nil))) (.cons false (.ucall 14 (.var 0) .nil) .nil)))))) (.cons (.ret false (.lit (.bl false)))
      .nil) .nil)
      .nil))
      (.cons (.ret false (.lit (.bl true)))
      .nil))⟩
/-- Plan.calls_told -/
def f14 : Fn := ⟨1, 3,
      (.cons (.asg false (.nm 1) (.op .dicof (.cons false (.compIf (.op .tup (.cons false (.op .idx (.cons false (.op .idx (.cons false (.var 2) (.cons false (.lit (.int 2)) .nil))) (.cons false (.lit (.int 0)) .nil))) (.cons false (.op .len (.cons false (.op .idx (.cons false (.op .idx (.cons false (.var 2) (.cons false (.lit (.int 2)) .nil))) (.cons false (.lit (.int 1)) .nil))) .nil)) .nil))) (.nm 2) (.val (.op (.attr 8) (.cons false (.var 0) .nil))) (.op .eq (.cons false (.op .idx (.cons false (.var 2) (.cons false (.lit (.int 0)) .nil))) (.cons false (.lit (.str [99, 97, 108, 108])) .nil))) [2]) .nil)))
      (.cons (.ret false (.op .sortP (.cons false (.op .itemsL (.cons false (.var 1) .nil)) .nil)))
      .nil))⟩
/-- Plan.last_place -/
def f15 : Fn := ⟨1, 1,
      (.cons (.ret false (.op .add (.cons false (.op .len (.cons false (.op (.attr 9) (.cons false (.var 0) .nil)) .nil)) (.cons false (.lit (.int 1)) .nil))))
      .nil)⟩
/-- Plan.after -/
def f16 : Fn := ⟨3, 4,
      (.cons (.ife (.op .eq (.cons false (.var 1) (.cons false (.ucall 16 (.var 0) .nil) .nil))) (.cons (.ret false (.op .lst .nil))
      .nil) .nil)
      (.cons (.asg false (.nm 3) (.op .idx (.cons false (.op (.attr 8) (.cons false (.var 0) .nil)) (.cons false (.op .sub (.cons false (.var 1) (.cons false (.lit (.int 1)) .nil))) .nil))))
      (.cons (.ife (.op .eq (.cons false (.op .idx (.cons false (.var 3) (.cons false (.lit (.int 0)) .nil))) (.cons false (.lit (.str [101, 105, 116, 104, 101, 114])) .nil))) (.cons (.ret false (.op .lst (.cons false (.op .tup (.cons false (.op .add (.cons false (.var 1) (.cons false (.lit (.int 1)) .nil))) (.cons false (.var 2) .nil))) (.cons false (.op .tup (.cons false (.op .add (.cons false (.op .idx (.cons false (.op (.attr 4) (.cons false (.var 0) .nil)) (.cons false (.var 1) .nil))) (.cons false (.lit (.int 1)) .nil))) (.cons false (.var 2) .nil))) .nil))))
      .nil) .nil)
      (.cons (.ife (.op .eq (.cons false (.op .idx (.cons false (.var 3) (.cons false (.lit (.int 0)) .nil))) (.cons false (.lit (.str [111, 114])) .nil))) (.cons (.ret false (.op .lst (.cons false (.op .tup (.cons false (.op .add (.cons false (.op .idx (.cons false (.op (.attr 4) (.cons false (.var 0) .nil)) (.cons false (.var 1) .nil))) (.cons false (.lit (.int 1)) .nil))) (.cons false (.var 2) .nil))) .nil)))
      .nil) .nil)
      (.cons (.ife (.op .eq (.cons false (.op .idx (.cons false (.var 3) (.cons false (.lit (.int 0)) .nil))) (.cons false (.lit (.str [108, 111, 111, 112])) .nil))) (.cons (.ret false (.op .lst (.cons false (.op .tup (.cons false (.op .add (.cons false (.var 1) (.cons false (.lit (.int 1)) .nil))) (.cons false (.var 2) .nil))) (.cons false (.op .tup (.cons false (.op .add (.cons false (.op .idx (.cons false (.op (.attr 4) (.cons false (.var 0) .nil)) (.cons false (.var 1) .nil))) (.cons false (.lit (.int 1)) .nil))) (.cons false (.var 2) .nil))) .nil))))
      .nil) .nil)
      (.cons (.ife (.op .eq (.cons false (.op .idx (.cons false (.var 3) (.cons false (.lit (.int 0)) .nil))) (.cons false (.lit (.str [100, 111])) .nil))) (.cons (.ret false (.op .lst (.cons false (.op .tup (.cons false (.op .add (.cons false (.op .idx (.cons false (.op (.attr 6) (.cons false (.var 0) .nil)) (.cons false (.op .idx (.cons false (.var 3) (.cons false (.lit (.int 1)) .nil))) .nil))) (.cons false (.lit (.int 1)) .nil))) (.cons false (.star false (.all (.var 2) (.one (.var 1) .nil))) .nil))) .nil)))
      .nil) .nil)
      (.cons (.ife (.op .eq (.cons false (.op .idx (.cons false (.var 3) (.cons false (.lit (.int 0)) .nil))) (.cons false (.lit (.str [101, 110, 100])) .nil))) (.cons (.ret false (.ucall 15 (.var 0) (.cons false (.var 1) (.cons false (.var 2) .nil))))
      .nil) .nil)
      (.cons (.ret false (.op .lst (.cons false (.op .tup (.cons false (.op .add (.cons false (.var 1) (.cons false (.lit (.int 1)) .nil))) (.cons false (.var 2) .nil))) .nil)))
      .nil))))))))⟩
/-- Plan.after_end -/
def f17 : Fn := ⟨3, 5,
      (.cons (.asg false (.nm 3) (.op .idx (.cons false (.op (.attr 5) (.cons false (.var 0) .nil)) (.cons false (.var 1) .nil))))
      (.cons (.asg false (.nm 4) (.op .idx (.cons false (.op .idx (.cons false (.op (.attr 8) (.cons false (.var 0) .nil)) (.cons false (.op .sub (.cons false (.var 3) (.cons false (.lit (.int 1)) .nil))) .nil))) (.cons false (.lit (.int 0)) .nil))))
      (.cons (.ife (.op .eq (.cons false (.var 4) (.cons false (.lit (.str [108, 111, 111, 112])) .nil))) (.cons (.ret false (.op .lst (.cons false (.op .tup (.cons false (.op .add (.cons false (.var 3) (.cons false (.lit (.int 1)) .nil))) (.cons false (.var 2) .nil))) (.cons false (.op .tup (.cons false (.op .add (.cons false (.var 1) (.cons false (.lit (.int 1)) .nil))) (.cons false (.var 2) .nil))) .nil))))
      .nil) .nil)
      (.cons (.ife (.op .eq (.cons false (.var 4) (.cons false (.lit (.str [112, 97, 114, 116])) .nil))) (.cons (.ret false (.op .lst (.cons false (.op .tup (.cons false (.op .add (.cons false (.op .idx (.cons false (.var 2) (.cons false (.op .neg (.cons false (.lit (.int 1)) .nil)) .nil))) (.cons false (.lit (.int 1)) .nil))) (.cons false (.op (.sl false true) (.cons false (.var 2) (.cons false (.op .neg (.cons false (.lit (.int 1)) .nil)) .nil))) .nil))) .nil)))
      .nil) .nil)
      (.cons (.ret false (.op .lst (.cons false (.op .tup (.cons false (.op .add (.cons false (.var 1) (.cons false (.lit (.int 1)) .nil))) (.cons false (.var 2) .nil))) .nil)))
      .nil)))))⟩
/-- Program.__init__ -/
def f18 : Fn := ⟨2, 2,
      (.cons (.ife (.not (.val (.op (.isin .str) (.cons false (.var 1) .nil)))) (.cons .never
      .nil) .nil)
      (.cons (.st false (.at_ (.var 0) 18) (.make true 0 (.cons false (.var 1) (.cons false (.glob 9) (.cons false (.glob 8) (.cons false (.glob 2) .nil))))))
      (.cons (.ife (.not (.val (.op (.attr 0) (.cons false (.op (.attr 18) (.cons false (.var 0) .nil)) .nil)))) (.cons .never
      .nil) .nil)
      (.cons (.st false (.at_ (.var 0) 17) (.var 1))
      .nil))))⟩
/-- check_program -/
def f19 : Fn := ⟨1, 1,
      (.cons (.ife (.not (.val (.op (.isin (.cls 1)) (.cons false (.var 0) .nil)))) (.cons .never
      .nil) .nil)
      .nil)⟩
/-- callers_along -/
def f20 : Fn := ⟨2, 7,
      (.cons (.ife (.or (.not (.val (.op (.isin .tup) (.cons false (.var 1) .nil)))) (.or (.op .eq (.cons false (.var 1) (.cons false (.op .tup .nil) .nil))) (.not (.val (.op .all (.cons false (.comp (.call 0 (.cons false (.var 6) .nil)) (.nm 6) (.val (.var 1)) [6]) .nil)))))) (.cons (.ret false (.lit .non))
      .nil) .nil)
      (.cons (.ife (.op .ne (.cons false (.op .idx (.cons false (.var 1) (.cons false (.lit (.int 0)) .nil))) (.cons false (.op (.attr 7) (.cons false (.var 0) .nil)) .nil))) (.cons (.ret false (.lit .non))
      .nil) .nil)
      (.cons (.asg false (.nm 2) (.op .tup .nil))
      (.cons (.for_ (.nm 3) (.rng2 (.lit (.int 1)) (.op .len (.cons false (.var 1) .nil))) (.cons (.asg false (.nm 4) (.compIf (.var 5) (.nm 5) (.val (.ucall 19 (.var 0) (.cons false (.op .idx (.cons false (.var 1) (.cons false (.op .sub (.cons false (.var 3) (.cons false (.lit (.int 1)) .nil))) .nil))) (.cons false (.var 2) .nil)))) (.op .eq (.cons false (.op .idx (.cons false (.var 5) (.cons false (.lit (.int 0)) .nil))) (.cons false (.op .idx (.cons false (.var 1) (.cons false (.var 3) .nil))) .nil))) [5]))
      (.cons (.ife (.op .eq (.cons false (.var 4) (.cons false (.op .lst .nil) .nil))) (.cons (.ret false (.lit .non))
      .nil) .nil)
      (.cons (.asg false (.nm 2) (.op .idx (.cons false (.op .idx (.cons false (.var 4) (.cons false (.lit (.int 0)) .nil))) (.cons false (.lit (.int 1)) .nil))))
      .nil))))
      (.cons (.ret false (.var 2))
      .nil)))))⟩
/-- is_walk -/
def f44 : Fn := ⟨2, 2,
      (.cons (.expr (.call 19 (.cons false (.var 0) .nil)))
      (.cons (.ret false (.op .notN (.cons false (.call 20 (.cons false (.op (.attr 18) (.cons false (.var 0) .nil)) (.cons false (.var 1) .nil))) .nil)))
      .nil))⟩
/-- check_walk -/
def f21 : Fn := ⟨2, 3,
      (.cons (.expr (.call 19 (.cons false (.var 0) .nil)))
      (.cons (.asg false (.nm 2) (.call 20 (.cons false (.op (.attr 18) (.cons false (.var 0) .nil)) (.cons false (.var 1) .nil))))
      (.cons (.ife (.op .isN (.cons false (.var 2) .nil)) (.cons .never
      .nil) .nil)
      (.cons (.ret false (.var 2))
      .nil))))⟩
/-- callers -/
def f22 : Fn := ⟨2, 2,
      (.cons (.ret false (.call 21 (.cons false (.var 0) (.cons false (.var 1) .nil))))
      .nil)⟩
/-- steps -/
def f23 : Fn := ⟨2, 4,
      (.cons (.asg false (.nm 2) (.call 21 (.cons false (.var 0) (.cons false (.var 1) .nil))))
      (.cons (.ret false (.op .tupof (.cons false (.op .sortI (.cons false (.comp (.op .idx (.cons false (.var 3) (.cons false (.lit (.int 0)) .nil))) (.nm 3) (.val (.ucall 19 (.op (.attr 18) (.cons false (.var 0) .nil)) (.cons false (.op .idx (.cons false (.var 1) (.cons false (.op .neg (.cons false (.lit (.int 1)) .nil)) .nil))) (.cons false (.var 2) .nil)))) [3]) .nil)) .nil)))
      .nil))⟩
/-- _law_purse -/
def f24 : Fn := ⟨2, 5,
      (.cons (.asg false (.nm 2) (.ife (.op .lt (.cons false (.var 1) (.cons false (.op .len (.cons false (.var 0) .nil)) .nil))) (.op .idx (.cons false (.var 0) (.cons false (.var 1) .nil))) (.op .add (.cons false (.op .mul (.cons false (.lit (.int 7001)) (.cons false (.var 1) .nil))) (.cons false (.lit (.int 97)) .nil)))))
      (.cons (.ife (.op .ge (.cons false (.var 1) (.cons false (.op .len (.cons false (.var 0) .nil)) .nil))) (.cons (.for_ (.nm 4) (.val (.op (.sl false true) (.cons false (.var 0) (.cons false (.lit (.int 4)) .nil)))) (.cons (.asg false (.nm 2) (.op .mod (.cons false (.op .int (.cons false (.op .add (.cons false (.op .mul (.cons false (.var 2) (.cons false (.lit (.int 52511)) .nil))) (.cons false (.op .mul (.cons false (.var 4) (.cons false (.op .add (.cons false (.var 1) (.cons false (.lit (.int 3)) .nil))) .nil))) .nil))) .nil)) (.cons false (.lit (.int 2147483563)) .nil))))
      .nil))
      .nil) .nil)
      (.cons (.asg false (.nm 3) (.ife (.or (.op .lt (.cons false (.var 2) (.cons false (.lit (.int 0)) .nil))) (.op .ge (.cons false (.var 2) (.cons false (.op .pow (.cons false (.lit (.int 10)) (.cons false (.lit (.int 18)) .nil))) .nil)))) (.op .abs (.cons false (.var 2) .nil)) (.lit (.int 0))))
      (.cons (.ret false (.op .lst (.cons false (.op .mod (.cons false (.op .int (.cons false (.var 2) .nil)) (.cons false (.lit (.int 2147483543)) .nil))) (.cons false (.var 3) (.cons false (.lit (.int 0)) .nil)))))
      .nil))))⟩
/-- _law_take -/
def f25 : Fn := ⟨2, 4,
      (.cons (.st false (.sub (.var 0) (.lit (.int 2))) (.op .add (.cons false (.op .idx (.cons false (.var 0) (.cons false (.lit (.int 2)) .nil))) (.cons false (.lit (.int 1)) .nil))))
      (.cons (.ife (.op .gt (.cons false (.op .idx (.cons false (.var 0) (.cons false (.lit (.int 1)) .nil))) (.cons false (.lit (.int 0)) .nil))) (.cons (.unp [(.sub (.var 0) (.lit (.int 1))), (.nm 3)] (.op .divmod (.cons false (.op .idx (.cons false (.var 0) (.cons false (.lit (.int 1)) .nil))) (.cons false (.var 1) .nil))))
      (.cons (.ret false (.var 3))
      .nil)) .nil)
      (.cons (.asg false (.nm 2) (.op .int (.cons false (.op .idx (.cons false (.var 0) (.cons false (.lit (.int 0)) .nil))) .nil)))
      (.cons (.st false (.sub (.var 0) (.lit (.int 0))) (.op .mod (.cons false (.op .int (.cons false (.op .add (.cons false (.op .add (.cons false (.op .mul (.cons false (.var 2) (.cons false (.op .add (.cons false (.op .mod (.cons false (.op .int (.cons false (.op .fdiv (.cons false (.var 2) (.cons false (.lit (.int 7)) .nil))) .nil)) (.cons false (.lit (.int 40009)) .nil))) (.cons false (.lit (.int 30011)) .nil))) .nil))) (.cons false (.op .mul (.cons false (.op .mul (.cons false (.lit (.int 70001)) (.cons false (.op .idx (.cons false (.var 0) (.cons false (.lit (.int 2)) .nil))) .nil))) (.cons false (.op .idx (.cons false (.var 0) (.cons false (.lit (.int 2)) .nil))) .nil))) .nil))) (.cons false (.lit (.int 29)) .nil))) .nil)) (.cons false (.lit (.int 2147483543)) .nil))))
      (.cons (.ret false (.op .mod (.cons false (.op .int (.cons false (.op .fdiv (.cons false (.op .idx (.cons false (.var 0) (.cons false (.lit (.int 0)) .nil))) (.cons false (.lit (.int 128)) .nil))) .nil)) (.cons false (.var 1) .nil))))
      .nil)))))⟩
/-- _law_word -/
def f26 : Fn := ⟨1, 5,
      (.cons (.asg false (.nm 1) (.call 25 (.cons true (.var 0) (.cons false (.lit (.int 4)) .nil))))
      (.cons (.ife (.op .eq (.cons false (.var 1) (.cons false (.lit (.int 0)) .nil))) (.cons (.ret false (.op .idx (.cons false (.lit (.str [97, 98, 120, 121, 116, 117, 118, 119])) (.cons false (.call 25 (.cons true (.var 0) (.cons false (.lit (.int 8)) .nil))) .nil))))
      .nil) .nil)
      (.cons (.ife (.op .eq (.cons false (.var 1) (.cons false (.lit (.int 1)) .nil))) (.cons (.asg false (.nm 4) (.op .lst (.cons false (.lit (.str [110, 97, 109, 101, 115])) (.cons false (.lit (.str [107, 101, 101, 112])) (.cons false (.lit (.str [112, 97, 114, 116])) (.cons false (.lit (.str [101, 105, 116, 104, 101, 114])) (.cons false (.lit (.str [111, 114])) (.cons false (.lit (.str [108, 111, 111, 112])) (.cons false (.lit (.str [100, 111])) (.cons false (.lit (.str [101, 110, 100])) (.cons false (.lit (.str [120, 48])) (.cons false (.lit (.str [120, 49])) .nil))))))))))))
      (.cons (.ret false (.op .idx (.cons false (.var 4) (.cons false (.call 25 (.cons true (.var 0) (.cons false (.lit (.int 10)) .nil))) .nil))))
      .nil)) .nil)
      (.cons (.asg false (.nm 2) (.op .idx (.cons false (.lit (.str [97, 98, 99, 100, 101, 102, 103, 104, 105, 106, 107, 108, 109, 110, 111, 112, 113, 114, 115, 116, 117, 118, 119, 120, 121, 122])) (.cons false (.call 25 (.cons true (.var 0) (.cons false (.lit (.int 26)) .nil))) .nil))))
      (.cons (.for_ (.nm 3) (.rng1 (.call 25 (.cons true (.var 0) (.cons false (.lit (.int 9)) .nil)))) (.cons (.asg false (.nm 2) (.op .add (.cons false (.var 2) (.cons false (.op .idx (.cons false (.lit (.str [97, 98, 99, 100, 101, 102, 103, 104, 105, 106, 107, 108, 109, 110, 111, 112, 113, 114, 115, 116, 117, 118, 119, 120, 121, 122, 48, 49, 50, 51, 52, 53, 54, 55, 56, 57])) (.cons false (.call 25 (.cons true (.var 0) (.cons false (.lit (.int 36)) .nil))) .nil))) .nil))))
      .nil))
      (.cons (.ret false (.var 2))
      .nil))))))⟩
/-- _law_words -/
def f27 : Fn := ⟨3, 8,
      (.cons (.asg true (.nm 3) (.op .lst .nil))
      (.cons (.for_ (.nm 4) (.rng1 (.var 1)) (.cons (.asg false (.nm 5) (.call 26 (.cons true (.var 0) .nil)))
      (.cons (.ife (.or (.op .inn (.cons false (.var 5) (.cons false (.var 3) .nil))) (.op .inn (.cons false (.var 5) (.cons false (.var 2) .nil)))) (.cons (.asg false (.nm 6) (.comp (.op .add (.cons false (.lit (.str [110])) (.cons false (.op .strI (.cons false (.var 7) .nil)) .nil))) (.nm 7) (.rng1 (.lit (.int 60))) [7]))
      (.cons (.asg false (.nm 5) (.op .idx (.cons false (.compIf (.var 7) (.nm 7) (.val (.var 6)) (.and (.op .notin (.cons false (.var 7) (.cons false (.var 3) .nil))) (.op .notin (.cons false (.var 7) (.cons false (.var 2) .nil)))) [7]) (.cons false (.lit (.int 0)) .nil))))
      .nil)) .nil)
      (.cons (.expr (.meth .lst .append (.var 3) (.cons false (.var 5) .nil)))
      .nil))))
      (.cons (.ret true (.var 3))
      .nil)))⟩
/-- _law_assigned -/
def f28 : Fn := ⟨3, 7,
      (.cons (.par [4, 5] (.cons false (.op .idx (.cons false (.var 1) (.cons false (.call 25 (.cons true (.var 0) (.cons false (.op .len (.cons false (.var 1) .nil)) .nil))) .nil))) (.cons false (.call 25 (.cons true (.var 0) (.cons false (.lit (.int 6)) .nil))) .nil)))
      (.cons (.ife (.op .eq (.cons false (.var 5) (.cons false (.lit (.int 0)) .nil))) (.cons (.ret false (.op .tup (.cons false (.lit (.str [114, 101, 97, 100])) (.cons false (.var 4) .nil))))
      .nil) .nil)
      (.cons (.ife (.op .lt (.cons false (.var 5) (.cons false (.lit (.int 3)) .nil))) (.cons (.ret false (.op .tup (.cons false (.lit (.str [99, 111, 112, 121])) (.cons false (.var 4) (.cons false (.op .idx (.cons false (.var 1) (.cons false (.call 25 (.cons true (.var 0) (.cons false (.op .len (.cons false (.var 1) .nil)) .nil))) .nil))) .nil)))))
      .nil) .nil)
      (.cons (.asg false (.nm 3) (.op .idx (.cons false (.var 2) (.cons false (.call 25 (.cons true (.var 0) (.cons false (.op .len (.cons false (.var 2) .nil)) .nil))) .nil))))
      (.cons (.ret false (.op .tup (.cons false (.lit (.str [99, 97, 108, 108])) (.cons false (.var 4) (.cons false (.op .idx (.cons false (.var 3) (.cons false (.lit (.int 0)) .nil))) (.cons false (.op .tupof (.cons false (.comp (.op .idx (.cons false (.var 1) (.cons false (.call 25 (.cons true (.var 0) (.cons false (.op .len (.cons false (.var 1) .nil)) .nil))) .nil))) (.nm 6) (.rng1 (.op .idx (.cons false (.var 3) (.cons false (.lit (.int 1)) .nil)))) [6]) .nil)) .nil))))))
      .nil)))))⟩
/-- _law_block -/
def f29 : Fn := ⟨6, 10,
      (.cons (.asg true (.nm 6) (.op .lst .nil))
      (.cons (.for_ (.nm 7) (.rng1 (.call 25 (.cons true (.var 0) (.cons false (.lit (.int 5)) .nil)))) (.cons (.asg false (.nm 8) (.call 25 (.cons true (.var 0) (.cons false (.lit (.int 9)) .nil))))
      (.cons (.ife (.and (.op .eq (.cons false (.var 8) (.cons false (.lit (.int 8)) .nil))) (.and (.op .gt (.cons false (.var 4) (.cons false (.lit (.int 0)) .nil))) (.op .gt (.cons false (.op .idx (.cons false (.var 5) (.cons false (.lit (.int 0)) .nil))) (.cons false (.lit (.int 2)) .nil))))) (.cons (.st false (.sub (.var 5) (.lit (.int 0))) (.op .sub (.cons false (.op .idx (.cons false (.var 5) (.cons false (.lit (.int 0)) .nil))) (.cons false (.lit (.int 3)) .nil))))
      (.cons (.asg false (.nm 9) (.call 29 (.cons true (.var 0) (.cons false (.var 1) (.cons false (.var 2) (.cons false (.var 3) (.cons false (.op .sub (.cons false (.var 4) (.cons false (.lit (.int 1)) .nil))) (.cons true (.var 5) .nil))))))))
      (.cons (.expr (.meth .lst .append (.var 6) (.cons false (.op .tup (.cons false (.lit (.str [101, 105, 116, 104, 101, 114])) (.cons false (.var 9) (.cons false (.call 29 (.cons true (.var 0) (.cons false (.var 1) (.cons false (.var 2) (.cons false (.var 3) (.cons false (.op .sub (.cons false (.var 4) (.cons false (.lit (.int 1)) .nil))) (.cons true (.var 5) .nil))))))) .nil)))) .nil)))
      .nil))) (.cons (.ife (.and (.op .eq (.cons false (.var 8) (.cons false (.lit (.int 7)) .nil))) (.and (.op .gt (.cons false (.var 4) (.cons false (.lit (.int 0)) .nil))) (.op .gt (.cons false (.op .idx (.cons false (.var 5) (.cons false (.lit (.int 0)) .nil))) (.cons false (.lit (.int 1)) .nil))))) (.cons (.st false (.sub (.var 5) (.lit (.int 0))) (.op .sub (.cons false (.op .idx (.cons false (.var 5) (.cons false (.lit (.int 0)) .nil))) (.cons false (.lit (.int 2)) .nil))))
      (.cons (.expr (.meth .lst .append (.var 6) (.cons false (.op .tup (.cons false (.lit (.str [108, 111, 111, 112])) (.cons false (.call 29 (.cons true (.var 0) (.cons false (.var 1) (.cons false (.var 2) (.cons false (.var 3) (.cons false (.op .sub (.cons false (.var 4) (.cons false (.lit (.int 1)) .nil))) (.cons true (.var 5) .nil))))))) .nil))) .nil)))
      .nil)) (.cons (.ife (.and (.op .gt (.cons false (.var 8) (.cons false (.lit (.int 4)) .nil))) (.and (.op .ne (.cons false (.var 3) (.cons false (.op .lst .nil) .nil))) (.op .gt (.cons false (.op .idx (.cons false (.var 5) (.cons false (.lit (.int 0)) .nil))) (.cons false (.lit (.int 0)) .nil))))) (.cons (.st false (.sub (.var 5) (.lit (.int 0))) (.op .sub (.cons false (.op .idx (.cons false (.var 5) (.cons false (.lit (.int 0)) .nil))) (.cons false (.lit (.int 1)) .nil))))
      (.cons (.expr (.meth .lst .append (.var 6) (.cons false (.op .tup (.cons false (.lit (.str [100, 111])) (.cons false (.op .idx (.cons false (.var 3) (.cons false (.call 25 (.cons true (.var 0) (.cons false (.op .len (.cons false (.var 3) .nil)) .nil))) .nil))) .nil))) .nil)))
      .nil)) (.cons (.ife (.op .gt (.cons false (.op .idx (.cons false (.var 5) (.cons false (.lit (.int 0)) .nil))) (.cons false (.lit (.int 0)) .nil))) (.cons (.st false (.sub (.var 5) (.lit (.int 0))) (.op .sub (.cons false (.op .idx (.cons false (.var 5) (.cons false (.lit (.int 0)) .nil))) (.cons false (.lit (.int 1)) .nil))))
      (.cons (.expr (.meth .lst .append (.var 6) (.cons false (.call 28 (.cons true (.var 0) (.cons false (.var 1) (.cons false (.var 2) .nil)))) .nil)))
      .nil)) .nil)
      .nil))
      .nil))
      .nil))
      .nil)))
      (.cons (.ret true (.var 6))
      .nil)))⟩
/-- _law_called -/
def f30 : Fn := ⟨1, 4,
      (.cons (.asg true (.nm 1) (.op .lst .nil))
      (.cons (.for_ (.nm 2) (.val (.var 0)) (.cons (.ife (.op .eq (.cons false (.op .idx (.cons false (.var 2) (.cons false (.lit (.int 0)) .nil))) (.cons false (.lit (.str [100, 111])) .nil))) (.cons (.expr (.meth .lst .append (.var 1) (.cons false (.op .idx (.cons false (.var 2) (.cons false (.lit (.int 1)) .nil))) .nil)))
      .nil) .nil)
      (.cons (.for_ (.nm 3) (.val (.op (.sl true false) (.cons false (.var 2) (.cons false (.lit (.int 1)) .nil)))) (.cons (.ife (.val (.op (.isin .lst) (.cons false (.var 3) .nil))) (.cons (.asg true (.nm 1) (.op .add (.cons false (.var 1) (.cons false (.call 30 (.cons false (.var 3) .nil)) .nil))))
      .nil) .nil)
      .nil))
      .nil)))
      (.cons (.ret true (.var 1))
      .nil)))⟩
/-- _law_plan -/
def f45 : Fn := ⟨6, 16,
      (.cons (.par [10, 11, 12] (.cons false (.call 27 (.cons true (.var 0) (.cons false (.var 3) (.cons false (.op .lst .nil) .nil)))) (.cons true (.op .lst .nil) (.cons true (.op .lst (.cons false (.var 5) .nil)) .nil))))
      (.cons (.for_ (.nm 6) (.rng1 (.var 3)) (.cons (.asg true (.nm 13) (.call 29 (.cons true (.var 0) (.cons false (.var 1) (.cons false (.var 2) (.cons false (.op (.sl false true) (.cons false (.var 10) (.cons false (.var 6) .nil))) (.cons false (.var 4) (.cons true (.var 12) .nil))))))))
      (.cons (.expr (.meth .lst .append (.var 11) (.cons false (.op .tup (.cons false (.op .idx (.cons false (.var 10) (.cons false (.var 6) .nil))) (.cons false (.var 13) .nil))) .nil)))
      .nil)))
      (.cons (.asg true (.nm 7) (.call 29 (.cons true (.var 0) (.cons false (.var 1) (.cons false (.var 2) (.cons false (.var 10) (.cons false (.var 4) (.cons true (.var 12) .nil))))))))
      (.cons (.ife (.op .eq (.cons false (.var 7) (.cons false (.op .lst .nil) .nil))) (.cons (.expr (.meth .lst .append (.var 7) (.cons false (.call 28 (.cons true (.var 0) (.cons false (.var 1) (.cons false (.var 2) .nil)))) .nil)))
      .nil) .nil)
      (.cons (.for_ (.nm 6) (.rng1 (.var 3)) (.cons (.asg false (.nm 14) (.var 7))
      (.cons (.for_ (.nm 15) (.val (.op (.sl true false) (.cons false (.var 11) (.cons false (.op .add (.cons false (.var 6) (.cons false (.lit (.int 1)) .nil))) .nil)))) (.cons (.asg false (.nm 14) (.op .add (.cons false (.var 14) (.cons false (.op .idx (.cons false (.var 15) (.cons false (.lit (.int 1)) .nil))) .nil))))
      .nil))
      (.cons (.ife (.op .notin (.cons false (.op .idx (.cons false (.var 10) (.cons false (.var 6) .nil))) (.cons false (.call 30 (.cons false (.var 14) .nil)) .nil))) (.cons (.expr (.meth .lst .insert (.var 7) (.cons false (.call 25 (.cons true (.var 0) (.cons false (.op .add (.cons false (.op .len (.cons false (.var 7) .nil)) (.cons false (.lit (.int 1)) .nil))) .nil))) (.cons false (.op .tup (.cons false (.lit (.str [100, 111])) (.cons false (.op .idx (.cons false (.var 10) (.cons false (.var 6) .nil))) .nil))) .nil))))
      .nil) .nil)
      .nil))))
      (.cons (.asg true (.nm 8) (.op .lst .nil))
      (.cons (.for_ (.nm 9) (.val (.var 1)) (.cons (.ife (.op .eq (.cons false (.call 25 (.cons true (.var 0) (.cons false (.lit (.int 2)) .nil))) (.cons false (.lit (.int 0)) .nil))) (.cons (.expr (.meth .lst .append (.var 8) (.cons false (.var 9) .nil)))
      .nil) .nil)
      .nil))
      (.cons (.ret false (.op .lst (.cons false (.var 1) (.cons false (.ife (.op .ne (.cons false (.var 8) (.cons false (.op .lst .nil) .nil))) (.rel (.var 8)) (.op .lst (.cons false (.op .idx (.cons false (.var 1) (.cons false (.call 25 (.cons true (.var 0) (.cons false (.op .len (.cons false (.var 1) .nil)) .nil))) .nil))) .nil))) (.cons false (.rel (.var 11)) (.cons false (.rel (.var 7)) .nil))))))
      .nil))))))))⟩
/-- _law_line -/
def f32 : Fn := ⟨1, 1,
      (.cons (.ife (.op .eq (.cons false (.op .idx (.cons false (.var 0) (.cons false (.lit (.int 0)) .nil))) (.cons false (.lit (.str [114, 101, 97, 100])) .nil))) (.cons (.ret false (.op .add (.cons false (.op .idx (.cons false (.var 0) (.cons false (.lit (.int 1)) .nil))) (.cons false (.lit (.str [32, 61, 32, 63])) .nil))))
      .nil) .nil)
      (.cons (.ife (.op .eq (.cons false (.op .idx (.cons false (.var 0) (.cons false (.lit (.int 0)) .nil))) (.cons false (.lit (.str [99, 111, 112, 121])) .nil))) (.cons (.ret false (.op .add (.cons false (.op .add (.cons false (.op .idx (.cons false (.var 0) (.cons false (.lit (.int 1)) .nil))) (.cons false (.lit (.str [32, 61, 32])) .nil))) (.cons false (.op .idx (.cons false (.var 0) (.cons false (.lit (.int 2)) .nil))) .nil))))
      .nil) .nil)
      (.cons (.ret false (.op .add (.cons false (.op .add (.cons false (.op .add (.cons false (.op .add (.cons false (.op .add (.cons false (.op .idx (.cons false (.var 0) (.cons false (.lit (.int 1)) .nil))) (.cons false (.lit (.str [32, 61, 32])) .nil))) (.cons false (.op .idx (.cons false (.var 0) (.cons false (.lit (.int 2)) .nil))) .nil))) (.cons false (.lit (.str [40])) .nil))) (.cons false (.meth .str .join (.lit (.str [44, 32])) (.cons false (.op .idx (.cons false (.var 0) (.cons false (.lit (.int 3)) .nil))) .nil)) .nil))) (.cons false (.lit (.str [41])) .nil))))
      .nil)))⟩
/-- _law_lines -/
def f33 : Fn := ⟨1, 3,
      (.cons (.asg true (.nm 1) (.op .lst .nil))
      (.cons (.for_ (.nm 2) (.val (.var 0)) (.cons (.ife (.op .eq (.cons false (.op .idx (.cons false (.var 2) (.cons false (.lit (.int 0)) .nil))) (.cons false (.lit (.str [101, 105, 116, 104, 101, 114])) .nil))) (.cons (.asg true (.nm 1) (.op .add (.cons false (.op .add (.cons false (.op .add (.cons false (.op .add (.cons false (.op .add (.cons false (.var 1) (.cons false (.op .lst (.cons false (.lit (.str [101, 105, 116, 104, 101, 114])) .nil)) .nil))) (.cons false (.call 33 (.cons false (.op .idx (.cons false (.var 2) (.cons false (.lit (.int 1)) .nil))) .nil)) .nil))) (.cons false (.op .lst (.cons false (.lit (.str [111, 114])) .nil)) .nil))) (.cons false (.call 33 (.cons false (.op .idx (.cons false (.var 2) (.cons false (.lit (.int 2)) .nil))) .nil)) .nil))) (.cons false (.op .lst (.cons false (.lit (.str [101, 110, 100])) .nil)) .nil))))
      .nil) (.cons (.ife (.op .eq (.cons false (.op .idx (.cons false (.var 2) (.cons false (.lit (.int 0)) .nil))) (.cons false (.lit (.str [108, 111, 111, 112])) .nil))) (.cons (.asg true (.nm 1) (.op .add (.cons false (.op .add (.cons false (.op .add (.cons false (.var 1) (.cons false (.op .lst (.cons false (.lit (.str [108, 111, 111, 112])) .nil)) .nil))) (.cons false (.call 33 (.cons false (.op .idx (.cons false (.var 2) (.cons false (.lit (.int 1)) .nil))) .nil)) .nil))) (.cons false (.op .lst (.cons false (.lit (.str [101, 110, 100])) .nil)) .nil))))
      .nil) (.cons (.ife (.op .eq (.cons false (.op .idx (.cons false (.var 2) (.cons false (.lit (.int 0)) .nil))) (.cons false (.lit (.str [100, 111])) .nil))) (.cons (.expr (.meth .lst .append (.var 1) (.cons false (.op .add (.cons false (.lit (.str [100, 111, 32])) (.cons false (.op .idx (.cons false (.var 2) (.cons false (.lit (.int 1)) .nil))) .nil))) .nil)))
      .nil) (.cons (.expr (.meth .lst .append (.var 1) (.cons false (.call 32 (.cons false (.var 2) .nil)) .nil)))
      .nil))
      .nil))
      .nil))
      .nil))
      (.cons (.ret true (.var 1))
      .nil)))⟩
/-- _law_all_lines -/
def f34 : Fn := ⟨1, 3,
      (.cons (.asg false (.nm 1) (.op .lst (.cons false (.op .add (.cons false (.lit (.str [110, 97, 109, 101, 115, 32])) (.cons false (.meth .str .join (.lit (.str [32])) (.cons false (.op .idx (.cons false (.var 0) (.cons false (.lit (.int 0)) .nil))) .nil)) .nil))) (.cons false (.op .add (.cons false (.lit (.str [107, 101, 101, 112, 32])) (.cons false (.meth .str .join (.lit (.str [32])) (.cons false (.op .idx (.cons false (.var 0) (.cons false (.lit (.int 1)) .nil))) .nil)) .nil))) .nil))))
      (.cons (.for_ (.nm 2) (.val (.op .idx (.cons false (.var 0) (.cons false (.lit (.int 2)) .nil)))) (.cons (.asg false (.nm 1) (.op .add (.cons false (.op .add (.cons false (.op .add (.cons false (.var 1) (.cons false (.op .lst (.cons false (.op .add (.cons false (.lit (.str [112, 97, 114, 116, 32])) (.cons false (.op .idx (.cons false (.var 2) (.cons false (.lit (.int 0)) .nil))) .nil))) .nil)) .nil))) (.cons false (.call 33 (.cons false (.op .idx (.cons false (.var 2) (.cons false (.lit (.int 1)) .nil))) .nil)) .nil))) (.cons false (.op .lst (.cons false (.lit (.str [101, 110, 100])) .nil)) .nil))))
      .nil))
      (.cons (.ret false (.op .add (.cons false (.var 1) (.cons false (.call 33 (.cons false (.op .idx (.cons false (.var 0) (.cons false (.lit (.int 3)) .nil))) .nil)) .nil))))
      .nil)))⟩
/-- _law_moves -/
def f35 : Fn := ⟨3, 6,
      (.cons (.for_ (.nm 3) (.val (.var 0)) (.cons (.ife (.op .eq (.cons false (.op .idx (.cons false (.var 3) (.cons false (.lit (.int 0)) .nil))) (.cons false (.lit (.str [101, 105, 116, 104, 101, 114])) .nil))) (.cons (.asg false (.nm 4) (.call 35 (.cons false (.op .idx (.cons false (.var 3) (.cons false (.lit (.int 1)) .nil))) (.cons false (.op .add (.cons false (.var 1) (.cons false (.lit (.int 1)) .nil))) (.cons true (.var 2) .nil)))))
      (.cons (.asg false (.nm 5) (.call 35 (.cons false (.op .idx (.cons false (.var 3) (.cons false (.lit (.int 2)) .nil))) (.cons false (.op .add (.cons false (.var 4) (.cons false (.lit (.int 1)) .nil))) (.cons true (.var 2) .nil)))))
      (.cons (.st false (.sub (.var 2) (.var 1)) (.op .tup (.cons false (.lit (.str [103, 111])) (.cons false (.op .lst (.cons false (.op .add (.cons false (.var 1) (.cons false (.lit (.int 1)) .nil))) (.cons false (.op .add (.cons false (.var 4) (.cons false (.lit (.int 1)) .nil))) .nil))) .nil))))
      (.cons (.st false (.sub (.var 2) (.var 4)) (.op .tup (.cons false (.lit (.str [103, 111])) (.cons false (.op .lst (.cons false (.op .add (.cons false (.var 5) (.cons false (.lit (.int 1)) .nil))) .nil)) .nil))))
      (.cons (.st false (.sub (.var 2) (.var 5)) (.op .tup (.cons false (.lit (.str [103, 111])) (.cons false (.op .lst (.cons false (.op .add (.cons false (.var 5) (.cons false (.lit (.int 1)) .nil))) .nil)) .nil))))
      (.cons (.asg false (.nm 1) (.var 5))
      .nil)))))) (.cons (.ife (.op .eq (.cons false (.op .idx (.cons false (.var 3) (.cons false (.lit (.int 0)) .nil))) (.cons false (.lit (.str [108, 111, 111, 112])) .nil))) (.cons (.asg false (.nm 5) (.call 35 (.cons false (.op .idx (.cons false (.var 3) (.cons false (.lit (.int 1)) .nil))) (.cons false (.op .add (.cons false (.var 1) (.cons false (.lit (.int 1)) .nil))) (.cons true (.var 2) .nil)))))
      (.cons (.st false (.sub (.var 2) (.var 1)) (.op .tup (.cons false (.lit (.str [103, 111])) (.cons false (.op .lst (.cons false (.op .add (.cons false (.var 1) (.cons false (.lit (.int 1)) .nil))) (.cons false (.op .add (.cons false (.var 5) (.cons false (.lit (.int 1)) .nil))) .nil))) .nil))))
      (.cons (.st false (.sub (.var 2) (.var 5)) (.op .tup (.cons false (.lit (.str [103, 111])) (.cons false (.op .lst (.cons false (.op .add (.cons false (.var 1) (.cons false (.lit (.int 1)) .nil))) (.cons false (.op .add (.cons false (.var 5) (.cons false (.lit (.int 1)) .nil))) .nil))) .nil))))
      (.cons (.asg false (.nm 1) (.var 5))
      .nil)))) (.cons (.st false (.sub (.var 2) (.var 1)) (.ife (.op .eq (.cons false (.op .idx (.cons false (.var 3) (.cons false (.lit (.int 0)) .nil))) (.cons false (.lit (.str [100, 111])) .nil))) (.op .tup (.cons false (.lit (.str [100, 111])) (.cons false (.op .idx (.cons false (.var 3) (.cons false (.lit (.int 1)) .nil))) .nil))) (.op .tup (.cons false (.lit (.str [115, 101, 116])) (.cons false (.var 3) .nil)))))
      .nil))
      .nil))
      (.cons (.asg false (.nm 1) (.op .add (.cons false (.var 1) (.cons false (.lit (.int 1)) .nil))))
      .nil)))
      (.cons (.ret false (.var 1))
      .nil))⟩
/-- _law_laid -/
def f36 : Fn := ⟨1, 6,
      (.cons (.par [3, 4, 5] (.cons true (.op .dic0 .nil) (.cons true (.op .dic0 .nil) (.cons false (.lit (.int 3)) .nil))))
      (.cons (.for_ (.nm 1) (.val (.op .idx (.cons false (.var 0) (.cons false (.lit (.int 2)) .nil)))) (.cons (.st false (.sub (.var 4) (.op .idx (.cons false (.var 1) (.cons false (.lit (.int 0)) .nil)))) (.var 5))
      (.cons (.asg false (.nm 5) (.call 35 (.cons false (.op .idx (.cons false (.var 1) (.cons false (.lit (.int 1)) .nil))) (.cons false (.op .add (.cons false (.var 5) (.cons false (.lit (.int 1)) .nil))) (.cons true (.var 3) .nil)))))
      (.cons (.st false (.sub (.var 3) (.var 5)) (.op .tup (.cons false (.lit (.str [98, 97, 99, 107])) .nil)))
      (.cons (.asg false (.nm 5) (.op .add (.cons false (.var 5) (.cons false (.lit (.int 1)) .nil))))
      .nil)))))
      (.cons (.asg false (.nm 2) (.call 35 (.cons false (.op .idx (.cons false (.var 0) (.cons false (.lit (.int 3)) .nil))) (.cons false (.var 5) (.cons true (.var 3) .nil)))))
      (.cons (.ret false (.op .lst (.cons false (.rel (.var 3)) (.cons false (.rel (.var 4)) (.cons false (.var 5) (.cons false (.var 2) .nil))))))
      .nil))))⟩
/-- _law_next -/
def f37 : Fn := ⟨3, 5,
      (.cons (.ife (.op .eq (.cons false (.var 1) (.cons false (.op .idx (.cons false (.var 0) (.cons false (.lit (.int 3)) .nil))) .nil))) (.cons (.ret false (.op .lst .nil))
      .nil) .nil)
      (.cons (.asg false (.nm 3) (.op .idx (.cons false (.op .idx (.cons false (.var 0) (.cons false (.lit (.int 0)) .nil))) (.cons false (.var 1) .nil))))
      (.cons (.ife (.op .eq (.cons false (.op .idx (.cons false (.var 3) (.cons false (.lit (.int 0)) .nil))) (.cons false (.lit (.str [103, 111])) .nil))) (.cons (.ret false (.comp (.op .tup (.cons false (.var 4) (.cons false (.var 2) .nil))) (.nm 4) (.val (.op .idx (.cons false (.var 3) (.cons false (.lit (.int 1)) .nil)))) [4]))
      .nil) .nil)
      (.cons (.ife (.op .eq (.cons false (.op .idx (.cons false (.var 3) (.cons false (.lit (.int 0)) .nil))) (.cons false (.lit (.str [100, 111])) .nil))) (.cons (.ret false (.op .lst (.cons false (.op .tup (.cons false (.op .add (.cons false (.op .idx (.cons false (.op .idx (.cons false (.var 0) (.cons false (.lit (.int 1)) .nil))) (.cons false (.op .idx (.cons false (.var 3) (.cons false (.lit (.int 1)) .nil))) .nil))) (.cons false (.lit (.int 1)) .nil))) (.cons false (.op .add (.cons false (.var 2) (.cons false (.op .tup (.cons false (.var 1) .nil)) .nil))) .nil))) .nil)))
      .nil) .nil)
      (.cons (.ife (.op .eq (.cons false (.op .idx (.cons false (.var 3) (.cons false (.lit (.int 0)) .nil))) (.cons false (.lit (.str [98, 97, 99, 107])) .nil))) (.cons (.ret false (.op .lst (.cons false (.op .tup (.cons false (.op .add (.cons false (.op .idx (.cons false (.var 2) (.cons false (.op .neg (.cons false (.lit (.int 1)) .nil)) .nil))) (.cons false (.lit (.int 1)) .nil))) (.cons false (.op (.sl false true) (.cons false (.var 2) (.cons false (.op .neg (.cons false (.lit (.int 1)) .nil)) .nil))) .nil))) .nil)))
      .nil) .nil)
      (.cons (.ret false (.op .lst (.cons false (.op .tup (.cons false (.op .add (.cons false (.var 1) (.cons false (.lit (.int 1)) .nil))) (.cons false (.var 2) .nil))) .nil)))
      .nil))))))⟩
/-- _law_walk -/
def f38 : Fn := ⟨3, 9,
      (.cons (.par [4, 5] (.cons false (.op .idx (.cons false (.var 1) (.cons false (.lit (.int 2)) .nil))) (.cons false (.op .tup .nil) .nil)))
      (.cons (.par [6, 7] (.cons true (.op .lst (.cons false (.var 4) .nil)) (.cons true (.op .lst (.cons false (.var 5) .nil)) .nil)))
      (.cons (.for_ (.nm 3) (.rng1 (.var 2)) (.cons (.asg false (.nm 8) (.call 37 (.cons false (.var 1) (.cons false (.var 4) (.cons false (.var 5) .nil)))))
      (.cons (.ife (.op .eq (.cons false (.var 8) (.cons false (.op .lst .nil) .nil))) (.cons .brk
      .nil) .nil)
      (.cons (.asg false (.tp [4, 5]) (.op .idx (.cons false (.var 8) (.cons false (.call 25 (.cons true (.var 0) (.cons false (.op .len (.cons false (.var 8) .nil)) .nil))) .nil))))
      (.cons (.expr (.meth .lst .append (.var 6) (.cons false (.var 4) .nil)))
      (.cons (.expr (.meth .lst .append (.var 7) (.cons false (.var 5) .nil)))
      .nil))))))
      (.cons (.ret false (.op .lst (.cons false (.op .tupof (.cons false (.var 6) .nil)) (.cons false (.rel (.var 7)) .nil))))
      .nil))))⟩
/-- _law_start -/
def f46 : Fn := ⟨3, 8,
      (.cons (.asg false (.nm 3) (.call 27 (.cons true (.var 0) (.cons false (.op .add (.cons false (.lit (.int 1)) (.cons false (.call 25 (.cons true (.var 0) (.cons false (.lit (.int 5)) .nil))) .nil))) (.cons false (.op .lst .nil) .nil)))))
      (.cons (.asg false (.nm 4) (.call 27 (.cons true (.var 0) (.cons false (.lit (.int 4)) (.cons false (.op .lst .nil) .nil)))))
      (.cons (.asg false (.nm 5) (.comp (.op .tup (.cons false (.op .idx (.cons false (.var 4) (.cons false (.var 7) .nil))) (.cons false (.var 7) .nil))) (.nm 7) (.rng1 (.lit (.int 4))) [7]))
      (.cons (.asg false (.nm 6) (.call 45 (.cons true (.var 0) (.cons false (.var 3) (.cons false (.var 5) (.cons false (.call 25 (.cons true (.var 0) (.cons false (.op .add (.cons false (.var 1) (.cons false (.lit (.int 1)) .nil))) .nil))) (.cons false (.lit (.int 2)) (.cons false (.op .add (.cons false (.lit (.int 3)) (.cons false (.call 25 (.cons true (.var 0) (.cons false (.var 2) .nil))) .nil))) .nil))))))))
      (.cons (.ret false (.op .lst (.cons false (.var 6) (.cons false (.var 5) (.cons false (.call 36 (.cons false (.var 6) .nil)) .nil)))))
      .nil)))))⟩
/-- _law_at -/
def f47 : Fn := ⟨5, 8,
      (.cons (.asg false (.nm 5) (.op .sortI (.cons false (.comp (.op .idx (.cons false (.var 6) (.cons false (.lit (.int 0)) .nil))) (.nm 6) (.val (.call 37 (.cons false (.var 1) (.cons false (.op .idx (.cons false (.var 2) (.cons false (.op .neg (.cons false (.lit (.int 1)) .nil)) .nil))) (.cons false (.var 3) .nil))))) [6]) .nil)))
      (.cons (.ife (.op .ne (.cons false (.op .reprO (.cons false (.op .lst (.cons false (.call 44 (.cons false (.var 0) (.cons false (.var 2) .nil))) (.cons false (.call 22 (.cons false (.var 0) (.cons false (.var 2) .nil))) (.cons false (.call 23 (.cons false (.var 0) (.cons false (.var 2) .nil))) .nil)))) .nil)) (.cons false (.op .reprO (.cons false (.op .lst (.cons false (.lit (.bl true)) (.cons false (.var 3) (.cons false (.op .tupof (.cons false (.var 5) .nil)) .nil)))) .nil)) .nil))) (.cons (.ret false (.lit (.bl false)))
      .nil) .nil)
      (.cons (.ife (.not (.val (.var 4))) (.cons (.ret false (.lit (.bl true)))
      .nil) .nil)
      (.cons (.ret false (.op .eq (.cons false (.var 5) (.cons false (.compIf (.var 7) (.nm 7) (.rng1 (.op .add (.cons false (.op .idx (.cons false (.var 1) (.cons false (.lit (.int 3)) .nil))) (.cons false (.lit (.int 3)) .nil)))) (.val (.call 44 (.cons false (.var 0) (.cons false (.op .add (.cons false (.var 2) (.cons false (.op .tup (.cons false (.var 7) .nil)) .nil))) .nil)))) [7]) .nil))))
      .nil))))⟩
/-- _law_right -/
def f48 : Fn := ⟨1, 9,
      (.cons (.asg false (.tp [4, 5, 6]) (.call 46 (.cons true (.var 0) (.cons false (.lit (.int 4)) (.cons false (.lit (.int 14)) .nil)))))
      (.cons (.asg false (.nm 1) (.make true 1 (.cons false (.meth .str .join (.lit (.str [10])) (.cons false (.call 34 (.cons false (.var 4) .nil)) .nil)) .nil)))
      (.cons (.asg false (.tp [7, 8]) (.call 38 (.cons true (.var 0) (.cons false (.var 6) (.cons false (.call 25 (.cons true (.var 0) (.cons false (.lit (.int 31)) .nil))) .nil)))))
      (.cons (.asg false (.nm 2) (.call 25 (.cons true (.var 0) (.cons false (.op .len (.cons false (.var 7) .nil)) .nil))))
      (.cons (.for_ (.nm 3) (.rng1 (.op .len (.cons false (.var 7) .nil))) (.cons (.ife (.not (.val (.call 47 (.cons false (.var 1) (.cons false (.var 6) (.cons false (.op (.sl false true) (.cons false (.var 7) (.cons false (.op .add (.cons false (.var 3) (.cons false (.lit (.int 1)) .nil))) .nil))) (.cons false (.op .idx (.cons false (.var 8) (.cons false (.var 3) .nil))) (.cons false (.op .inn (.cons false (.var 3) (.cons false (.op .lst (.cons false (.var 2) (.cons false (.op .sub (.cons false (.op .len (.cons false (.var 7) .nil)) (.cons false (.lit (.int 1)) .nil))) .nil))) .nil))) .nil)))))))) (.cons (.ret false (.lit (.bl false)))
      .nil) .nil)
      .nil))
      (.cons (.ife (.op .lt (.cons false (.op .len (.cons false (.var 7) .nil)) (.cons false (.lit (.int 2)) .nil))) (.cons (.ret false (.lit (.bl true)))
      .nil) .nil)
      (.cons (.ret false (.orv (.tst (.not (.val (.call 44 (.cons false (.var 1) (.cons false (.op (.sl true false) (.cons false (.var 7) (.cons false (.lit (.int 1)) .nil))) .nil)))))) (.op .eq (.cons false (.op .idx (.cons false (.var 7) (.cons false (.lit (.int 1)) .nil))) (.cons false (.op .idx (.cons false (.var 6) (.cons false (.lit (.int 2)) .nil))) .nil)))))
      .nil)))))))⟩
/-- law -/
def f49 : Fn := ⟨1, 2,
      (.cons (.ret false (.op .all (.cons false (.comp (.call 48 (.cons true (.call 24 (.cons false (.var 0) (.cons false (.var 1) .nil))) .nil)) (.nm 1) (.rng1 (.op .max2 (.cons false (.lit (.int 2)) (.cons false (.op .min2 (.cons false (.op .len (.cons false (.var 0) .nil)) (.cons false (.lit (.int 4)) .nil))) .nil)))) [1]) .nil)))
      .nil)⟩
def i0 : FnI := ⟨0, .top "is_integer", "is_integer", "is_integer", top 19, (["value"] : List PySem.Str), (["value"] : List PySem.Str), f0⟩
def i1 : FnI := ⟨1, .top "is_long_word", "is_long_word", "is_long_word", top 21, (["value", "longest", "sign"] : List PySem.Str), (["value", "longest"] : List PySem.Str), f1⟩
def i2 : FnI := ⟨2, .top "is_word", "is_word", "is_word", top 22, (["value"] : List PySem.Str), (["value"] : List PySem.Str), f2⟩
def i3 : FnI := ⟨3, .top "calls_in", "calls_in", "calls_in", top 24, (["term", "found", "part"] : List PySem.Str), (["term"] : List PySem.Str), f3⟩
def i4 : FnI := ⟨4, .top "fits_calls", "fits_calls", "fits_calls", top 25, (["term", "functions", "table", "name", "many"] : List PySem.Str), (["term", "functions"] : List PySem.Str), f4⟩
def i5 : FnI := ⟨5, .top "read_assignment", "read_assignment", "read_assignment", top 29, (["row", "names", "parts", "left", "mark", "right", "head", "tail", "part"] : List PySem.Str), (["row", "names"] : List PySem.Str), f5⟩
def i6 : FnI := ⟨6, .top "read_row", "read_row", "read_row", top 30, (["row", "names", "words"] : List PySem.Str), (["row", "names"] : List PySem.Str), f6⟩
def i7 : FnI := ⟨7, .top "read_words", "read_words", "read_words", top 31, (["row", "head", "longest", "words", "word"] : List PySem.Str), (["row", "head", "longest"] : List PySem.Str), f7⟩
def i8 : FnI := ⟨8, .meth "Plan" "__init__", "__init__", "Plan.__init__", inCls 32 0, (["self", "text", "most_names", "most_rows", "longest", "saved", "row"] : List PySem.Str), (["self", "text", "most_names", "most_rows", "longest"] : List PySem.Str), f8⟩
def i9 : FnI := ⟨9, .meth "Plan" "is_headed", "is_headed", "Plan.is_headed", inCls 32 1, (["self", "most_names", "most_rows", "name"] : List PySem.Str), (["self", "most_names", "most_rows"] : List PySem.Str), f9⟩
def i10 : FnI := ⟨10, .meth "Plan" "is_laid", "is_laid", "Plan.is_laid", inCls 32 2, (["self", "opened", "at", "called", "act", "part"] : List PySem.Str), (["self"] : List PySem.Str), f10⟩
def i11 : FnI := ⟨11, .meth "Plan" "is_placed", "is_placed", "Plan.is_placed", inCls 32 3, (["self", "at", "act", "opened", "top", "row"] : List PySem.Str), (["self", "at", "act", "opened"] : List PySem.Str), f11⟩
def i12 : FnI := ⟨12, .meth "Plan" "is_ahead", "is_ahead", "Plan.is_ahead", inCls 32 4, (["self", "part", "opened"] : List PySem.Str), (["self", "part", "opened"] : List PySem.Str), f12⟩
def i13 : FnI := ⟨13, .meth "Plan" "has_right_calls", "has_right_calls", "Plan.has_right_calls", inCls 32 5, (["self", "act"] : List PySem.Str), (["self"] : List PySem.Str), f13⟩
def i14 : FnI := ⟨14, .meth "Plan" "calls_told", "calls_told", "Plan.calls_told", inCls 32 6, (["self", "found", "act"] : List PySem.Str), (["self"] : List PySem.Str), f14⟩
def i15 : FnI := ⟨15, .meth "Plan" "last_place", "last_place", "Plan.last_place", inCls 32 7, (["self"] : List PySem.Str), (["self"] : List PySem.Str), f15⟩
def i16 : FnI := ⟨16, .meth "Plan" "after", "after", "Plan.after", inCls 32 9, (["self", "place", "callers", "act"] : List PySem.Str), (["self", "place", "callers"] : List PySem.Str), f16⟩
def i17 : FnI := ⟨17, .meth "Plan" "after_end", "after_end", "Plan.after_end", inCls 32 10, (["self", "place", "callers", "home", "kind"] : List PySem.Str), (["self", "place", "callers"] : List PySem.Str), f17⟩
def i18 : FnI := ⟨18, .meth "Program" "__init__", "__init__", "Program.__init__", inCls 34 0, (["self", "text"] : List PySem.Str), (["self", "text"] : List PySem.Str), f18⟩
def i19 : FnI := ⟨19, .top "check_program", "check_program", "check_program", top 35, (["value"] : List PySem.Str), (["value"] : List PySem.Str), f19⟩
def i20 : FnI := ⟨20, .top "callers_along", "callers_along", "callers_along", top 42, (["plan", "walk", "callers", "at", "found", "after", "place"] : List PySem.Str), (["plan", "walk"] : List PySem.Str), f20⟩
def i44 : FnI := ⟨44, .top "is_walk", "is_walk", "is_walk", top 43, (["program", "walk"] : List PySem.Str), (["program", "walk"] : List PySem.Str), f44⟩
def i21 : FnI := ⟨21, .top "check_walk", "check_walk", "check_walk", top 44, (["program", "walk", "found"] : List PySem.Str), (["program", "walk"] : List PySem.Str), f21⟩
def i22 : FnI := ⟨22, .top "callers", "callers", "callers", top 45, (["program", "walk"] : List PySem.Str), (["program", "walk"] : List PySem.Str), f22⟩
def i23 : FnI := ⟨23, .top "steps", "steps", "steps", top 46, (["program", "walk", "found", "after"] : List PySem.Str), (["program", "walk"] : List PySem.Str), f23⟩
def i24 : FnI := ⟨24, .top "_law_purse", "_law_purse", "_law_purse", top 48, (["_law_script", "_law_k", "_law_cell", "_law_figures", "_law_other"] : List PySem.Str), (["_law_script", "_law_k"] : List PySem.Str), f24⟩
def i25 : FnI := ⟨25, .top "_law_take", "_law_take", "_law_take", top 49, (["_law_purse_here", "_law_many", "_law_seed", "_law_digit"] : List PySem.Str), (["_law_purse_here", "_law_many"] : List PySem.Str), f25⟩
def i26 : FnI := ⟨26, .top "_law_word", "_law_word", "_law_word", top 50, (["_law_purse_here", "_law_way", "_law_found", "_law_k", "_law_menu"] : List PySem.Str), (["_law_purse_here"] : List PySem.Str), f26⟩
def i27 : FnI := ⟨27, .top "_law_words", "_law_words", "_law_words", top 51, (["_law_purse_here", "_law_many", "_law_used", "_law_found", "_law_k", "_law_word_here", "_law_fresh", "_law_other"] : List PySem.Str), (["_law_purse_here", "_law_many", "_law_used"] : List PySem.Str), f27⟩
def i28 : FnI := ⟨28, .top "_law_assigned", "_law_assigned", "_law_assigned", top 52, (["_law_purse_here", "_law_letters", "_law_calls", "_law_one", "_law_left", "_law_way", "_law_k"] : List PySem.Str), (["_law_purse_here", "_law_letters", "_law_calls"] : List PySem.Str), f28⟩
def i29 : FnI := ⟨29, .top "_law_block", "_law_block", "_law_block", top 53, (["_law_purse_here", "_law_letters", "_law_calls", "_law_ahead", "_law_deep", "_law_room", "_law_found", "_law_k", "_law_way", "_law_one"] : List PySem.Str), (["_law_purse_here", "_law_letters", "_law_calls", "_law_ahead", "_law_deep", "_law_room"] : List PySem.Str), f29⟩
def i30 : FnI := ⟨30, .top "_law_called", "_law_called", "_law_called", top 54, (["_law_block_here", "_law_found", "_law_item", "_law_inner"] : List PySem.Str), (["_law_block_here"] : List PySem.Str), f30⟩
def i45 : FnI := ⟨45, .top "_law_plan", "_law_plan", "_law_plan", top 55, (["_law_purse_here", "_law_letters", "_law_calls", "_law_many", "_law_deep", "_law_most", "_law_k", "_law_body", "_law_saved", "_law_letter", "_law_heads", "_law_sections", "_law_room", "_law_rows_here", "_law_rest"] : List PySem.Str) ++ (["_law_other"] : List PySem.Str), (["_law_purse_here", "_law_letters", "_law_calls", "_law_many", "_law_deep", "_law_most"] : List PySem.Str), f45⟩
def i32 : FnI := ⟨32, .top "_law_line", "_law_line", "_law_line", top 56, (["_law_item"] : List PySem.Str), (["_law_item"] : List PySem.Str), f32⟩
def i33 : FnI := ⟨33, .top "_law_lines", "_law_lines", "_law_lines", top 57, (["_law_block_here", "_law_found", "_law_item"] : List PySem.Str), (["_law_block_here"] : List PySem.Str), f33⟩
def i34 : FnI := ⟨34, .top "_law_all_lines", "_law_all_lines", "_law_all_lines", top 58, (["_law_plan_here", "_law_found", "_law_section"] : List PySem.Str), (["_law_plan_here"] : List PySem.Str), f34⟩
def i35 : FnI := ⟨35, .top "_law_moves", "_law_moves", "_law_moves", top 59, (["_law_block_here", "_law_at_here", "_law_moves_here", "_law_item", "_law_middle", "_law_last_row"] : List PySem.Str), (["_law_block_here", "_law_at_here", "_law_moves_here"] : List PySem.Str), f35⟩
def i36 : FnI := ⟨36, .top "_law_laid", "_law_laid", "_law_laid", top 60, (["_law_plan_here", "_law_section", "_law_behind", "_law_moves_here", "_law_heads", "_law_at_here"] : List PySem.Str), (["_law_plan_here"] : List PySem.Str), f36⟩
def i37 : FnI := ⟨37, .top "_law_next", "_law_next", "_law_next", top 61, (["_law_laid_here", "_law_spot", "_law_stack", "_law_move", "_law_to"] : List PySem.Str), (["_law_laid_here", "_law_spot", "_law_stack"] : List PySem.Str), f37⟩
def i38 : FnI := ⟨38, .top "_law_walk", "_law_walk", "_law_walk", top 62, (["_law_purse_here", "_law_laid_here", "_law_many", "_law_k", "_law_spot", "_law_stack", "_law_trail", "_law_stacks", "_law_ways"] : List PySem.Str), (["_law_purse_here", "_law_laid_here", "_law_many"] : List PySem.Str), f38⟩
def i46 : FnI := ⟨46, .top "_law_start", "_law_start", "_law_start", top 63, (["_law_purse_here", "_law_many", "_law_most", "_law_letters", "_law_menu", "_law_calls", "_law_plan_here", "_law_k"] : List PySem.Str), (["_law_purse_here", "_law_many", "_law_most"] : List PySem.Str), f46⟩
def i47 : FnI := ⟨47, .top "_law_at", "_law_at", "_law_at", top 64, (["_law_mine", "_law_laid_here", "_law_trail", "_law_stack", "_law_is_wide", "_law_due", "_law_pair", "_law_spot"] : List PySem.Str), (["_law_mine", "_law_laid_here", "_law_trail", "_law_stack", "_law_is_wide"] : List PySem.Str), f47⟩
def i48 : FnI := ⟨48, .top "_law_right", "_law_right", "_law_right", top 65, (["_law_purse_here", "_law_mine", "_law_wide", "_law_k", "_law_plan_here", "_law_calls", "_law_laid_here", "_law_trail", "_law_stacks"] : List PySem.Str), (["_law_purse_here"] : List PySem.Str), f48⟩
def i49 : FnI := ⟨49, .top "law", "law", "law", top 66, (["_law_script", "_law_k"] : List PySem.Str), (["_law_script"] : List PySem.Str), f49⟩
def M : Md where
  fns := [i0, i1, i2, i3, i4, i5, i6, i7, i8, i9, i10, i11, i12, i13, i14] ++ [i15, i16, i17, i18, i19, i20, i44, i21, i22, i23, i24, i25, i26, i27, i28] ++ [i29, i30, i45, i32, i33, i34, i35, i36, i37, i38, i46, i47, i48, i49]
  gls := [(0, ("LETTERS" : PySem.Str), .str [97, 98, 99, 100, 101, 102, 103, 104, 105, 106, 107, 108, 109, 110, 111, 112, 113, 114, 115, 116, 117, 118, 119, 120, 121, 122]), (1, ("DIGITS" : PySem.Str), .str [48, 49, 50, 51, 52, 53, 54, 55, 56, 57]), (2, ("LONGEST" : PySem.Str), .int 9), (3, ("MOST_ARGUMENTS" : PySem.Str), .int 3), (4, ("BARE" : PySem.Str), .tup [.str [101, 105, 116, 104, 101, 114], .str [111, 114], .str [101, 110, 100], .str [108, 111, 111, 112]]), (5, ("FIRST_ROW" : PySem.Str), .int 3), (6, ("MOST_PARTS" : PySem.Str), .int 4), (7, ("MOST_DEEP" : PySem.Str), .int 6), (8, ("MOST_ROWS" : PySem.Str), .int 80), (9, ("MOST_NAMES" : PySem.Str), .int 16)]
  clss := [(0, ("Plan" : PySem.Str)), (1, ("Program" : PySem.Str))]
  syms := (["right", "is_headed", "is_laid", "has_right_calls", "ends", "homes", "heads", "first", "acts", "lines", "letters", "saved", "is_placed", "is_ahead", "calls_told"] : List PySem.Str) ++ (["after_end", "last_place", "told", "plan", "after", "all_places", "places", "without", "with_name", "put", "text", "kept", "rows", "names"] : List PySem.Str)
  na := [(0, 8), (0, 4), (0, 7), (0, 6), (0, 5), (0, 10), (0, 9), (0, 0), (0, 11), (1, 18), (1, 17)]
  kc := [(.non, .cls 1, false), (.bl, .cls 1, false), (.int, .cls 1, false), (.str, .cls 1, false), (.tup, .cls 1, false), (.lst, .cls 1, false), (.dic, .cls 1, false), (.cls 0, .cls 1, false), (.cls 1, .cls 1, true), (.non, .bl, false), (.bl, .bl, true), (.int, .bl, false), (.str, .bl, false), (.tup, .bl, false), (.lst, .bl, false), (.dic, .bl, false), (.cls 0, .bl, false), (.cls 1, .bl, false), (.non, .int, false), (.bl, .int, true), (.int, .int, true), (.str, .int, false), (.tup, .int, false), (.lst, .int, false), (.dic, .int, false), (.cls 0, .int, false), (.cls 1, .int, false), (.non, .lst, false), (.bl, .lst, false), (.int, .lst, false), (.str, .lst, false), (.tup, .lst, false), (.lst, .lst, true), (.dic, .lst, false), (.cls 0, .lst, false), (.cls 1, .lst, false), (.non, .str, false), (.bl, .str, false), (.int, .str, false), (.str, .str, true), (.tup, .str, false), (.lst, .str, false), (.dic, .str, false), (.cls 0, .str, false), (.cls 1, .str, false), (.non, .tup, false), (.bl, .tup, false), (.int, .tup, false), (.str, .tup, false), (.tup, .tup, true), (.lst, .tup, false), (.dic, .tup, false), (.cls 0, .tup, false), (.cls 1, .tup, false)]
  ini := [(0, 8), (1, 18)]
  me := [(0, 1, 9), (0, 2, 10), (0, 12, 11), (0, 13, 12), (0, 3, 13), (0, 14, 14), (0, 16, 15), (0, 19, 16), (0, 15, 17)]
  pr := []
theorem s0 : FnSt M i0 where
  sc := ⟨by kernel_rfl, by kernel_rfl, by kernel_rfl, by decide +kernel, by kernel_rfl, by decide +kernel, by decide +kernel⟩
  ck := fun K => by kernel_rfl
  bi := fun K f fd F => F.bindsN fun _ _ _ _ _ _ us hl => match us, hl with | [_], _ => by kernel_rfl
  np := by kernel_rfl
  nn := by kernel_rfl
theorem s1 : FnSt M i1 where
  sc := ⟨by kernel_rfl, by kernel_rfl, by kernel_rfl, by decide +kernel, by kernel_rfl, by decide +kernel, by decide +kernel⟩
  ck := fun K => by kernel_rfl
  bi := fun K f fd F => F.bindsN fun _ _ _ _ _ _ us hl => match us, hl with | [_, _], _ => by kernel_rfl
  np := by kernel_rfl
  nn := by kernel_rfl
theorem s2 : FnSt M i2 where
  sc := ⟨by kernel_rfl, by kernel_rfl, by kernel_rfl, by decide +kernel, by kernel_rfl, by decide +kernel, by decide +kernel⟩
  ck := fun K => by kernel_rfl
  bi := fun K f fd F => F.bindsN fun _ _ _ _ _ _ us hl => match us, hl with | [_], _ => by kernel_rfl
  np := by kernel_rfl
  nn := by kernel_rfl
theorem s3 : FnSt M i3 where
  sc := ⟨by kernel_rfl, by kernel_rfl, by kernel_rfl, by decide +kernel, by kernel_rfl, by decide +kernel, by decide +kernel⟩
  ck := fun K => by kernel_rfl
  bi := fun K f fd F => F.bindsN fun _ _ _ _ _ _ us hl => match us, hl with | [_], _ => by kernel_rfl
  np := by kernel_rfl
  nn := by kernel_rfl
theorem s4 : FnSt M i4 where
  sc := ⟨by kernel_rfl, by kernel_rfl, by kernel_rfl, by decide +kernel, by kernel_rfl, by decide +kernel, by decide +kernel⟩
  ck := fun K => by kernel_rfl
  bi := fun K f fd F => F.bindsN fun _ _ _ _ _ _ us hl => match us, hl with | [_, _], _ => by kernel_rfl
  np := by kernel_rfl
  nn := by kernel_rfl
theorem s5 : FnSt M i5 where
  sc := ⟨by kernel_rfl, by kernel_rfl, by kernel_rfl, by decide +kernel, by kernel_rfl, by decide +kernel, by decide +kernel⟩
  ck := fun K => by kernel_rfl
  bi := fun K f fd F => F.bindsN fun _ _ _ _ _ _ us hl => match us, hl with | [_, _], _ => by kernel_rfl
  np := by kernel_rfl
  nn := by kernel_rfl
theorem s6 : FnSt M i6 where
  sc := ⟨by kernel_rfl, by kernel_rfl, by kernel_rfl, by decide +kernel, by kernel_rfl, by decide +kernel, by decide +kernel⟩
  ck := fun K => by kernel_rfl
  bi := fun K f fd F => F.bindsN fun _ _ _ _ _ _ us hl => match us, hl with | [_, _], _ => by kernel_rfl
  np := by kernel_rfl
  nn := by kernel_rfl
theorem s7 : FnSt M i7 where
  sc := ⟨by kernel_rfl, by kernel_rfl, by kernel_rfl, by decide +kernel, by kernel_rfl, by decide +kernel, by decide +kernel⟩
  ck := fun K => by kernel_rfl
  bi := fun K f fd F => F.bindsN fun _ _ _ _ _ _ us hl => match us, hl with | [_, _, _], _ => by kernel_rfl
  np := by kernel_rfl
  nn := by kernel_rfl
theorem s8 : FnSt M i8 where
  sc := ⟨by kernel_rfl, by kernel_rfl, by kernel_rfl, by decide +kernel, by kernel_rfl, by decide +kernel, by decide +kernel⟩
  ck := fun K => by kernel_rfl
  bi := fun K f fd F => F.bindsN fun _ _ _ _ _ _ us hl => match us, hl with | [_, _, _, _, _], _ => by kernel_rfl
  np := by kernel_rfl
  nn := by kernel_rfl
theorem s9 : FnSt M i9 where
  sc := ⟨by kernel_rfl, by kernel_rfl, by kernel_rfl, by decide +kernel, by kernel_rfl, by decide +kernel, by decide +kernel⟩
  ck := fun K => by kernel_rfl
  bi := fun K f fd F => F.bindsN fun _ _ _ _ _ _ us hl => match us, hl with | [_, _, _], _ => by kernel_rfl
  np := by kernel_rfl
  nn := by kernel_rfl
theorem s10 : FnSt M i10 where
  sc := ⟨by kernel_rfl, by kernel_rfl, by kernel_rfl, by decide +kernel, by kernel_rfl, by decide +kernel, by decide +kernel⟩
  ck := fun K => by kernel_rfl
  bi := fun K f fd F => F.bindsN fun _ _ _ _ _ _ us hl => match us, hl with | [_], _ => by kernel_rfl
  np := by kernel_rfl
  nn := by kernel_rfl
theorem s11 : FnSt M i11 where
  sc := ⟨by kernel_rfl, by kernel_rfl, by kernel_rfl, by decide +kernel, by kernel_rfl, by decide +kernel, by decide +kernel⟩
  ck := fun K => by kernel_rfl
  bi := fun K f fd F => F.bindsN fun _ _ _ _ _ _ us hl => match us, hl with | [_, _, _, _], _ => by kernel_rfl
  np := by kernel_rfl
  nn := by kernel_rfl
theorem s12 : FnSt M i12 where
  sc := ⟨by kernel_rfl, by kernel_rfl, by kernel_rfl, by decide +kernel, by kernel_rfl, by decide +kernel, by decide +kernel⟩
  ck := fun K => by kernel_rfl
  bi := fun K f fd F => F.bindsN fun _ _ _ _ _ _ us hl => match us, hl with | [_, _, _], _ => by kernel_rfl
  np := by kernel_rfl
  nn := by kernel_rfl
theorem s13 : FnSt M i13 where
  sc := ⟨by kernel_rfl, by kernel_rfl, by kernel_rfl, by decide +kernel, by kernel_rfl, by decide +kernel, by decide +kernel⟩
  ck := fun K => by kernel_rfl
  bi := fun K f fd F => F.bindsN fun _ _ _ _ _ _ us hl => match us, hl with | [_], _ => by kernel_rfl
  np := by kernel_rfl
  nn := by kernel_rfl
theorem s14 : FnSt M i14 where
  sc := ⟨by kernel_rfl, by kernel_rfl, by kernel_rfl, by decide +kernel, by kernel_rfl, by decide +kernel, by decide +kernel⟩
  ck := fun K => by kernel_rfl
  bi := fun K f fd F => F.bindsN fun _ _ _ _ _ _ us hl => match us, hl with | [_], _ => by kernel_rfl
  np := by kernel_rfl
  nn := by kernel_rfl
theorem s15 : FnSt M i15 where
  sc := ⟨by kernel_rfl, by kernel_rfl, by kernel_rfl, by decide +kernel, by kernel_rfl, by decide +kernel, by decide +kernel⟩
  ck := fun K => by kernel_rfl
  bi := fun K f fd F => F.bindsN fun _ _ _ _ _ _ us hl => match us, hl with | [_], _ => by kernel_rfl
  np := by kernel_rfl
  nn := by kernel_rfl
theorem s16 : FnSt M i16 where
  sc := ⟨by kernel_rfl, by kernel_rfl, by kernel_rfl, by decide +kernel, by kernel_rfl, by decide +kernel, by decide +kernel⟩
  ck := fun K => by kernel_rfl
  bi := fun K f fd F => F.bindsN fun _ _ _ _ _ _ us hl => match us, hl with | [_, _, _], _ => by kernel_rfl
  np := by kernel_rfl
  nn := by kernel_rfl
theorem s17 : FnSt M i17 where
  sc := ⟨by kernel_rfl, by kernel_rfl, by kernel_rfl, by decide +kernel, by kernel_rfl, by decide +kernel, by decide +kernel⟩
  ck := fun K => by kernel_rfl
  bi := fun K f fd F => F.bindsN fun _ _ _ _ _ _ us hl => match us, hl with | [_, _, _], _ => by kernel_rfl
  np := by kernel_rfl
  nn := by kernel_rfl
theorem s18 : FnSt M i18 where
  sc := ⟨by kernel_rfl, by kernel_rfl, by kernel_rfl, by decide +kernel, by kernel_rfl, by decide +kernel, by decide +kernel⟩
  ck := fun K => by kernel_rfl
  bi := fun K f fd F => F.bindsN fun _ _ _ _ _ _ us hl => match us, hl with | [_, _], _ => by kernel_rfl
  np := by kernel_rfl
  nn := by kernel_rfl
theorem s19 : FnSt M i19 where
  sc := ⟨by kernel_rfl, by kernel_rfl, by kernel_rfl, by decide +kernel, by kernel_rfl, by decide +kernel, by decide +kernel⟩
  ck := fun K => by kernel_rfl
  bi := fun K f fd F => F.bindsN fun _ _ _ _ _ _ us hl => match us, hl with | [_], _ => by kernel_rfl
  np := by kernel_rfl
  nn := by kernel_rfl
theorem s20 : FnSt M i20 where
  sc := ⟨by kernel_rfl, by kernel_rfl, by kernel_rfl, by decide +kernel, by kernel_rfl, by decide +kernel, by decide +kernel⟩
  ck := fun K => by kernel_rfl
  bi := fun K f fd F => F.bindsN fun _ _ _ _ _ _ us hl => match us, hl with | [_, _], _ => by kernel_rfl
  np := by kernel_rfl
  nn := by kernel_rfl
theorem s44 : FnSt M i44 where
  sc := ⟨by kernel_rfl, by kernel_rfl, by kernel_rfl, by decide +kernel, by kernel_rfl, by decide +kernel, by decide +kernel⟩
  ck := fun K => by kernel_rfl
  bi := fun K f fd F => F.bindsN fun _ _ _ _ _ _ us hl => match us, hl with | [_, _], _ => by kernel_rfl
  np := by kernel_rfl
  nn := by kernel_rfl
theorem s21 : FnSt M i21 where
  sc := ⟨by kernel_rfl, by kernel_rfl, by kernel_rfl, by decide +kernel, by kernel_rfl, by decide +kernel, by decide +kernel⟩
  ck := fun K => by kernel_rfl
  bi := fun K f fd F => F.bindsN fun _ _ _ _ _ _ us hl => match us, hl with | [_, _], _ => by kernel_rfl
  np := by kernel_rfl
  nn := by kernel_rfl
theorem s22 : FnSt M i22 where
  sc := ⟨by kernel_rfl, by kernel_rfl, by kernel_rfl, by decide +kernel, by kernel_rfl, by decide +kernel, by decide +kernel⟩
  ck := fun K => by kernel_rfl
  bi := fun K f fd F => F.bindsN fun _ _ _ _ _ _ us hl => match us, hl with | [_, _], _ => by kernel_rfl
  np := by kernel_rfl
  nn := by kernel_rfl
theorem s23 : FnSt M i23 where
  sc := ⟨by kernel_rfl, by kernel_rfl, by kernel_rfl, by decide +kernel, by kernel_rfl, by decide +kernel, by decide +kernel⟩
  ck := fun K => by kernel_rfl
  bi := fun K f fd F => F.bindsN fun _ _ _ _ _ _ us hl => match us, hl with | [_, _], _ => by kernel_rfl
  np := by kernel_rfl
  nn := by kernel_rfl
theorem s24 : FnSt M i24 where
  sc := ⟨by kernel_rfl, by kernel_rfl, by kernel_rfl, by decide +kernel, by kernel_rfl, by decide +kernel, by decide +kernel⟩
  ck := fun K => by kernel_rfl
  bi := fun K f fd F => F.bindsN fun _ _ _ _ _ _ us hl => match us, hl with | [_, _], _ => by kernel_rfl
  np := by kernel_rfl
  nn := by kernel_rfl
theorem s25 : FnSt M i25 where
  sc := ⟨by kernel_rfl, by kernel_rfl, by kernel_rfl, by decide +kernel, by kernel_rfl, by decide +kernel, by decide +kernel⟩
  ck := fun K => by kernel_rfl
  bi := fun K f fd F => F.bindsN fun _ _ _ _ _ _ us hl => match us, hl with | [_, _], _ => by kernel_rfl
  np := by kernel_rfl
  nn := by kernel_rfl
theorem s26 : FnSt M i26 where
  sc := ⟨by kernel_rfl, by kernel_rfl, by kernel_rfl, by decide +kernel, by kernel_rfl, by decide +kernel, by decide +kernel⟩
  ck := fun K => by kernel_rfl
  bi := fun K f fd F => F.bindsN fun _ _ _ _ _ _ us hl => match us, hl with | [_], _ => by kernel_rfl
  np := by kernel_rfl
  nn := by kernel_rfl
theorem s27 : FnSt M i27 where
  sc := ⟨by kernel_rfl, by kernel_rfl, by kernel_rfl, by decide +kernel, by kernel_rfl, by decide +kernel, by decide +kernel⟩
  ck := fun K => by kernel_rfl
  bi := fun K f fd F => F.bindsN fun _ _ _ _ _ _ us hl => match us, hl with | [_, _, _], _ => by kernel_rfl
  np := by kernel_rfl
  nn := by kernel_rfl
theorem s28 : FnSt M i28 where
  sc := ⟨by kernel_rfl, by kernel_rfl, by kernel_rfl, by decide +kernel, by kernel_rfl, by decide +kernel, by decide +kernel⟩
  ck := fun K => by kernel_rfl
  bi := fun K f fd F => F.bindsN fun _ _ _ _ _ _ us hl => match us, hl with | [_, _, _], _ => by kernel_rfl
  np := by kernel_rfl
  nn := by kernel_rfl
theorem s29 : FnSt M i29 where
  sc := ⟨by kernel_rfl, by kernel_rfl, by kernel_rfl, by decide +kernel, by kernel_rfl, by decide +kernel, by decide +kernel⟩
  ck := fun K => by kernel_rfl
  bi := fun K f fd F => F.bindsN fun _ _ _ _ _ _ us hl => match us, hl with | [_, _, _, _, _, _], _ => by kernel_rfl
  np := by kernel_rfl
  nn := by kernel_rfl
theorem s30 : FnSt M i30 where
  sc := ⟨by kernel_rfl, by kernel_rfl, by kernel_rfl, by decide +kernel, by kernel_rfl, by decide +kernel, by decide +kernel⟩
  ck := fun K => by kernel_rfl
  bi := fun K f fd F => F.bindsN fun _ _ _ _ _ _ us hl => match us, hl with | [_], _ => by kernel_rfl
  np := by kernel_rfl
  nn := by kernel_rfl
theorem s45 : FnSt M i45 where
  sc := ⟨by kernel_rfl, by kernel_rfl, by kernel_rfl, by decide +kernel, by kernel_rfl, by decide +kernel, by decide +kernel⟩
  ck := fun K => by kernel_rfl
  bi := fun K f fd F => F.bindsN fun _ _ _ _ _ _ us hl => match us, hl with | [_, _, _, _, _, _], _ => by kernel_rfl
  np := by kernel_rfl
  nn := by kernel_rfl
theorem s32 : FnSt M i32 where
  sc := ⟨by kernel_rfl, by kernel_rfl, by kernel_rfl, by decide +kernel, by kernel_rfl, by decide +kernel, by decide +kernel⟩
  ck := fun K => by kernel_rfl
  bi := fun K f fd F => F.bindsN fun _ _ _ _ _ _ us hl => match us, hl with | [_], _ => by kernel_rfl
  np := by kernel_rfl
  nn := by kernel_rfl
theorem s33 : FnSt M i33 where
  sc := ⟨by kernel_rfl, by kernel_rfl, by kernel_rfl, by decide +kernel, by kernel_rfl, by decide +kernel, by decide +kernel⟩
  ck := fun K => by kernel_rfl
  bi := fun K f fd F => F.bindsN fun _ _ _ _ _ _ us hl => match us, hl with | [_], _ => by kernel_rfl
  np := by kernel_rfl
  nn := by kernel_rfl
theorem s34 : FnSt M i34 where
  sc := ⟨by kernel_rfl, by kernel_rfl, by kernel_rfl, by decide +kernel, by kernel_rfl, by decide +kernel, by decide +kernel⟩
  ck := fun K => by kernel_rfl
  bi := fun K f fd F => F.bindsN fun _ _ _ _ _ _ us hl => match us, hl with | [_], _ => by kernel_rfl
  np := by kernel_rfl
  nn := by kernel_rfl
theorem s35 : FnSt M i35 where
  sc := ⟨by kernel_rfl, by kernel_rfl, by kernel_rfl, by decide +kernel, by kernel_rfl, by decide +kernel, by decide +kernel⟩
  ck := fun K => by kernel_rfl
  bi := fun K f fd F => F.bindsN fun _ _ _ _ _ _ us hl => match us, hl with | [_, _, _], _ => by kernel_rfl
  np := by kernel_rfl
  nn := by kernel_rfl
theorem s36 : FnSt M i36 where
  sc := ⟨by kernel_rfl, by kernel_rfl, by kernel_rfl, by decide +kernel, by kernel_rfl, by decide +kernel, by decide +kernel⟩
  ck := fun K => by kernel_rfl
  bi := fun K f fd F => F.bindsN fun _ _ _ _ _ _ us hl => match us, hl with | [_], _ => by kernel_rfl
  np := by kernel_rfl
  nn := by kernel_rfl
theorem s37 : FnSt M i37 where
  sc := ⟨by kernel_rfl, by kernel_rfl, by kernel_rfl, by decide +kernel, by kernel_rfl, by decide +kernel, by decide +kernel⟩
  ck := fun K => by kernel_rfl
  bi := fun K f fd F => F.bindsN fun _ _ _ _ _ _ us hl => match us, hl with | [_, _, _], _ => by kernel_rfl
  np := by kernel_rfl
  nn := by kernel_rfl
theorem s38 : FnSt M i38 where
  sc := ⟨by kernel_rfl, by kernel_rfl, by kernel_rfl, by decide +kernel, by kernel_rfl, by decide +kernel, by decide +kernel⟩
  ck := fun K => by kernel_rfl
  bi := fun K f fd F => F.bindsN fun _ _ _ _ _ _ us hl => match us, hl with | [_, _, _], _ => by kernel_rfl
  np := by kernel_rfl
  nn := by kernel_rfl
theorem s46 : FnSt M i46 where
  sc := ⟨by kernel_rfl, by kernel_rfl, by kernel_rfl, by decide +kernel, by kernel_rfl, by decide +kernel, by decide +kernel⟩
  ck := fun K => by kernel_rfl
  bi := fun K f fd F => F.bindsN fun _ _ _ _ _ _ us hl => match us, hl with | [_, _, _], _ => by kernel_rfl
  np := by kernel_rfl
  nn := by kernel_rfl
theorem s47 : FnSt M i47 where
  sc := ⟨by kernel_rfl, by kernel_rfl, by kernel_rfl, by decide +kernel, by kernel_rfl, by decide +kernel, by decide +kernel⟩
  ck := fun K => by kernel_rfl
  bi := fun K f fd F => F.bindsN fun _ _ _ _ _ _ us hl => match us, hl with | [_, _, _, _, _], _ => by kernel_rfl
  np := by kernel_rfl
  nn := by kernel_rfl
theorem s48 : FnSt M i48 where
  sc := ⟨by kernel_rfl, by kernel_rfl, by kernel_rfl, by decide +kernel, by kernel_rfl, by decide +kernel, by decide +kernel⟩
  ck := fun K => by kernel_rfl
  bi := fun K f fd F => F.bindsN fun _ _ _ _ _ _ us hl => match us, hl with | [_], _ => by kernel_rfl
  np := by kernel_rfl
  nn := by kernel_rfl
theorem s49 : FnSt M i49 where
  sc := ⟨by kernel_rfl, by kernel_rfl, by kernel_rfl, by decide +kernel, by kernel_rfl, by decide +kernel, by decide +kernel⟩
  ck := fun K => by kernel_rfl
  bi := fun K f fd F => F.bindsN fun _ _ _ _ _ _ us hl => match us, hl with | [_], _ => by kernel_rfl
  np := by kernel_rfl
  nn := by kernel_rfl
def lawIx : Nat := 49
def lawTop : Nat := 66
def loose : List PySem.Str := (["_wall", "WrongValue", "InvalidText", "InvalidPlace", "InvalidAssignment", "InvalidWalk", "NotAProgram", "NoAnswer", "TooMany", "MOST_NAMES", "MOST_PARTS", "MOST_ROWS", "MOST_DEEP", "MOST_ARGUMENTS", "DIGITS"] : List PySem.Str) ++ (["LETTERS", "LONGEST", "is_integer", "is_between", "is_long_word", "is_word", "calls_in", "fits_calls", "FIRST_ROW", "BARE", "read_assignment", "read_row", "read_words", "Plan", "Program"] : List PySem.Str) ++ (["check_program", "check_place", "calls_told", "is_assignment", "check_assignment", "check_many_rows", "callers_along", "is_walk", "check_walk", "callers", "steps", "_law_purse", "_law_take", "_law_word", "_law_words"] : List PySem.Str) ++ (["_law_assigned", "_law_block", "_law_called", "_law_plan", "_law_line", "_law_lines", "_law_all_lines", "_law_moves", "_law_laid", "_law_next", "_law_walk", "_law_start", "_law_at", "_law_right"] : List PySem.Str)
end LK15
set_option Elab.async false
set_option linter.all false
set_option maxRecDepth 100000
set_option maxHeartbeats 4000000
namespace LK15
open PySem PySem.Spec PyProof.Rows L2 DL
/-- the law, read -/
def LawD : Prop := ∀ (K : PySem.W.Frag) (ns : List Int), ns.length ≤ 63 → gam (M.tb K) M.pg (29 + 1) 49 [.rol (ns.map .int)] (fun _ => none) fun ev _ => ev = .v (.bl true)
theorem sAll : ∀ i ∈ M.fns, FnSt M i := by
  have h : ∀ i ∈ [i0, i1, i2, i3, i4, i5, i6, i7, i8, i9, i10, i11, i12, i13, i14, i15, i16, i17, i18, i19, i20, i44, i21, i22, i23, i24, i25, i26, i27, i28, i29, i30, i45, i32, i33, i34, i35, i36, i37, i38, i46, i47, i48, i49], FnSt M i := by
    intro i hi
    simp only [List.mem_cons, List.not_mem_nil, or_false] at hi
    rcases hi with rfl | rfl | rfl | rfl | rfl | rfl | rfl | rfl | rfl | rfl | rfl | rfl | rfl | rfl | rfl | rfl | rfl | rfl | rfl | rfl | rfl | rfl | rfl | rfl | rfl | rfl | rfl | rfl | rfl | rfl | rfl | rfl | rfl | rfl | rfl | rfl | rfl | rfl | rfl | rfl | rfl | rfl | rfl | rfl
    · exact s0
    · exact s1
    · exact s2
    · exact s3
    · exact s4
    · exact s5
    · exact s6
    · exact s7
    · exact s8
    · exact s9
    · exact s10
    · exact s11
    · exact s12
    · exact s13
    · exact s14
    · exact s15
    · exact s16
    · exact s17
    · exact s18
    · exact s19
    · exact s20
    · exact s44
    · exact s21
    · exact s22
    · exact s23
    · exact s24
    · exact s25
    · exact s26
    · exact s27
    · exact s28
    · exact s29
    · exact s30
    · exact s45
    · exact s32
    · exact s33
    · exact s34
    · exact s35
    · exact s36
    · exact s37
    · exact s38
    · exact s46
    · exact s47
    · exact s48
    · exact s49
  exact h
abbrev R : PySem.W.OpenRow := PySem.W.OpenLaw.row PySem.Challenge.rw_likevalues_k15_whole_walks_step_by_step
abbrev hk : PySem.W.Hook := hookC 5 M
def ob (s : PySem.W.SharedT) : He.AlD := obsCG 5 M (HandSHeadRun.getT s)
theorem ob_eq (s : PySem.W.SharedT) : ob s = hk.obs s.abs := obsCG_eq (HandSHeadRun.getT_eq s)
theorem run (w : World) : HandSHeadRun.RunEq R (PySem.W.view R.prog [66]) hk ob 20000 loose w := by
  intro os
  kernel_rfl
end LK15
section
open PySem PySem.W PySem.Calls PyProof.Rows
theorem likevalues_holds (hlaw : LK15.LawD) : PySem.Challenge.rw_likevalues_k15_whole_walks_step_by_step.Holds := by
  w_on; o_law
  refine HandSHeadRun.head_any (r := OpenLaw.row PySem.Challenge.rw_likevalues_k15_whole_walks_step_by_step) (q := view (OpenLaw.row PySem.Challenge.rw_likevalues_k15_whole_walks_step_by_step).prog [66]) (H := LK15.hk) (ob := LK15.ob) (M := 20000) (loose := LK15.loose) (d := HandSHeadRun.topDef (OpenLaw.row PySem.Challenge.rw_likevalues_k15_whole_walks_step_by_step).prog 66) (kwd := []) LK15.ob_eq
    (by kernel_rfl) (fun s => by kernel_rfl) LK15.run (by kernel_rfl) (by kernel_rfl) (by kernel_rfl) (by rfl) (by first | assumption | decide +kernel) (by decide +kernel) ⟨rfl, rfl, rfl, rfl, rfl, by decide +kernel⟩ ?hw ?hc
  case hw => w_witness2
  case hc =>
    refine DL.gWalk (l := PySem.Challenge.rw_likevalues_k15_whole_walks_step_by_step) (n := 63) (k := 60) (x := "_law_script") (CX := L2.CX0) rfl (by decide) (by kernel_rfl) ⟨rfl, by decide, by decide⟩ ?F (fun _ _ _ _ z => z)
    intro w mg fa h Y G hmg0
    obtain ⟨K, KX, c⟩ := Y
    have hmg : mg ("law" : PySem.Str) = some (.ref fa) := by
      have e : (HandSHeadRun.topDef (OpenLaw.row PySem.Challenge.rw_likevalues_k15_whole_walks_step_by_step).prog 66).name = ("law" : PySem.Str) := by kernel_rfl
      rw [← e]
      exact hmg0
    obtain ⟨fd, hb, hF⟩ := DL.law_facts (M := LK15.M) (ix := 49) (n := 29) (i := LK15.i49) (x := "_law_script") (lw := "law") KX G c (by decide +kernel) (by decide +kernel) LK15.sAll (by kernel_rfl) (by kernel_rfl) (by kernel_rfl) hmg (fun _ _ _ _ _ _ us hl => match us, hl with | [_], _ => by kernel_rfl)
    exact ⟨K, fd, _, KX, hb, fun H a ns hl hO hS => DL.law_sp hO hS (hlaw K ns hl) _, fun base _ _ => hF _ w base⟩
end
set_option Elab.async false
set_option linter.all false
set_option maxRecDepth 100000
set_option maxHeartbeats 4000000
/-! the reading, unfolded step by step -/
namespace DL
open PySem PySem.Spec PyProof.Rows L2
section
variable {T : Tb} {P : Pg} {G : Gam}
section
variable {ds : Slt} {hd : Hd} {Q : EV → Hd → Prop} {R : Bool → Hd → Prop} {U : List D → Hd → Prop} {E : DEn}
@[simp] theorem e_var {i : Nat} : wpE T P G (.var i) ds hd Q = (match ds[i]? with | some (some d) => Q (.v d) hd | _ => False) := propext Iff.rfl
@[simp] theorem e_lit {d : D} : wpE T P G (.lit d) ds hd Q = Q (.v d) hd := propext Iff.rfl
@[simp] theorem e_glob {n : Nat} : wpE T P G (.glob n) ds hd Q = (match P.gl n with | some d => Q (.v d) hd | none => False) := propext Iff.rfl
@[simp] theorem e_op {o : Op} {es : IEs} : wpE T P G (.op o es) ds hd Q = wpEs T P G es ds hd fun l hd1 => dop T o hd1 l Q := propext Iff.rfl
@[simp] theorem e_meth {g : Tg} {o : Op} {r : IE} {es : IEs} : wpE T P G (.meth g o r es) ds hd Q = wpE T P G r ds hd fun ev hd1 => isTg g hd1 ev.d = true ∧ wpEs T P G es ds hd1 fun l hd2 => dop T o hd2 (ev.d :: l) Q := propext Iff.rfl
@[simp] theorem e_andv {a b : IE} : wpE T P G (.andv a b) ds hd Q = wpE T P G a ds hd fun ev hd1 => match truth hd1 ev.d with
    | some true => wpE T P G b ds hd1 Q
    | some false => Q (.v ev.d) hd1
    | none => False := propext Iff.rfl
@[simp] theorem e_orv {a b : IE} : wpE T P G (.orv a b) ds hd Q = wpE T P G a ds hd fun ev hd1 => match truth hd1 ev.d with
    | some true => Q (.v ev.d) hd1
    | some false => wpE T P G b ds hd1 Q
    | none => False := propext Iff.rfl
@[simp] theorem e_tst {t : IT} : wpE T P G (.tst t) ds hd Q = wpT T P G t ds hd fun b hd1 => Q (.v (.bl b)) hd1 := propext Iff.rfl
@[simp] theorem e_ife {t : IT} {a b : IE} : wpE T P G (.ife t a b) ds hd Q = wpT T P G t ds hd fun c hd1 => match c with
    | true => wpE T P G a ds hd1 Q
    | false => wpE T P G b ds hd1 Q := propext Iff.rfl
@[simp] theorem e_call {f : Nat} {es : IEs} : wpE T P G (.call f es) ds hd Q = wpEs T P G es ds hd fun l hd1 => G f l hd1 Q := propext Iff.rfl
@[simp] theorem e_comp {e : IE} {g : IG} {it : II} {own : List Nat} : wpE T P G (.comp e g it own) ds hd Q = wpI T P G it ds hd fun its gd hd1 => its.length ≤ 16777216 ∧
      turns (fun x hd' K => bindG g x (wipeD ds own) fun ds1 => wpE T P G e ds1 hd' fun ev hd'' => K (some ev.d) hd'') gd its [] hd1 fun l hd2 => Q (.nl l) hd2 := propext Iff.rfl
@[simp] theorem e_compIf {e : IE} {g : IG} {it : II} {t : IT} {own : List Nat} : wpE T P G (.compIf e g it t own) ds hd Q = wpI T P G it ds hd fun its gd hd1 => its.length ≤ 16777216 ∧
      turns (fun x hd' K => bindG g x (wipeD ds own) fun ds1 => wpT T P G t ds1 hd' fun b hd2 => match b with
        | true => wpE T P G e ds1 hd2 fun ev hd'' => K (some ev.d) hd''
        | false => K none hd2) gd its [] hd1 fun l hd2 => Q (.nl l) hd2 := propext Iff.rfl
@[simp] theorem w_own {i : Nat} : wipeD ds [i] = ds.set i none := rfl
@[simp] theorem e_rel {e : IE} : wpE T P G (.rel e) ds hd Q = wpE T P G e ds hd fun ev hd1 => rel true ev hd1 Q := propext Iff.rfl
@[simp] theorem t_val {e : IE} : wpT T P G (.val e) ds hd R = wpE T P G e ds hd fun ev hd1 => match truth hd1 ev.d with
    | some b => R b hd1
    | none => False := propext Iff.rfl
@[simp] theorem t_op {o : Op} {es : IEs} : wpT T P G (.op o es) ds hd R = wpEs T P G es ds hd fun l hd1 => dop T o hd1 l fun ev hd2 => match ev with
    | .v (.bl b) => R b hd2
    | _ => False := propext Iff.rfl
@[simp] theorem t_and {a b : IT} : wpT T P G (.and a b) ds hd R = wpT T P G a ds hd fun c hd1 => match c with
    | true => wpT T P G b ds hd1 R
    | false => R false hd1 := propext Iff.rfl
@[simp] theorem t_or {a b : IT} : wpT T P G (.or a b) ds hd R = wpT T P G a ds hd fun c hd1 => match c with
    | true => R true hd1
    | false => wpT T P G b ds hd1 R := propext Iff.rfl
@[simp] theorem t_not {a : IT} : wpT T P G (.not a) ds hd R = wpT T P G a ds hd fun c hd1 => R (!c) hd1 := propext Iff.rfl
@[simp] theorem es_nil : wpEs T P G .nil ds hd U = U [] hd := propext Iff.rfl
@[simp] theorem es_f {e : IE} {r : IEs} : wpEs T P G (.cons false e r) ds hd U = wpE T P G e ds hd fun ev hd1 => wpEs T P G r ds hd1 fun l hd3 => U (ev.d :: l) hd3 := propext Iff.rfl
@[simp] theorem es_t {e : IE} {r : IEs} : wpEs T P G (.cons true e r) ds hd U = wpE T P G e ds hd fun ev hd1 => trk ev hd1 fun d hd2 => wpEs T P G r ds hd2 fun l hd3 => U (d :: l) hd3 := propext Iff.rfl
@[simp] theorem s_nil : wpSs T P G .nil E ds hd = E.nx ds hd := propext Iff.rfl
@[simp] theorem s_cons {s : IS} {r : ISs} : wpSs T P G (.cons s r) E ds hd = wpS T P G s { E with nx := wpSs T P G r E } ds hd := propext Iff.rfl
@[simp] theorem s_expr {e : IE} : wpS T P G (.expr e) E ds hd = wpE T P G e ds hd fun _ hd1 => E.nx ds hd1 := propext Iff.rfl
@[simp] theorem s_asg {b : Bool} {g : IG} {e : IE} : wpS T P G (.asg b g e) E ds hd = wpE T P G e ds hd fun ev hd1 => take b ev hd1 fun d hd2 => bindG g d ds fun ds1 => E.nx ds1 hd2 := propext Iff.rfl
@[simp] theorem s_par {is : List Nat} {es : IEs} : wpS T P G (.par is es) E ds hd = wpEs T P G es ds hd fun l hd1 => l.length = is.length ∧ E.nx ((is.zip l).foldl (fun a p => a.set p.1 (some p.2)) ds) hd1 := propext Iff.rfl
@[simp] theorem s_st {b : Bool} {g : IGt} {e : IE} : wpS T P G (.st b g e) E ds hd = wpE T P G e ds hd fun ev hd1 => take b ev hd1 fun d hd2 => setG T P G g d ds hd2 E.nx := propext Iff.rfl
@[simp] theorem s_unp {gs : List IGt} {e : IE} : wpS T P G (.unp gs e) E ds hd = wpE T P G e ds hd fun ev hd1 => match ev.d with
    | .tup xs => xs.length = gs.length ∧ setGs T P G gs xs ds hd1 E.nx
    | _ => False := propext Iff.rfl
@[simp] theorem s_ret {b : Bool} {e : IE} : wpS T P G (.ret b e) E ds hd = wpE T P G e ds hd fun ev hd1 => rel b ev hd1 E.rt := propext Iff.rfl
@[simp] theorem s_retN : wpS T P G .retN E ds hd = E.rt (.v .non) hd := propext Iff.rfl
@[simp] theorem s_ife {t : IT} {a b : ISs} : wpS T P G (.ife t a b) E ds hd = wpT T P G t ds hd fun c hd1 => match c with
    | true => wpSs T P G a E ds hd1
    | false => wpSs T P G b E ds hd1 := propext Iff.rfl
@[simp] theorem s_for {g : IG} {it : II} {b : ISs} : wpS T P G (.for_ g it b) E ds hd = wpI T P G it ds hd fun its gd hd1 => loop g gd E (wpSs T P G b) its ds hd1 := propext Iff.rfl
@[simp] theorem s_brk : wpS T P G .brk E ds hd = E.bk ds hd := propext Iff.rfl
@[simp] theorem s_cont : wpS T P G .cont E ds hd = E.ct ds hd := propext Iff.rfl
@[simp] theorem s_pass : wpS T P G .pass E ds hd = E.nx ds hd := propext Iff.rfl
@[simp] theorem i_val {e : IE} {Q : List D → Gd → Hd → Prop} : wpI T P G (.val e) ds hd Q = wpE T P G e ds hd fun ev hd1 => walkD hd1 ev.d fun xs g => Q xs g hd1 := propext Iff.rfl
@[simp] theorem i_rng1 {e : IE} {Q : List D → Gd → Hd → Prop} : wpI T P G (.rng1 e) ds hd Q = wpE T P G e ds hd fun ev hd1 => match ev.d with
    | .int j => -(2 ^ 62) ≤ j ∧ j < 2 ^ 62 ∧ Q (rngD 0 j.toNat) none hd1
    | _ => False := propext Iff.rfl
@[simp] theorem i_rng2 {a b : IE} {Q : List D → Gd → Hd → Prop} : wpI T P G (.rng2 a b) ds hd Q = wpE T P G a ds hd fun ev hd1 => wpE T P G b ds hd1 fun ev2 hd2 => rng2D ev.d ev2.d hd2 Q := propext Iff.rfl
@[simp] theorem g_nm {i : Nat} {d : D} {K : Slt → Hd → Prop} : setG T P G (.nm i) d ds hd K = K (ds.set i (some d)) hd := propext Iff.rfl
@[simp] theorem g_sub {o i : IE} {d : D} {K : Slt → Hd → Prop} : setG T P G (.sub o i) d ds hd K = wpE T P G o ds hd fun w hd2 => wpE T P G i ds hd2 fun k hd3 => setIx d w.d k.d hd3 fun hd4 => K ds hd4 := propext Iff.rfl
@[simp] theorem g_at {o : IE} {f : Nat} {d : D} {K : Slt → Hd → Prop} : setG T P G (.at_ o f) d ds hd K = wpE T P G o ds hd fun w hd2 => setAt T f d w.d hd2 fun hd3 => K ds hd3 := propext Iff.rfl
@[simp] theorem gs_nil {K : Slt → Hd → Prop} : setGs T P G [] [] ds hd K = K ds hd := propext Iff.rfl
@[simp] theorem gs_cons {g : IGt} {gs : List IGt} {d : D} {l : List D} {K : Slt → Hd → Prop} : setGs T P G (g :: gs) (d :: l) ds hd K = setG T P G g d ds hd fun ds1 hd1 => setGs T P G gs l ds1 hd1 K := propext Iff.rfl
@[simp] theorem b_nm {i : Nat} {d : D} {K : Slt → Prop} : bindG (.nm i) d ds K = K (ds.set i (some d)) := propext Iff.rfl
@[simp] theorem tk_f {ev : EV} {K : D → Hd → Prop} : take false ev hd K = K ev.d hd := propext Iff.rfl
@[simp] theorem tk_t {ev : EV} {K : D → Hd → Prop} : take true ev hd K = trk ev hd K := propext Iff.rfl
@[simp] theorem tr_v {d : D} {K : D → Hd → Prop} : trk (.v d) hd K = K d hd := propext Iff.rfl
@[simp] theorem tr_nl {xs : List D} {K : D → Hd → Prop} : trk (.nl xs) hd K = ∀ p, hd p = none → K (.ref p) (put hd p (.lst xs)) := propext Iff.rfl
@[simp] theorem tr_nd {xs : List (DK × D)} {K : D → Hd → Prop} : trk (.nd xs) hd K = ∀ p, hd p = none → K (.ref p) (put hd p (.dic xs)) := propext Iff.rfl
@[simp] theorem rl_f {ev : EV} : rel false ev hd Q = Q ev hd := propext Iff.rfl
@[simp] theorem d_v {d : D} : (EV.v d).d = d := rfl
@[simp] theorem d_nl {xs : List D} : (EV.nl xs).d = .lst xs := rfl
@[simp] theorem d_nd {xs : List (DK × D)} : (EV.nd xs).d = .dic xs := rfl
@[simp] theorem d_no {c : Nat} {xs : List (Nat × D)} : (EV.no c xs).d = .obj c xs := rfl
/-! values -/
@[simp] theorem v_non : view hd .non = .non := rfl
@[simp] theorem v_bl {b : Bool} : view hd (.bl b) = .bl b := rfl
@[simp] theorem v_int {i : Int} : view hd (.int i) = .int i := rfl
@[simp] theorem v_str {x : Tx} : view hd (.str x) = .str x := rfl
@[simp] theorem v_tup {x : List D} : view hd (.tup x) = .tup x := rfl
@[simp] theorem v_lst {x : List D} : view hd (.lst x) = .lst x := rfl
@[simp] theorem v_rol {x : List D} : view hd (.rol x) = .rol x := rfl
@[simp] theorem v_dic {x : List (DK × D)} : view hd (.dic x) = .dic x := rfl
@[simp] theorem v_obj {c : Nat} {x : List (Nat × D)} : view hd (.obj c x) = .obj c x := rfl
theorem v_ref {p : Addr} : view hd (.ref p) = (match hd p with | some (.lst xs) => .lst xs | some (.dic k) => .dic k | some (.ins c f) => .obj c f | none => .ref p) := rfl
@[simp] theorem p_same {p : Addr} {o : DO} : put hd p o p = some o := put_same
@[simp] theorem p_put {p : Addr} {o u : DO} : put (put hd p o) p u = put hd p u := put_put
@[simp] theorem dop_add : dop T .add = oAdd := rfl
@[simp] theorem dop_sub : dop T .sub = oInt cAll (· - ·) := rfl
@[simp] theorem dop_mul : dop T .mul = oInt cMul (· * ·) := rfl
@[simp] theorem dop_fdiv : dop T .fdiv = oInt cDiv (· / ·) := rfl
@[simp] theorem dop_mod : dop T .mod = oInt cMod (· % ·) := rfl
@[simp] theorem dop_pow : dop T .pow = oInt cPow fPow := rfl
@[simp] theorem dop_neg : dop T .neg = oNeg := rfl
@[simp] theorem dop_lt : dop T .lt = oCmp fun i j => decide (i < j) := rfl
@[simp] theorem dop_le : dop T .le = oCmp fun i j => decide (i ≤ j) := rfl
@[simp] theorem dop_gt : dop T .gt = oCmp fun i j => decide (j < i) := rfl
@[simp] theorem dop_ge : dop T .ge = oCmp fun i j => decide (j ≤ i) := rfl
@[simp] theorem dop_eq : dop T .eq = oEq false := rfl
@[simp] theorem dop_ne : dop T .ne = oEq true := rfl
@[simp] theorem dop_isN : dop T .isN = oIsN false := rfl
@[simp] theorem dop_notN : dop T .notN = oIsN true := rfl
@[simp] theorem dop_in : dop T .inn = oIn false := rfl
@[simp] theorem dop_notin : dop T .notin = oIn true := rfl
@[simp] theorem dop_tup : dop T .tup = oTup := rfl
@[simp] theorem dop_lst : dop T .lst = oLst := rfl
@[simp] theorem dop_dic0 : dop T .dic0 = oDic0 := rfl
@[simp] theorem dop_idx : dop T .idx = oIdxA := rfl
@[simp] theorem dop_len : dop T .len = oLen := rfl
@[simp] theorem dop_abs : dop T .abs = oAbs := rfl
@[simp] theorem dop_int : dop T .int = oIntOf := rfl
@[simp] theorem dop_tupof : dop T .tupof = oTupOf := rfl
@[simp] theorem dop_lstof : dop T .lstof = oLstOf := rfl
@[simp] theorem dop_dicof : dop T .dicof = oDicOf := rfl
@[simp] theorem dop_divmod : dop T .divmod = oDivmod := rfl
@[simp] theorem dop_max2 : dop T .max2 = oMax2 := rfl
@[simp] theorem dop_min2 : dop T .min2 = oMin2 := rfl
@[simp] theorem dop_all : dop T .all = oAll := rfl
@[simp] theorem dop_any : dop T .any = oAny := rfl
@[simp] theorem dop_split : dop T .split = oSplit := rfl
@[simp] theorem dop_part : dop T .part = oPart := rfl
@[simp] theorem dop_join : dop T .join = oJoin := rfl
@[simp] theorem dop_append : dop T .append = oAppend := rfl
@[simp] theorem dop_extend : dop T .extend = oExtend := rfl
@[simp] theorem dop_pop : dop T .pop = oPop := rfl
@[simp] theorem dop_insert : dop T .insert = oInsert := rfl
@[simp] theorem dop_get2 : dop T .get2 = oGet2 := rfl
@[simp] theorem dop_strI : dop T .strI = oStrI := rfl
@[simp] theorem dop_sl {a b : Bool} : dop T (.sl a b) = oSl a b := rfl
@[simp] theorem dop_isin {k : TyT} : dop T (.isin k) = oIsIn T k := rfl
@[simp] theorem dop_attr {f : Nat} : dop T (.attr f) = oAttr T f := rfl
@[simp] theorem dop_sortI : dop T .sortI = oSortI := rfl
@[simp] theorem dop_sortP : dop T .sortP = oSortP := rfl
@[simp] theorem dop_itemsL : dop T .itemsL = oItemsL := rfl
@[simp] theorem o_addI {i j : Int} : oAdd hd [.int i, .int j] Q = Q (.v (.int (i + j))) hd := propext Iff.rfl
@[simp] theorem o_addS {i j : Tx} : oAdd hd [.str i, .str j] Q = (i.length + j.length ≤ 16777216 ∧ Q (.v (.str (i ++ j))) hd) := propext Iff.rfl
@[simp] theorem o_int {C : Int → Int → Bool} {f : Int → Int → Int} {i j : Int} : oInt C f hd [.int i, .int j] Q = (C i j = true ∧ Q (.v (.int (f i j))) hd) := propext Iff.rfl
@[simp] theorem o_cmp {f : Int → Int → Bool} {i j : Int} : oCmp f hd [.int i, .int j] Q = Q (.v (.bl (f i j))) hd := propext Iff.rfl
@[simp] theorem o_intOf {i : Int} : oIntOf hd [.int i] Q = Q (.v (.int i)) hd := propext Iff.rfl
@[simp] theorem o_absI {i : Int} : oAbs hd [.int i] Q = Q (.v (.int (if i < 0 then -i else i))) hd := propext Iff.rfl
@[simp] theorem o_divmodI {i j : Int} : oDivmod hd [.int i, .int j] Q = (cDiv i j = true ∧ Q (.v (.tup [.int (i / j), .int (i % j)])) hd) := propext Iff.rfl
@[simp] theorem o_tup {xs : List D} : oTup hd xs Q = (xs.length ≤ 16777216 ∧ Q (.v (.tup xs)) hd) := propext Iff.rfl
@[simp] theorem o_lst {xs : List D} : oLst hd xs Q = (xs.length ≤ 16777216 ∧ Q (.nl xs) hd) := propext Iff.rfl
@[simp] theorem o_isN {x : D} {b : Bool} : oIsN b hd [x] Q = Q (.v (.bl (xor b (isNon x)))) hd := propext Iff.rfl
theorem ix_lst {p : D} {xs : List D} (h : view hd p = .lst xs) {i : Int} : oIdxA hd [p, .int i] Q = (match atI xs i with | some d => Q (.v d) hd | none => False) := by
  unfold oIdxA; simp only [h]; unfold oIdx; simp only [h, v_int] <;> cases atI xs i <;> rfl
theorem ix_tup {p : D} {xs : List D} (h : view hd p = .tup xs) {i : Int} : oIdxA hd [p, .int i] Q = (match atI xs i with | some d => Q (.v d) hd | none => False) := by
  unfold oIdxA; simp only [h]; unfold oIdx; simp only [h, v_int] <;> cases atI xs i <;> rfl
theorem ix_rol {p : D} {xs : List D} (h : view hd p = .rol xs) {i : Int} : oIdxA hd [p, .int i] Q = (match atI xs i with | some d => Q (.v d) hd | none => False) := by
  unfold oIdxA; simp only [h]; unfold oIdx; simp only [h, v_int] <;> cases atI xs i <;> rfl
theorem ix_str {p : D} {xs : Tx} (h : view hd p = .str xs) {i : Int} : oIdxA hd [p, .int i] Q = (match atI xs i with | some d => Q (.v (.str [d])) hd | none => False) := by
  unfold oIdxA; simp only [h]; unfold oIdx; simp only [h, v_int] <;> cases atI xs i <;> rfl
theorem set_lst {p : Addr} {xs : List D} (h : hd p = some (.lst xs)) {d : D} {i : Int} {K : Hd → Prop} : setIx d (.ref p) (.int i) hd K = (match ixN xs.length i with | some n => K (put hd p (.lst (xs.set n d))) | none => False) := by
  unfold setIx; simp only [h] <;> cases ixN xs.length i <;> rfl
@[simp] theorem v_put {p : Addr} {xs : List D} : view (put hd p (.lst xs)) (.ref p) = .lst xs := by rw [v_ref, put_same]
@[simp] theorem ix_put {p : Addr} {xs : List D} {i : Int} : oIdxA (put hd p (.lst xs)) [.ref p, .int i] Q = (match atI xs i with | some d => Q (.v d) (put hd p (.lst xs)) | none => False) := ix_lst v_put
@[simp] theorem ix_lit {xs : List D} {i : Int} : oIdxA hd [.lst xs, .int i] Q = (match atI xs i with | some d => Q (.v d) hd | none => False) := ix_lst rfl
@[simp] theorem ix_litT {xs : List D} {i : Int} : oIdxA hd [.tup xs, .int i] Q = (match atI xs i with | some d => Q (.v d) hd | none => False) := ix_tup rfl
@[simp] theorem ix_litR {xs : List D} {i : Int} : oIdxA hd [.rol xs, .int i] Q = (match atI xs i with | some d => Q (.v d) hd | none => False) := ix_rol rfl
@[simp] theorem ix_litS {xs : Tx} {i : Int} : oIdxA hd [.str xs, .int i] Q = (match atI xs i with | some d => Q (.v (.str [d])) hd | none => False) := ix_str rfl
@[simp] theorem set_put {p : Addr} {xs : List D} {d : D} {i : Int} {K : Hd → Prop} : setIx d (.ref p) (.int i) (put hd p (.lst xs)) K = (match ixN xs.length i with | some n => K (put hd p (.lst (xs.set n d))) | none => False) := by rw [set_lst put_same]; cases ixN xs.length i <;> simp
@[simp] theorem tr_bl {b : Bool} : truth hd (.bl b) = some b := rfl
@[simp] theorem tr_i {i : Int} : truth hd (.int i) = some (i != 0) := rfl
end
theorem gam_at {f : Nat} {F : Fn} (hF : P.fn f = some F) {n : Nat} {args : List D} {hd : Hd} {Q : EV → Hd → Prop} (hl : args.length = F.np)
    (h : wpSs T P (gam T P n) F.body { nx := fun _ hd' => ∃ h2, Sub h2 hd' ∧ Q (.v .non) h2, rt := fun ev hd' => ∃ h2, Sub h2 hd' ∧ Q ev h2, bk := fun _ _ => False, ct := fun _ _ => False } (args.map some ++ List.replicate (F.nn - F.np) none) hd) : gam T P (n + 1) f args hd Q := by
  unfold gam
  rw [hF]
  exact ⟨hl, h⟩
end
/-! ### comprehensions over a heap that stays -/
theorem turns_filt {one : D → Hd → (Option D → Hd → Prop) → Prop} {gd : Gd} {hd : Hd} (p : D → Bool) (f : D → D) (hg : gdOk gd hd) {K : List D → Hd → Prop} : ∀ (its acc : List D), (∀ x ∈ its, ∀ K : Option D → Hd → Prop, K (if p x = true then some (f x) else none) hd → one x hd K) →
    K (acc ++ (its.filter p).map f) hd → turns one gd its acc hd K
  | [], acc, h, k => ⟨hg, by simpa using k⟩
  | x :: r, acc, h, k => by
    refine ⟨hg, h x (by simp) _ ?_⟩
    by_cases e : p x = true
    · rw [if_pos e]
      refine turns_filt p f hg r (acc ++ [f x]) (fun y hy => h y (by simp [hy])) ?_
      rw [List.filter_cons_of_pos e] at k
      simpa using k
    · rw [if_neg e]
      refine turns_filt p f hg r acc (fun y hy => h y (by simp [hy])) ?_
      rw [List.filter_cons_of_neg e] at k
      exact k
theorem turns_map {one : D → Hd → (Option D → Hd → Prop) → Prop} {gd : Gd} {hd : Hd} (f : D → D) (hg : gdOk gd hd) {K : List D → Hd → Prop} {its : List D} (h : ∀ x ∈ its, ∀ K : Option D → Hd → Prop, K (some (f x)) hd → one x hd K)
    (k : K (its.map f) hd) : turns one gd its [] hd K := by
  refine turns_filt (fun _ => true) f hg its [] (fun x hx K q => h x hx K (by simpa using q)) ?_
  have e : its.filter (fun _ => true) = its := List.filter_eq_self.mpr fun _ _ => rfl
  rw [e]
  exact k
theorem all_sh {n : Nat} {ws : List Tx} : (ws.map D.str).all (shD n) = true := by
  rw [List.all_map, List.all_eq_true]
  intro x _
  cases n <;> rfl
theorem any_str {w : Tx} : ∀ {ws : List Tx}, ((ws.map D.str).any fun z => deq z (.str w)) = ws.contains w
  | [] => rfl
  | x :: ws => by
    rw [List.map_cons, List.any_cons, any_str, List.contains_cons]
    have : deq (.str x) (.str w) = (w == x) := by
      simp only [deq]
      by_cases e : x = w
      · subst e; simp
      · have : ¬ w = x := fun z => e z.symm
        simp [e, this]
    rw [this]
theorem in_strs {hd : Hd} {d : D} {ws : List Tx} (h : view hd d = .lst (ws.map .str)) {w : Tx} {neg : Bool} {Q : EV → Hd → Prop} : oIn neg hd [.str w, d] Q = Q (.v (.bl (xor neg (ws.contains w)))) hd := by
  unfold oIn
  simp only [h, all_sh, any_str]
  have : shD 60 (.str w) = true := rfl
  simp [this]
theorem app_put {hd : Hd} {p : Addr} {xs : List D} {y : D} {Q : EV → Hd → Prop} (h : hd p = some (.lst xs)) : oAppend hd [.ref p, y] Q = (xs.length < 16777216 ∧ Q (.v .non) (put hd p (.lst (xs ++ [y])))) := by
  unfold oAppend
  simp only [h]
theorem tg_lst {hd : Hd} {d : D} {xs : List D} (h : view hd d = .lst xs) : isTg .lst hd d = true := by
  unfold isTg; simp [h]
theorem rel_lst {hd : Hd} {p : Addr} {xs : List D} (h : hd p = some (.lst xs)) {Q : EV → Hd → Prop} : rel true (.v (.ref p)) hd Q = Q (.nl xs) (del hd p) := by
  unfold rel; simp only [h]
theorem t_and_pure {T : Tb} {P : Pg} {G : Gam} {ds : Slt} {hd : Hd} {a b : IT} {x y : Bool} (ha : ∀ R : Bool → Hd → Prop, wpT T P G a ds hd R = R x hd) (hb : ∀ R : Bool → Hd → Prop, wpT T P G b ds hd R = R y hd) (R : Bool → Hd → Prop) :
    wpT T P G (.and a b) ds hd R = R (x && y) hd := by
  rw [t_and, ha]
  cases x with
  | true => simp only [Bool.true_and]; exact hb R
  | false => rfl
theorem t_or_pure {T : Tb} {P : Pg} {G : Gam} {ds : Slt} {hd : Hd} {a b : IT} {x y : Bool} (ha : ∀ R : Bool → Hd → Prop, wpT T P G a ds hd R = R x hd) (hb : ∀ R : Bool → Hd → Prop, wpT T P G b ds hd R = R y hd) (R : Bool → Hd → Prop) :
    wpT T P G (.or a b) ds hd R = R (x || y) hd := by
  rw [t_or, ha]
  cases x with
  | true => rfl
  | false => simp only [Bool.false_or]; exact hb R
theorem s_ife_of {T : Tb} {P : Pg} {G : Gam} {ds : Slt} {hd : Hd} {t : IT} {a b : ISs} {E : DEn} (x : Bool) (h : ∀ R : Bool → Hd → Prop, wpT T P G t ds hd R = R x hd) (ht : x = true → wpSs T P G a E ds hd) (hf : x = false → wpSs T P G b E ds hd) : wpS T P G (.ife t a b) E ds hd := by
  rw [s_ife, h]
  cases x with
  | true => exact ht rfl
  | false => exact hf rfl
theorem oeq_int {hd : Hd} {i j : Int} {neg : Bool} {Q : EV → Hd → Prop} : oEq neg hd [.int i, .int j] Q = Q (.v (.bl (xor neg (i == j)))) hd := by
  unfold oEq
  simp [shD, deq]
end DL
set_option Elab.async false
set_option linter.all false
set_option maxRecDepth 100000
set_option maxHeartbeats 4000000
namespace LK15
open PySem PySem.Spec PyProof.Rows L2 DL
section
variable {K : PySem.W.Frag}
theorem p25 : M.pg.fn 25 = some f25 := by kernel_rfl
/-- the purse at p: seed, figures, how often it was asked (at most b) -/
def PB (hd : Hd) (p : Addr) (b : Int) : Prop := ∃ s f c : Int, hd p = some (.lst [.int s, .int f, .int c]) ∧ 0 ≤ s ∧ s < 2147483543 ∧ 0 ≤ f ∧ 0 ≤ c ∧ c ≤ b
def Fr (hd hd' : Hd) (p : Addr) : Prop := ∀ q, q ≠ p → hd' q = hd q
theorem take_ok {n : Nat} {hd : Hd} {p : Addr} {b m : Int} {Q : EV → Hd → Prop} (h : PB hd p b) (hb : b ≤ 1000000000000) (hm : 1 ≤ m) (hm2 : m < 1073741824)
    (k : ∀ (r : Int) (hd' : Hd), PB hd' p (b + 1) → Fr hd hd' p → 0 ≤ r → r < m → Q (.v (.int r)) hd') : gam (M.tb K) M.pg (n + 1) 25 [.ref p, .int m] hd Q := by
  obtain ⟨s, f, c, h0, h1, h2, h3, h4, h5⟩ := h
  refine gam_at p25 rfl ?_
  have v0 : view hd (.ref p) = .lst [.int s, .int f, .int c] := by rw [v_ref, h0]
  unfold f25
  simp [ix_lst v0, set_lst h0, atI, ixN]
  have fr : ∀ l, Fr hd (put hd p (.lst l)) p := fun l q hq => put_ne hq
  by_cases hf : 0 < f
  · simp [hf]
    have d1 := Int.ediv_nonneg (a := f) (b := m) (by omega) (by omega)
    have d2 := Int.emod_nonneg f (show m ≠ 0 by omega)
    have d3 := Int.emod_lt_of_pos f (show 0 < m by omega)
    exact ⟨by simp [cDiv]; omega, _, Sub.refl _, k _ _ ⟨s, f / m, c + 1, put_same, by omega, by omega, d1, by omega, by omega⟩ (fr _) d2 d3⟩
  · simp [hf]
    have e1 := Int.emod_nonneg (s * (s / 7 % 40009 + 30011) + 70001 * (c + 1) * (c + 1) + 29) (show (2147483543 : Int) ≠ 0 by decide)
    have e2 := Int.emod_lt_of_pos (s * (s / 7 % 40009 + 30011) + 70001 * (c + 1) * (c + 1) + 29) (show (0 : Int) < 2147483543 by decide)
    generalize (s * (s / 7 % 40009 + 30011) + 70001 * (c + 1) * (c + 1) + 29) % 2147483543 = z at e1 e2 ⊢
    have d2 := Int.emod_nonneg (z / 128) (show m ≠ 0 by omega)
    have d3 := Int.emod_lt_of_pos (z / 128) (show 0 < m by omega)
    refine ⟨by simp [cDiv], by simp [cMod], by simp [cMul]; left; omega, by simp [cMul], by simp [cMul]; right; omega, by simp [cMod], by simp [cDiv], by simp [cMod]; omega, _, Sub.refl _, k _ _ ⟨z, f, c + 1, put_same, e1, e2, h3, by omega, by omega⟩ (fr _) d2 d3⟩
end
end LK15
set_option Elab.async false
set_option linter.all false
set_option maxRecDepth 100000
set_option maxHeartbeats 4000000
namespace LK15
open PySem PySem.Spec PyProof.Rows L2 DL
section
variable {K : PySem.W.Frag}
theorem PB.le {hd : Hd} {p : Addr} {b b' : Int} (h : PB hd p b) (l : b ≤ b') : PB hd p b' := by
  obtain ⟨s, f, c, h0, h1, h2, h3, h4, h5⟩ := h
  exact ⟨s, f, c, h0, h1, h2, h3, h4, by omega⟩
theorem Fr.trans {a b c : Hd} {p : Addr} (x : Fr a b p) (y : Fr b c p) : Fr a c p := fun q h => (y q h).trans (x q h)
theorem Fr.refl (a : Hd) (p : Addr) : Fr a a p := fun _ _ => rfl
/-- a sign of a word -/
def sgn (c : Nat) : Bool := (97 ≤ c && c ≤ 122) || (48 ≤ c && c ≤ 57)
/-- a word -/
def isW (w : Tx) : Bool := match w with
  | [] => false
  | c :: r => (97 ≤ c && c ≤ 122) && r.all sgn && decide (r.length ≤ 8)
theorem p26 : M.pg.fn 26 = some f26 := by kernel_rfl
theorem at_nat {α : Type} {xs : List α} {i : Int} (h : 0 ≤ i) (h2 : i < xs.length) : ∃ x, atI xs i = some x ∧ x ∈ xs := by
  unfold atI ixN
  rw [if_pos h, if_pos h2]
  have : i.toNat < xs.length := by omega
  exact ⟨xs[i.toNat], by simp [this], List.getElem_mem this⟩
theorem rng_len {lo : Int} {n : Nat} : (rngD lo n).length = n := by simp [rngD]
abbrev wBody : ISs := .cons (.asg false (.nm 2) (.op .add (.cons false (.var 2) (.cons false (.op .idx (.cons false (.lit (.str [97, 98, 99, 100, 101, 102, 103, 104, 105, 106, 107, 108, 109, 110, 111, 112, 113, 114, 115, 116, 117, 118, 119, 120, 121, 122, 48, 49, 50, 51, 52, 53, 54, 55, 56, 57])) (.cons false (.call 25 (.cons true (.var 0) (.cons false (.lit (.int 36)) .nil))) .nil))) .nil)))) .nil
theorem word_loop {n : Nat} {p : Addr} {E : DEn} {way y : Option D} : ∀ (its : List D) (w : Tx) (hd : Hd) (b : Int) (x : Option D), isW w = true → w.length + its.length ≤ 9 → PB hd p b → b + its.length ≤ 100000000000 →
    (∀ (w' : Tx) (hd' : Hd) (x' : Option D), isW w' = true → PB hd' p (b + its.length) → Fr hd hd' p → E.nx [some (.ref p), way, some (.str w'), x', y] hd') →
    loop (.nm 3) none E (wpSs (M.tb K) M.pg (gam (M.tb K) M.pg (n + 1)) wBody) its [some (.ref p), way, some (.str w), x, y] hd
  | [], w, hd, b, x, hw, hl, hp, hb, k => ⟨trivial, k w hd x hw (by simpa using hp) (Fr.refl _ _)⟩
  | i :: its, w, hd, b, x, hw, hl, hp, hb, k => by
    refine ⟨trivial, ?_⟩
    rw [List.length_cons] at hl hb
    simp
    refine take_ok hp (by omega) (by omega) (by omega) fun r hd' hp' fr h0 h1 => ?_
    obtain ⟨c, hc, hm⟩ := at_nat (xs := [97, 98, 99, 100, 101, 102, 103, 104, 105, 106, 107, 108, 109, 110, 111, 112, 113, 114, 115, 116, 117, 118, 119, 120, 121, 122, 48, 49, 50, 51, 52, 53, 54, 55, 56, 57]) h0 (by simpa using h1)
    simp [hc]
    have hs : sgn c = true := by
      have : ∀ c ∈ [97, 98, 99, 100, 101, 102, 103, 104, 105, 106, 107, 108, 109, 110, 111, 112, 113, 114, 115, 116, 117, 118, 119, 120, 121, 122, 48, 49, 50, 51, 52, 53, 54, 55, 56, 57], sgn c = true := by decide
      exact this c hm
    refine ⟨by omega, word_loop its (w ++ [c]) hd' (b + 1) _ ?_ (by rw [List.length_append, List.length_singleton]; omega) hp' (by omega) fun w' hd2 x' a1 a2 a3 => k w' hd2 x' a1 (a2.le (by rw [List.length_cons]; omega)) (fr.trans a3)⟩
    cases w with
    | nil => cases hw
    | cons a r =>
      simp only [isW, List.cons_append, Bool.and_eq_true, decide_eq_true_eq, List.all_append, List.all_cons, List.all_nil, Bool.and_true, List.length_append, List.length_singleton] at hw ⊢
      rw [List.length_cons] at hl
      exact ⟨⟨hw.1.1, hw.1.2, hs⟩, by omega⟩
theorem word_ok {n : Nat} {hd : Hd} {p : Addr} {b : Int} {Q : EV → Hd → Prop} (h : PB hd p b) (hb : b ≤ 10000000000)
    (k : ∀ (w : Tx) (hd' : Hd), PB hd' p (b + 20) → Fr hd hd' p → isW w = true → Q (.v (.str w)) hd') : gam (M.tb K) M.pg (n + 2) 26 [.ref p] hd Q := by
  refine gam_at p26 rfl ?_
  unfold f26
  simp
  refine take_ok h (by omega) (by omega) (by omega) fun r hd1 h1 fr1 r0 r1 => ?_
  simp [oEq, shD, deq]
  cases e0 : r == 0 with
  | true =>
    refine take_ok h1 (by omega) (by omega) (by omega) fun i hd2 h2 fr2 i0 i1 => ?_
    obtain ⟨c, hc, hm⟩ := at_nat (xs := [97, 98, 120, 121, 116, 117, 118, 119]) i0 (by simpa using i1)
    simp [hc]
    refine ⟨_, Sub.refl _, k [c] hd2 (h2.le (by omega)) (fr1.trans fr2) ?_⟩
    have : ∀ c ∈ [97, 98, 120, 121, 116, 117, 118, 119], isW [c] = true := by decide
    exact this c hm
  | false =>
    cases e1 : r == 1 with
    | true =>
      refine take_ok h1 (by omega) (by omega) (by omega) fun i hd2 h2 fr2 i0 i1 => ?_
      obtain ⟨c, hc, hm⟩ := at_nat (xs := [D.str [110, 97, 109, 101, 115], D.str [107, 101, 101, 112], D.str [112, 97, 114, 116],
                D.str [101, 105, 116, 104, 101, 114], D.str [111, 114], D.str [108, 111, 111, 112], D.str [100, 111],
                D.str [101, 110, 100], D.str [120, 48], D.str [120, 49]]) i0 (by simpa using i1)
      simp [hc]
      simp only [List.mem_cons, List.not_mem_nil, or_false] at hm
      rcases hm with rfl | rfl | rfl | rfl | rfl | rfl | rfl | rfl | rfl | rfl <;> exact ⟨_, Sub.refl _, k _ hd2 (h2.le (by omega)) (fr1.trans fr2) (by decide)⟩
    | false =>
      refine take_ok h1 (by omega) (by omega) (by omega) fun i hd2 h2 fr2 i0 i1 => ?_
      obtain ⟨c, hc, hm⟩ := at_nat (xs := [97, 98, 99, 100, 101, 102, 103, 104, 105, 106, 107, 108, 109, 110, 111, 112, 113, 114, 115, 116, 117, 118, 119, 120, 121, 122]) i0 (by simpa using i1)
      simp [hc]
      refine take_ok h2 (by omega) (by omega) (by omega) fun j hd3 h3 fr3 j0 j1 => ?_
      simp
      have hw : isW [c] = true := by
        have : ∀ c ∈ [97, 98, 99, 100, 101, 102, 103, 104, 105, 106, 107, 108, 109, 110, 111, 112, 113, 114, 115, 116, 117, 118, 119, 120, 121, 122], isW [c] = true := by decide
        exact this c hm
      refine ⟨by omega, by omega, word_loop _ [c] hd3 (b + 1 + 1 + 1) _ hw (by rw [rng_len]; simp; omega) h3 (by rw [rng_len]; omega) fun w' hd4 x' a1 a2 a3 => ?_⟩
      simp
      rw [rng_len] at a2
      exact ⟨_, Sub.refl _, k w' hd4 (a2.le (by omega)) (((fr1.trans fr2).trans fr3).trans a3) a1⟩
end
end LK15
set_option Elab.async false
set_option linter.all false
set_option maxRecDepth 100000
set_option maxHeartbeats 4000000
namespace LK15
open PySem PySem.Spec PyProof.Rows L2 DL
section
variable {K : PySem.W.Frag}
theorem p27 : M.pg.fn 27 = some f27 := by kernel_rfl
def fresh60 : List Tx := (List.range 60).map fun k => 110 :: intT (k : Nat)
theorem fresh_w : (fresh60.all isW) = true := by decide +kernel
theorem fresh_nd : fresh60.Nodup := by decide +kernel
theorem fresh_len : ∀ j, j < 60 → (intT (j : Nat)).length ≤ 10 := by decide +kernel
theorem fresh_log : ∀ k, k < 60 → ((k : Nat) : Int).natAbs.log2 < 1920 := by
  intro k hk
  have : ((k : Nat) : Int).natAbs = k := Int.natAbs_natCast k
  rw [this]
  have : k.log2 ≤ k := Nat.log2_le_self k
  omega
theorem filt_len {α : Type} [BEq α] [LawfulBEq α] : ∀ (acc L : List α), L.Nodup → L.length ≤ acc.length + (L.filter fun x => !acc.contains x).length
  | [], L, _ => by
    have : (L.filter fun x => !([] : List α).contains x) = L := List.filter_eq_self.mpr fun _ _ => rfl
    rw [this]; exact Nat.le_add_left _ _
  | a :: acc, L, nd => by
    have h1 := filt_len acc (L.filter fun x => !(x == a)) (nd.filter _)
    have h2 : L.length ≤ 1 + (L.filter fun x => !(x == a)).length := by
      clear h1
      induction L with
      | nil => simp
      | cons y L ih =>
        have nd' := List.nodup_cons.mp nd
        by_cases e : y == a
        · have ey := eq_of_beq e
          subst ey
          have : L.filter (fun x => !(x == y)) = L := List.filter_eq_self.mpr fun x hx => by
            cases q : x == y with
            | false => rfl
            | true => exact absurd (eq_of_beq q ▸ hx) nd'.1
          rw [List.filter_cons_of_neg (by simp)]
          rw [this, List.length_cons]; omega
        · rw [List.filter_cons_of_pos (by simp [e]), List.length_cons, List.length_cons]
          have := ih nd'.2
          omega
    rw [List.filter_filter] at h1
    have e : (L.filter fun x => !(a :: acc).contains x) = L.filter fun x => (!acc.contains x) && !(x == a) := by
      congr 1
      funext x
      rw [List.contains_cons]
      cases x == a <;> cases acc.contains x <;> rfl
    rw [e, List.length_cons]
    omega
theorem filt_map {L : List Tx} {p : Tx → Bool} {q : D → Bool} (h : ∀ x, q (.str x) = p x) : (L.map D.str).filter q = (L.filter p).map D.str := by
  induction L with
  | nil => rfl
  | cons x L ih =>
    rw [List.map_cons]
    by_cases e : p x = true
    · rw [List.filter_cons_of_pos (by rw [h]; exact e), List.filter_cons_of_pos e, List.map_cons, ih]
    · rw [List.filter_cons_of_neg (by rw [h]; exact e), List.filter_cons_of_neg e, ih]
abbrev wsBody : ISs := match f27.body with
  | .cons _ (.cons (.for_ _ _ b) _) => b
  | _ => .nil
theorem words_loop {n : Nat} {p q : Addr} {E : DEn} {many : D} : ∀ (its : List D) (ws : List Tx) (hd : Hd) (b : Int) (y : List (Option D)), (∀ w ∈ ws, isW w = true) → ws.Nodup → ws.length + its.length ≤ 20 → q ≠ p → hd q = some (.lst (ws.map .str)) → PB hd p b → b + 20 * its.length ≤ 1000000000 → y.length = 4 →
    (∀ (ws' : List Tx) (hd' : Hd) (y' : List (Option D)), (∀ w ∈ ws', isW w = true) → ws'.Nodup → ws'.length = ws.length + its.length → hd' q = some (.lst (ws'.map .str)) → PB hd' p (b + 20 * its.length) → (∀ x, x ≠ p → x ≠ q → hd' x = hd x) → y'.length = 4 → E.nx ([some (.ref p), some many, some (.lst []), some (.ref q)] ++ y') hd') →
    loop (.nm 4) none E (wpSs (M.tb K) M.pg (gam (M.tb K) M.pg (n + 2)) wsBody) its ([some (.ref p), some many, some (.lst []), some (.ref q)] ++ y) hd
  | [], ws, hd, b, y, hw, nd, hl, hqp, hq, hp, hb, hy, k => ⟨trivial, k ws hd y hw nd (by simp) hq (by simpa using hp) (fun _ _ _ => rfl) hy⟩
  | i :: its, ws, hd, b, y, hw, nd, hl, hqp, hq, hp, hb, hy, k => by
    rw [List.length_cons] at hl hb
    match y, hy with
    | [y0, y1, y2, y3], _ =>
    refine ⟨trivial, ?_⟩
    simp [wsBody, f27]
    refine word_ok hp (by omega) fun w hd1 h1 fr1 ww => ?_
    have hq1 : hd1 q = some (.lst (ws.map .str)) := (fr1 q hqp).trans hq
    have v1 : view hd1 (.ref q) = .lst (ws.map .str) := by rw [v_ref, hq1]
    have step : ∀ (w : Tx) (y' : List (Option D)), y'.length = 4 → isW w = true → w ∉ ws → (isTg Tg.lst hd1 (.ref q) = true ∧ oAppend hd1 [.ref q, .str w] fun x hd1 =>
        loop (.nm 4) none E (wpSs (M.tb K) M.pg (gam (M.tb K) M.pg (n + 2)) wsBody) its ([some (.ref p), some many, some (.lst []), some (.ref q)] ++ y') hd1) := fun w y' hy' hw' hn => by
      refine ⟨tg_lst v1, ?_⟩
      rw [app_put hq1]
      have e : ws.map D.str ++ [.str w] = (ws ++ [w]).map .str := by simp
      rw [e]
      refine ⟨by simp; omega, words_loop its (ws ++ [w]) _ (b + 20) y' ?_ ?_ (by rw [List.length_append, List.length_singleton]; omega) hqp put_same ?_ (by omega) hy' fun ws' hd' y2 a1 a2 a3 a4 a5 a6 a7 => ?_⟩
      · intro x hx
        rcases List.mem_append.mp hx with hx | hx
        · exact hw x hx
        · rw [List.mem_singleton.mp hx]; exact hw'
      · rw [List.nodup_append]
        exact ⟨nd, by simp, fun a ha c hc e => hn (by rw [List.mem_singleton.mp hc] at e; rw [← e]; exact ha)⟩
      · obtain ⟨s, f, c, z0, z⟩ := h1
        exact ⟨s, f, c, (put_ne (Ne.symm hqp)).trans z0, z⟩
      · refine k ws' hd' y2 a1 a2 (by rw [a3, List.length_append, List.length_singleton, List.length_cons]; omega) a4 (a5.le (by rw [List.length_cons]; omega)) (fun x hx1 hx2 => (a6 x hx1 hx2).trans ((put_ne hx2).trans (fr1 x hx1))) a7
    have v0 : view hd1 (.lst []) = .lst (([] : List Tx).map D.str) := rfl
    simp [in_strs v1, in_strs v0]
    by_cases hin : w ∈ ws
    · simp [hin]
      refine ⟨by rw [rng_len]; decide, ?_⟩
      refine turns_map (gd := none) (hd := hd1) (fun x => .str (110 :: match x with | .int i => intT i | _ => [])) trivial (fun x hx K hK => ?_) ?_
      · unfold rngD at hx
        obtain ⟨j, hj, rfl⟩ := List.mem_map.mp hx
        have hj' := List.mem_range.mp hj
        have hl := fresh_log j hj'
        show oStrI hd1 [.int (0 + (j : Nat))] _
        rw [Int.zero_add]
        exact ⟨hl, by show oAdd hd1 [.str [110], .str (intT j)] _; rw [o_addS]; exact ⟨by have := fresh_len j hj'; simp; omega, by simpa using hK⟩⟩
      have e60 : ((rngD 0 60).map fun x => D.str (110 :: match x with | .int i => intT i | _ => [])) = fresh60.map .str := by
        unfold rngD fresh60
        rw [List.map_map, List.map_map]
        congr 1
        funext j
        simp
      rw [e60]
      show _ ∧ _
      refine ⟨by simp [fresh60], ?_⟩
      refine turns_filt (gd := none) (hd := hd1) (fun x => match x with | .str w => !ws.contains w | _ => false) id trivial _ [] (fun x hx K hK => ?_) ?_
      · obtain ⟨w', hw', rfl⟩ := List.mem_map.mp hx
        show oIn true hd1 [.str w', .ref q] _
        rw [in_strs v1]
        by_cases hc : w' ∈ ws
        · simpa [hc] using hK
        · simp [hc] at hK ⊢
          rw [in_strs v0]
          simpa [hc] using hK
      rw [List.nil_append, List.map_id, filt_map (p := fun w => !ws.contains w) (fun x => rfl)]
      have hlen := filt_len ws fresh60 fresh_nd
      have h60 : fresh60.length = 60 := by simp [fresh60]
      cases hL : fresh60.filter fun w => !ws.contains w with
      | nil => rw [hL] at hlen; simp at hlen; omega
      | cons w' L =>
        have hmem : w' ∈ fresh60.filter fun w => !ws.contains w := by rw [hL]; simp
        have hm2 := List.mem_filter.mp hmem
        simp [atI, ixN]
        exact step w' [some i, some (.str w'), some _, y3] rfl (List.all_eq_true.mp fresh_w _ hm2.1) (by simpa using hm2.2)
    · simp [hin]
      exact step w [some i, some (.str w), y2, y3] rfl ww hin
theorem words_ok {n : Nat} {hd : Hd} {p : Addr} {b : Int} {m : Int} {Q : EV → Hd → Prop} (h : PB hd p b) (hb : b ≤ 100000000) (hm : 0 ≤ m) (hm2 : m ≤ 20)
    (k : ∀ (ws : List Tx) (hd' : Hd), PB hd' p (b + 20 * m) → Fr hd hd' p → (∀ w ∈ ws, isW w = true) → ws.Nodup → (ws.length : Int) = m → Q (.nl (ws.map .str)) hd') : gam (M.tb K) M.pg (n + 3) 27 [.ref p, .int m, .lst []] hd Q := by
  refine gam_at p27 rfl ?_
  unfold f27
  simp
  refine fun q hq => ?_
  have hqp : q ≠ p := fun e => by obtain ⟨s, f, c, z0, z⟩ := h; rw [e, z0] at hq; cases hq
  refine ⟨by omega, by omega, ?_⟩
  refine words_loop (q := q) _ [] _ b [none, none, none, none] (by simp) List.nodup_nil (by rw [rng_len]; simp; omega) hqp put_same ?_ (by rw [rng_len]; omega) rfl fun ws hd' y a1 a2 a3 a4 a5 a6 a7 => ?_
  · obtain ⟨s, f, c, z0, z⟩ := h
    exact ⟨s, f, c, (put_ne (Ne.symm hqp)).trans z0, z⟩
  · match y, a7 with
    | [y0, y1, y2, y3], _ =>
    simp [rel_lst a4]
    rw [rng_len] at a3 a5
    refine ⟨_, Sub.refl _, k ws (del hd' q) ?_ (fun x hx => ?_) a1 a2 (by rw [a3]; simp; omega)⟩
    · obtain ⟨s, f, c, z0, z1, z2, z3, z4, z5⟩ := a5
      exact ⟨s, f, c, (del_ne (Ne.symm hqp)).trans z0, z1, z2, z3, z4, by omega⟩
    · by_cases e : x = q
      · rw [e, del_same, hq]
      · rw [del_ne e]
        exact (a6 x hx e).trans (put_ne e)
end
end LK15
set_option Elab.async false
set_option linter.all false
set_option maxRecDepth 100000
set_option maxHeartbeats 4000000
namespace LK15
open PySem PySem.Spec PyProof.Rows L2 DL
/-! ### blocks -/
mutual
inductive It where
  | read (l : Tx) | copy (l r : Tx) | call (l f : Tx) (as : List Tx) | doo (p : Tx) | lp (b : Bk) | ei (a b : Bk)
inductive Bk where
  | nil | cons (i : It) (r : Bk)
end
abbrev tRead : Tx := [114, 101, 97, 100]
abbrev tCopy : Tx := [99, 111, 112, 121]
abbrev tCallN : Tx := [99, 97, 108, 108]
abbrev tDo : Tx := [100, 111]
abbrev tLoop : Tx := [108, 111, 111, 112]
abbrev tEither : Tx := [101, 105, 116, 104, 101, 114]
mutual
def itD : It → D
  | .read l => .tup [.str tRead, .str l]
  | .copy l r => .tup [.str tCopy, .str l, .str r]
  | .call l f as => .tup [.str tCallN, .str l, .str f, .tup (as.map .str)]
  | .doo p => .tup [.str tDo, .str p]
  | .lp b => .tup [.str tLoop, .lst (bkL b)]
  | .ei a b => .tup [.str tEither, .lst (bkL a), .lst (bkL b)]
def bkL : Bk → List D
  | .nil => []
  | .cons i r => itD i :: bkL r
end
def Bk.snoc : Bk → It → Bk
  | .nil, i => .cons i .nil
  | .cons j r, i => .cons j (r.snoc i)
theorem bkL_snoc : ∀ (b : Bk) (i : It), bkL (b.snoc i) = bkL b ++ [itD i]
  | .nil, i => rfl
  | .cons j r, i => by simp only [Bk.snoc, bkL, bkL_snoc r i, List.cons_append]
structure Cfg where
  ls : List Tx
  cs : List (Tx × Nat)
mutual
def It.ok (c : Cfg) (ah : List Tx) : It → Prop
  | .read l => l ∈ c.ls
  | .copy l r => l ∈ c.ls ∧ r ∈ c.ls
  | .call l f as => l ∈ c.ls ∧ (f, as.length) ∈ c.cs ∧ ∀ a ∈ as, a ∈ c.ls
  | .doo p => p ∈ ah
  | .lp b => b.ok c ah
  | .ei a b => a.ok c ah ∧ b.ok c ah
def Bk.ok (c : Cfg) (ah : List Tx) : Bk → Prop
  | .nil => True
  | .cons i r => i.ok c ah ∧ r.ok c ah
end
mutual
def It.rows : It → Nat
  | .lp b => b.rows + 2
  | .ei a b => a.rows + b.rows + 3
  | _ => 1
def Bk.rows : Bk → Nat
  | .nil => 0
  | .cons i r => i.rows + r.rows
end
mutual
/-- nested at most d deep -/
def It.dep (d : Nat) : It → Prop
  | .lp b => 1 ≤ d ∧ b.dep (d - 1)
  | .ei a b => 1 ≤ d ∧ a.dep (d - 1) ∧ b.dep (d - 1)
  | _ => True
def Bk.dep (d : Nat) : Bk → Prop
  | .nil => True
  | .cons i r => i.dep d ∧ r.dep d
end
theorem snoc_ok {c : Cfg} {ah : List Tx} {i : It} (h : i.ok c ah) : ∀ {b : Bk}, b.ok c ah → (b.snoc i).ok c ah
  | .nil, _ => by unfold Bk.snoc Bk.ok; exact ⟨h, by unfold Bk.ok; trivial⟩
  | .cons j r, q => by unfold Bk.ok at q; unfold Bk.snoc Bk.ok; exact ⟨q.1, snoc_ok h q.2⟩
theorem snoc_rows {i : It} : ∀ {b : Bk}, (b.snoc i).rows = b.rows + i.rows
  | .nil => by simp [Bk.snoc, Bk.rows]
  | .cons j r => by simp only [Bk.snoc, Bk.rows]; rw [snoc_rows]; omega
theorem snoc_dep {d : Nat} {i : It} (h : i.dep d) : ∀ {b : Bk}, b.dep d → (b.snoc i).dep d
  | .nil, _ => by unfold Bk.snoc Bk.dep; exact ⟨h, by unfold Bk.dep; trivial⟩
  | .cons j r, q => by unfold Bk.dep at q; unfold Bk.snoc Bk.dep; exact ⟨q.1, snoc_dep h q.2⟩
def csD (cs : List (Tx × Nat)) : List D := cs.map fun p => .tup [.str p.1, .int p.2]
def It.asg : It → Prop
  | .read _ => True
  | .copy _ _ => True
  | .call _ _ _ => True
  | _ => False
section
variable {K : PySem.W.Frag}
theorem p28 : M.pg.fn 28 = some f28 := by kernel_rfl
theorem at_strs {ws : List Tx} {i : Int} (h : 0 ≤ i) (h2 : i < ws.length) : ∃ w ∈ ws, atI (ws.map D.str) i = some (.str w) := by
  obtain ⟨x, e, hm⟩ := at_nat (xs := ws.map D.str) h (by simpa using h2)
  obtain ⟨w, hw, rfl⟩ := List.mem_map.mp hm
  exact ⟨w, hw, e⟩
/-- letters[take(..)], so often -/
theorem args_turns {p : Addr} {ls : List Tx} {U : List D → Hd → Prop} {one : D → Hd → (Option D → Hd → Prop) → Prop}
    (ho : ∀ x hd (k : Option D → Hd → Prop) b, PB hd p b → b ≤ 100000000 → (∀ (w : Tx) (hd' : Hd), w ∈ ls → PB hd' p (b + 1) → Fr hd hd' p → k (some (.str w)) hd') → one x hd k) :
    ∀ (its : List D) (acc : List Tx) (hd : Hd) (b : Int), (∀ a ∈ acc, a ∈ ls) → PB hd p b → b + its.length ≤ 100000000 → (∀ (as : List Tx) (hd' : Hd), (∀ a ∈ as, a ∈ ls) → as.length = acc.length + its.length → PB hd' p (b + its.length) → Fr hd hd' p → U (as.map .str) hd') →
      turns one none its (acc.map .str) hd U
  | [], acc, hd, b, ha, hp, hb, k => ⟨trivial, k acc hd ha (by simp) (by simpa using hp) (Fr.refl _ _)⟩
  | i :: its, acc, hd, b, ha, hp, hb, k => by
    rw [List.length_cons] at hb
    refine ⟨trivial, ho i hd _ b hp (by omega) fun w hd' hw hp' fr => ?_⟩
    show turns one none its (acc.map .str ++ [.str w]) hd' U
    have e : acc.map D.str ++ [.str w] = (acc ++ [w]).map .str := by simp
    rw [e]
    refine args_turns ho its (acc ++ [w]) hd' (b + 1) ?_ hp' (by omega) fun as hd2 a1 a2 a3 a4 => k as hd2 a1 (by rw [a2]; simp; omega) (a3.le (by rw [List.length_cons]; omega)) (fr.trans a4)
    intro a h
    rcases List.mem_append.mp h with h | h
    · exact ha a h
    · rw [List.mem_singleton.mp h]; exact hw
end
end LK15
set_option Elab.async false
set_option linter.all false
set_option maxRecDepth 100000
set_option maxHeartbeats 4000000
namespace LK15
open PySem PySem.Spec PyProof.Rows L2 DL
section
variable {K : PySem.W.Frag}
theorem asg_ok {n : Nat} {hd : Hd} {p : Addr} {b : Int} {c : Cfg} {Q : EV → Hd → Prop} (h : PB hd p b) (hb : b ≤ 10000000) (hl : 1 ≤ c.ls.length) (hl2 : c.ls.length ≤ 1000) (hc : 1 ≤ c.cs.length) (hc2 : c.cs.length ≤ 1000) (hn : ∀ p ∈ c.cs, p.2 ≤ 3)
    (k : ∀ (i : It) (hd' : Hd), PB hd' p (b + 10) → Fr hd hd' p → i.asg → (∀ ah, i.ok c ah) → Q (.v (itD i)) hd') : gam (M.tb K) M.pg (n + 2) 28 [.ref p, .lst (c.ls.map .str), .lst (csD c.cs)] hd Q := by
  refine gam_at p28 rfl ?_
  unfold f28
  simp [oLen]
  refine take_ok h (by omega) (by omega) (by omega) fun r hd1 h1 fr1 r0 r1 => ?_
  obtain ⟨l, hlm, hle⟩ := at_strs (ws := c.ls) r0 r1
  simp [hle]
  refine take_ok h1 (by omega) (by omega) (by omega) fun s hd2 h2 fr2 s0 s1 => ?_
  simp [oEq, shD, deq]
  cases e0 : s == 0 with
  | true =>
    exact ⟨_, Sub.refl _, k (.read l) hd2 (h2.le (by omega)) (fr1.trans fr2) trivial fun ah => by unfold It.ok; exact hlm⟩
  | false =>
    cases e1 : decide (s < 3) with
    | true =>
      refine take_ok h2 (by omega) (by omega) (by omega) fun t hd3 h3 fr3 t0 t1 => ?_
      obtain ⟨r2, hr2, he2⟩ := at_strs (ws := c.ls) t0 t1
      simp [he2]
      exact ⟨_, Sub.refl _, k (.copy l r2) hd3 (h3.le (by omega)) ((fr1.trans fr2).trans fr3) trivial fun ah => by unfold It.ok; exact ⟨hlm, hr2⟩⟩
    | false =>
      simp [csD]
      refine take_ok h2 (by omega) (by omega) (by omega) fun t hd3 h3 fr3 t0 t1 => ?_
      obtain ⟨x, hx, hm⟩ := at_nat (xs := csD c.cs) t0 (by unfold csD; simpa using t1)
      unfold csD at hx hm
      obtain ⟨⟨f, a⟩, hfa, rfl⟩ := List.mem_map.mp hm
      have ha := hn _ hfa
      simp
      simp only [hx]
      simp [atI, ixN]
      refine ⟨by omega, by rw [rng_len]; omega, ?_⟩
      refine args_turns (p := p) (ls := c.ls) (fun x hd kk b hp hb kk2 => ?_) _ [] hd3 (b + 1 + 1 + 1) (by simp) h3 (by rw [rng_len]; omega) fun as hd4 a1 a2 a3 a4 => ?_
      · refine take_ok hp (by omega) (by omega) (by omega) fun z hd5 h5 fr5 z0 z1 => ?_
        obtain ⟨w, hw, hwe⟩ := at_strs (ws := c.ls) z0 z1
        simp [hwe]
        exact kk2 w hd5 hw h5 fr5
      · simp [oTupOf]
        rw [rng_len] at a2 a3
        exact ⟨_, Sub.refl _, k (.call l f as) hd4 (a3.le (by omega)) (((fr1.trans fr2).trans fr3).trans a4) trivial fun ah => by
          unfold It.ok
          refine ⟨hlm, ?_, a1⟩
          have : as.length = a := by rw [a2]; simp
          rw [this]; exact hfa⟩
end
end LK15
set_option Elab.async false
set_option linter.all false
set_option maxRecDepth 100000
set_option maxHeartbeats 4000000
namespace LK15
open PySem PySem.Spec PyProof.Rows L2 DL
section
variable {K : PySem.W.Frag}
theorem p29 : M.pg.fn 29 = some f29 := by kernel_rfl
/-- how often the purse is asked for a block d deep -/
def tkB : Nat → Int
  | 0 => 50
  | d + 1 => 10 * tkB d
theorem tkB_pos : ∀ d, 50 ≤ tkB d
  | 0 => by decide
  | d + 1 => by have := tkB_pos d; unfold tkB; omega
/-- what a block's making leaves: q, r tracked besides the purse -/
def Fr2 (hd hd' : Hd) (p r : Addr) : Prop := ∀ x, x ≠ p → x ≠ r → hd' x = hd x
def BlockOk (K : PySem.W.Frag) (c : Cfg) (n d : Nat) : Prop := ∀ (ah : List Tx) (hd : Hd) (p r : Addr) (b : Int) (R : Nat) (Q : EV → Hd → Prop), p ≠ r → PB hd p b → b + tkB d ≤ 10000000 → hd r = some (.lst [.int R]) → ah.length ≤ 1000 → R ≤ 1000 →
  (∀ (bk : Bk) (hd' : Hd) (R' : Nat), PB hd' p (b + tkB d) → Fr2 hd hd' p r → hd' r = some (.lst [.int R']) → bk.ok c ah → bk.dep d → bk.rows + R' ≤ R → Q (.nl (bkL bk)) hd') →
  gam (M.tb K) M.pg n 29 [.ref p, .lst (c.ls.map .str), .lst (csD c.cs), .lst (ah.map .str), .int d, .ref r] hd Q
def stB : Nat → Int
  | 0 => 11
  | d + 1 => 1 + 2 * tkB d
abbrev blBody : ISs := match f29.body with
  | .cons _ (.cons (.for_ _ _ b) _) => b
  | _ => .nil
theorem ne_nil {ah : List Tx} {hd : Hd} {Q : EV → Hd → Prop} : oEq true hd [.lst (ah.map .str), .lst []] Q = Q (.v (.bl (!ah.isEmpty))) hd := by
  unfold oEq
  have h1 : shD 60 (.lst (ah.map D.str)) = true := all_sh (n := 59)
  have h2 : shD 60 (.lst []) = true := rfl
  have h3 : deq (.lst (ah.map D.str)) (.lst []) = ah.isEmpty := by cases ah <;> rfl
  simp [h1, h2, h3]
theorem block_loop {n d : Nat} {c : Cfg} {ah : List Tx} {p r q : Addr} {E : DEn} (hrec : ∀ d', d = d' + 1 → BlockOk K c (n + 2) d') (hpr : p ≠ r) (hqp : q ≠ p) (hqr : q ≠ r) (hl : 1 ≤ c.ls.length) (hl2 : c.ls.length ≤ 1000) (hc : 1 ≤ c.cs.length) (hc2 : c.cs.length ≤ 1000) (hn : ∀ p ∈ c.cs, p.2 ≤ 3) (ha : ah.length ≤ 1000) :
    ∀ (its : List D) (bk : Bk) (hd : Hd) (b S : Int) (R : Nat) (y : List (Option D)), its.length ≤ 10 → (bkL bk).length + its.length ≤ 1000 → bk.ok c ah → bk.dep d → hd q = some (.lst (bkL bk)) → hd r = some (.lst [.int R]) → R ≤ 1000 → PB hd p b → stB d * its.length ≤ S → b + S ≤ 10000000 → y.length = 3 →
      (∀ (bk' : Bk) (hd' : Hd) (R' : Nat) (y' : List (Option D)), bk'.ok c ah → bk'.dep d → bk'.rows + R' ≤ bk.rows + R → hd' q = some (.lst (bkL bk')) → hd' r = some (.lst [.int R']) → PB hd' p (b + S) → (∀ x, x ≠ p → x ≠ r → x ≠ q → hd' x = hd x) → y'.length = 3 →
        E.nx ([some (.ref p), some (.lst (c.ls.map .str)), some (.lst (csD c.cs)), some (.lst (ah.map .str)), some (.int d), some (.ref r), some (.ref q)] ++ y') hd') →
      loop (.nm 7) none E (wpSs (M.tb K) M.pg (gam (M.tb K) M.pg (n + 2)) blBody) its ([some (.ref p), some (.lst (c.ls.map .str)), some (.lst (csD c.cs)), some (.lst (ah.map .str)), some (.int d), some (.ref r), some (.ref q)] ++ y) hd
  | [], bk, hd, b, S, R, y, _, _, ok, dp, hq, hr, hR, hp, hS, hb, hy, k => ⟨trivial, k bk hd R y ok dp (Nat.le_refl _) hq hr (hp.le (by simp at hS; omega)) (fun _ _ _ _ => rfl) hy⟩
  | i :: its, bk, hd, b, S, R, y, hi, hbl, ok, dp, hq, hr, hR, hp, hS, hb, hy, k => by
    match y, hy with
    | [y0, y1, y2], _ =>
    refine ⟨trivial, ?_⟩
    simp [-s_ife, blBody, f29]
    rw [List.length_cons] at hi hbl hS
    have hstp : 11 ≤ stB d := by
      cases d with
      | zero => decide
      | succ d => have := tkB_pos d; show 11 ≤ 1 + 2 * tkB d; omega
    have hnn : 0 ≤ stB d * its.length := Int.mul_nonneg (by omega) (by omega)
    have hS2 : stB d * its.length ≤ S - stB d := by
      have : stB d * ((its.length + 1 : Nat) : Int) = stB d * its.length + stB d := by
        rw [Int.natCast_add, Int.mul_add]; simp
      omega
    refine take_ok hp (by omega) (by omega) (by omega) fun w hd1 h1 fr1 w0 w1 => ?_
    simp [-s_ife]
    have hr1 : hd1 r = some (.lst [.int R]) := (fr1 r (Ne.symm hpr)).trans hr
    have hq1 : hd1 q = some (.lst (bkL bk)) := (fr1 q hqp).trans hq
    have vr : view hd1 (.ref r) = .lst [.int R] := by rw [v_ref, hr1]
    have tR : ∀ (ds : Slt) (m : Int) (U : Bool → Hd → Prop), ds[5]? = some (some (.ref r)) → wpT (M.tb K) M.pg (gam (M.tb K) M.pg (n + 2)) (.op .gt (.cons false (.op .idx (.cons false (.var 5) (.cons false (.lit (.int 0)) .nil))) (.cons false (.lit (.int m)) .nil))) ds hd1 U = U (decide (m < R)) hd1 := fun ds m U e => by
      simp [e, ix_lst vr, atI, ixN]
    have step : ∀ (it : It) (hd2 : Hd) (b2 : Int) (R2 : Nat) (y' : List (Option D)), it.ok c ah → it.dep d → it.rows + R2 ≤ R → hd2 q = some (.lst (bkL bk)) → hd2 r = some (.lst [.int R2]) → PB hd2 p b2 → b2 ≤ b + stB d → (∀ x, x ≠ p → x ≠ r → x ≠ q → hd2 x = hd x) → y'.length = 3 →
        (isTg Tg.lst hd2 (.ref q) = true ∧ oAppend hd2 [.ref q, itD it] fun x hd1 => loop (.nm 7) none E (wpSs (M.tb K) M.pg (gam (M.tb K) M.pg (n + 2)) blBody) its ([some (.ref p), some (.lst (c.ls.map .str)), some (.lst (csD c.cs)), some (.lst (ah.map .str)), some (.int d), some (.ref r), some (.ref q)] ++ y') hd1) := fun it hd2 b2 R2 y' i1 i2 i3 i4 i5 i6 i7 i8 i9 => by
      refine ⟨tg_lst (by rw [v_ref, i4]), ?_⟩
      rw [app_put i4, ← bkL_snoc]
      refine ⟨by omega, block_loop hrec hpr hqp hqr hl hl2 hc hc2 hn ha its (bk.snoc it) _ (b + stB d) (S - stB d) R2 y' (by omega) (by rw [bkL_snoc, List.length_append, List.length_singleton]; omega) (snoc_ok i1 ok) (snoc_dep i2 dp) put_same ((put_ne (Ne.symm hqr)).trans i5) (by omega) ?_ hS2 (by omega) i9 fun bk' hd' R' y2 a1 a2 a3 a4 a5 a6 a7 a8 => ?_⟩
      · obtain ⟨s, f, cc, z0, z⟩ := i6.le i7
        exact ⟨s, f, cc, (put_ne (Ne.symm hqp)).trans z0, z⟩
      · refine k bk' hd' R' y2 a1 a2 (by rw [snoc_rows] at a3; omega) a4 a5 (a6.le (by omega)) (fun x x1 x2 x3 => (a7 x x1 x2 x3).trans ((put_ne x3).trans (i8 x x1 x2 x3))) a8
    have PBr : ∀ {l : List D} {b2 : Int}, PB hd1 p b2 → PB (put hd1 r (.lst l)) p b2 := fun {l b2} ⟨s, f, cc, z0, z⟩ => ⟨s, f, cc, (put_ne hpr).trans z0, z⟩
    refine s_ife_of ((w == 8) && (decide (0 < d) && decide ((2 : Int) < R))) (t_and_pure (fun U => by simp [oeq_int]) (t_and_pure (fun U => by simp) (fun U => tR _ 2 U rfl))) (fun hx => ?_) (fun hx => ?_)
    · simp at hx
      obtain ⟨d', rfl⟩ : ∃ d', d = d' + 1 := ⟨d - 1, by omega⟩
      have hB := hrec d' rfl
      have hst : stB (d' + 1) = 1 + 2 * tkB d' := rfl
      have htk := tkB_pos d'
      simp [ix_lst vr, set_lst hr1, atI, ixN]
      have eR : ((R : Int) - 3) = ((R - 3 : Nat) : Int) := by omega
      rw [eR]
      refine ⟨rfl, rfl, ?_⟩
      refine hB ah _ p r (b + 1) (R - 3) _ hpr (PBr h1) (by omega) put_same ha (by omega) fun bi hd2 R2 h2 fr2 e3 io id ir => ?_
      have e2 : hd2 q = some (.lst (bkL bk)) := (fr2 q hqp hqr).trans ((put_ne hqr).trans hq1)
      refine ⟨tg_lst (xs := bkL bk) (by rw [v_ref, e2]), rfl, ?_⟩
      refine hB ah hd2 p r (b + 1 + tkB d') R2 _ hpr h2 (by omega) e3 ha (by omega) fun bj hd3 R3 h3 fr3 e5 jo jd jr => ?_
      have e4 : hd3 q = some (.lst (bkL bk)) := (fr3 q hqp hqr).trans e2
      exact (step (.ei bi bj) hd3 _ R3 [some i, some (.int w), _] (by unfold It.ok; exact ⟨io, jo⟩) (by unfold It.dep; exact ⟨by omega, id, jd⟩) (by unfold It.rows; omega) e4 e5 h3 (by omega) (fun x x1 x2 x3 => (fr3 x x1 x2).trans ((fr2 x x1 x2).trans ((put_ne x2).trans (fr1 x x1)))) rfl).2
    refine s_ife_of ((w == 7) && (decide (0 < d) && decide ((1 : Int) < R))) (t_and_pure (fun U => by simp [oeq_int]) (t_and_pure (fun U => by simp) (fun U => tR _ 1 U rfl))) (fun hx2 => ?_) (fun hx2 => ?_)
    · simp at hx2
      obtain ⟨d', rfl⟩ : ∃ d', d = d' + 1 := ⟨d - 1, by omega⟩
      have hB := hrec d' rfl
      have hst : stB (d' + 1) = 1 + 2 * tkB d' := rfl
      have hdd : (((d' + 1 : Nat) : Int) - 1) = (d' : Int) := by omega
      have htk := tkB_pos d'
      simp [ix_lst vr, set_lst hr1, atI, ixN]
      have eR : ((R : Int) - 2) = ((R - 2 : Nat) : Int) := by omega
      rw [eR]
      refine ⟨rfl, tg_lst (xs := bkL bk) (by rw [v_ref, put_ne hqr, hq1]), rfl, ?_⟩
      refine hB ah _ p r (b + 1) (R - 2) _ hpr (PBr h1) (by omega) put_same ha (by omega) fun bi hd2 R2 h2 fr2 e3 io id ir => ?_
      have e2 : hd2 q = some (.lst (bkL bk)) := (fr2 q hqp hqr).trans ((put_ne hqr).trans hq1)
      exact (step (.lp bi) hd2 _ R2 [some i, some (.int w), y2] (by unfold It.ok; exact io) (by unfold It.dep; exact ⟨by omega, id⟩) (by unfold It.rows; omega) e2 e3 h2 (by omega) (fun x x1 x2 x3 => (fr2 x x1 x2).trans ((put_ne x2).trans (fr1 x x1))) rfl).2
    refine s_ife_of ((decide (4 < w)) && (!ah.isEmpty && decide ((0 : Int) < R))) (t_and_pure (fun U => by simp) (t_and_pure (fun U => by simp [ne_nil]) (fun U => tR _ 0 U rfl))) (fun hx3 => ?_) (fun hx3 => ?_)
    · simp at hx3
      have hah : 1 ≤ ah.length := by
        cases ah with
        | nil => simp at hx3
        | cons a l => simp
      simp [ix_lst vr, set_lst hr1, atI, ixN]
      have eR : ((R : Int) - 1) = ((R - 1 : Nat) : Int) := by omega
      rw [eR]
      refine ⟨rfl, tg_lst (xs := bkL bk) (by rw [v_ref, put_ne hqr, hq1]), ?_⟩
      simp [oLen]
      refine take_ok (PBr h1) (by omega) (by omega) (by omega) fun t hd2 h2 fr2 t0 t1 => ?_
      obtain ⟨pn, hpm, hpe⟩ := at_strs (ws := ah) t0 t1
      simp only [d_v, ix_lit, hpe]
      have e2 : hd2 q = some (.lst (bkL bk)) := (fr2 q hqp).trans ((put_ne hqr).trans hq1)
      have e3 : hd2 r = some (.lst [.int ((R - 1 : Nat) : Int)]) := (fr2 r (Ne.symm hpr)).trans put_same
      have fin := (step (.doo pn) hd2 _ (R - 1) [some i, some (.int w), y2] (by unfold It.ok; exact hpm) (by unfold It.dep; trivial) (by unfold It.rows; omega) e2 e3 h2 (by omega) (fun x x1 x2 x3 => (fr2 x x1).trans ((put_ne x2).trans (fr1 x x1))) rfl).2
      exact fin
    refine s_ife_of (decide ((0 : Int) < R)) (fun U => tR _ 0 U rfl) (fun hx4 => ?_) (fun hx4 => ?_)
    · simp at hx4
      simp [ix_lst vr, set_lst hr1, atI, ixN]
      have eR : ((R : Int) - 1) = ((R - 1 : Nat) : Int) := by omega
      rw [eR]
      refine ⟨rfl, tg_lst (xs := bkL bk) (by rw [v_ref, put_ne hqr, hq1]), ?_⟩
      refine asg_ok (PBr h1) (by omega) hl hl2 hc hc2 hn fun it hd2 h2 fr2 ia io => ?_
      have e2 : hd2 q = some (.lst (bkL bk)) := (fr2 q hqp).trans ((put_ne hqr).trans hq1)
      have e3 : hd2 r = some (.lst [.int ((R - 1 : Nat) : Int)]) := (fr2 r (Ne.symm hpr)).trans put_same
      refine (step it hd2 _ (R - 1) [some i, some (.int w), y2] (io ah) ?_ ?_ e2 e3 h2 (by omega) (fun x x1 x2 x3 => (fr2 x x1).trans ((put_ne x2).trans (fr1 x x1))) rfl).2
      · cases it <;> first | (unfold It.dep; trivial) | cases ia
      · cases it <;> first | (unfold It.rows; omega) | cases ia
    · exact block_loop hrec hpr hqp hqr hl hl2 hc hc2 hn ha its bk hd1 (b + stB d) (S - stB d) R [some i, some (.int w), y2] (by omega) (by omega) ok dp hq1 hr1 hR (h1.le (by omega)) hS2 (by omega) rfl fun bk' hd' R' y' a1 a2 a3 a4 a5 a6 a7 a8 => k bk' hd' R' y' a1 a2 a3 a4 a5 (a6.le (by omega)) (fun x x1 x2 x3 => (a7 x x1 x2 x3).trans (fr1 x x1)) a8
theorem main {c : Cfg} {n d : Nat} (hl : 1 ≤ c.ls.length) (hl2 : c.ls.length ≤ 1000) (hc : 1 ≤ c.cs.length) (hc2 : c.cs.length ≤ 1000) (hn : ∀ p ∈ c.cs, p.2 ≤ 3) (hrec : ∀ d', d = d' + 1 → BlockOk K c (n + 2) d') : BlockOk K c (n + 3) d := by
  intro ah hd p r b R Q hpr hp hb hr ha hR k
  refine gam_at p29 rfl ?_
  unfold f29
  simp [-s_ife]
  refine fun q hq => ?_
  have hqp : q ≠ p := fun e => by obtain ⟨s, f, cc, z0, z⟩ := hp; rw [e, z0] at hq; cases hq
  have hqr : q ≠ r := fun e => by rw [e, hr] at hq; cases hq
  have hp2 : PB (put hd q (.lst [])) p b := by obtain ⟨s, f, cc, z0, z⟩ := hp; exact ⟨s, f, cc, (put_ne (Ne.symm hqp)).trans z0, z⟩
  have hst : 1 + 4 * stB d ≤ tkB d := by
    cases d with
    | zero => decide
    | succ d => have := tkB_pos d; show 1 + 4 * (1 + 2 * tkB d) ≤ 10 * tkB d; omega
  have hs0 : 0 ≤ stB d := by
    cases d with
    | zero => decide
    | succ d => have := tkB_pos d; show 0 ≤ 1 + 2 * tkB d; omega
  refine take_ok hp2 (by omega) (by omega) (by omega) fun m hd1 h1 fr1 m0 m1 => ?_
  simp [-s_ife]
  refine ⟨by omega, by omega, ?_⟩
  refine block_loop hrec hpr hqp hqr hl hl2 hc hc2 hn ha (rngD 0 m.toNat) .nil hd1 (b + 1) (4 * stB d) R [none, none, none] (by rw [rng_len]; omega) (by rw [rng_len]; simp [bkL]; omega) (by unfold Bk.ok; trivial) (by unfold Bk.dep; trivial) ((fr1 q hqp).trans put_same) ((fr1 r (Ne.symm hpr)).trans ((put_ne (Ne.symm hqr)).trans hr)) hR h1 ?_ (by omega) rfl fun bk' hd' R' y a1 a2 a3 a4 a5 a6 a7 a8 => ?_
  · rw [rng_len, Int.mul_comm]
    exact Int.mul_le_mul_of_nonneg_right (by omega) hs0
  · match y, a8 with
    | [y0, y1, y2], _ =>
    simp [rel_lst a4]
    refine ⟨_, Sub.refl _, k bk' (del hd' q) R' ?_ (fun x x1 x2 => ?_) ?_ a1 a2 (by simpa [Bk.rows] using a3)⟩
    · obtain ⟨s, f, cc, z0, z1, z2, z3, z4, z5⟩ := a6
      exact ⟨s, f, cc, (del_ne (Ne.symm hqp)).trans z0, z1, z2, z3, z4, by omega⟩
    · by_cases e : x = q
      · rw [e, del_same, hq]
      · rw [del_ne e]
        exact (a7 x x1 x2 e).trans ((fr1 x x1).trans (put_ne e))
    · exact (del_ne (Ne.symm hqr)).trans a5
theorem block_ok {c : Cfg} (hl : 1 ≤ c.ls.length) (hl2 : c.ls.length ≤ 1000) (hc : 1 ≤ c.cs.length) (hc2 : c.cs.length ≤ 1000) (hn : ∀ p ∈ c.cs, p.2 ≤ 3) (n : Nat) : ∀ d, BlockOk K c (n + d + 3) d := by
  intro d
  induction d with
  | zero =>
    intro ah hd p r b R Q hpr hp hb hr ha hR k
    exact main hl hl2 hc hc2 hn (n := n) (d := 0) (fun d' e => by omega) ah hd p r b R Q hpr hp hb hr ha hR k
  | succ d ih =>
    intro ah hd p r b R Q hpr hp hb hr ha hR k
    exact main hl hl2 hc hc2 hn (n := n + d + 1) (d := d + 1) (fun d' e => by obtain rfl : d' = d := by omega
                                                                              exact ih) ah hd p r b R Q hpr hp hb hr ha hR k
end
end LK15
set_option Elab.async false
set_option linter.all false
set_option maxRecDepth 100000
set_option maxHeartbeats 4000000
namespace LK15
open PySem PySem.Spec PyProof.Rows L2 DL
section
variable {K : PySem.W.Frag}
theorem p32 : M.pg.fn 32 = some f32 := by kernel_rfl
/-- the line of an assignment -/
def lineT : It → Tx
  | .read l => l ++ [32, 61, 32, 63]
  | .copy l r => l ++ [32, 61, 32] ++ r
  | .call l f as => l ++ [32, 61, 32] ++ f ++ [40] ++ joinT [44, 32] as ++ [41]
  | _ => []
/-- texts of at most 9 signs -/
def It.sm : It → Prop
  | .read l => l.length ≤ 9
  | .copy l r => l.length ≤ 9 ∧ r.length ≤ 9
  | .call l f as => l.length ≤ 9 ∧ f.length ≤ 9 ∧ as.length ≤ 3 ∧ ∀ a ∈ as, a.length ≤ 9
  | _ => True
theorem asStrs_map : ∀ xs : List Tx, asStrs (xs.map .str) = some xs
  | [] => rfl
  | x :: xs => by rw [List.map_cons]; unfold asStrs; rw [asStrs_map xs]; rfl
theorem oeq_str {hd : Hd} {x y : Tx} {neg : Bool} {Q : EV → Hd → Prop} : oEq neg hd [.str x, .str y] Q = Q (.v (.bl (xor neg (decide (x = y))))) hd := by
  unfold oEq
  simp [shD, deq]
theorem line_ok {n : Nat} {hd : Hd} {i : It} {Q : EV → Hd → Prop} (ha : i.asg) (hs : i.sm) (k : Q (.v (.str (lineT i))) hd) : gam (M.tb K) M.pg (n + 1) 32 [itD i] hd Q := by
  refine gam_at p32 rfl ?_
  unfold f32
  cases i with
  | read l =>
    simp [itD, atI, ixN, oeq_str]
    have : l.length ≤ 9 := hs
    exact ⟨by omega, _, Sub.refl _, k⟩
  | copy l r =>
    obtain ⟨h1, h2⟩ : l.length ≤ 9 ∧ r.length ≤ 9 := hs
    simp [itD, atI, ixN, oeq_str]
    exact ⟨by omega, by omega, _, Sub.refl _, by simpa [lineT] using k⟩
  | call l f as =>
    obtain ⟨h1, h2, h3, h4⟩ : l.length ≤ 9 ∧ f.length ≤ 9 ∧ as.length ≤ 3 ∧ ∀ a ∈ as, a.length ≤ 9 := hs
    simp [itD, atI, ixN, oeq_str, oJoin, asStrs_map, isTg]
    have hj := joinT_len (y := [44, 32]) as
    have hsum : (as.map List.length).sum ≤ 9 * as.length := by
      clear hj h3 k ha
      induction as with
      | nil => simp
      | cons a as ih =>
        have := ih (fun x hx => h4 x (by simp [hx]))
        have := h4 a (by simp)
        simp; omega
    have h2l : ([44, 32] : Tx).length = 2 := rfl
    rw [h2l] at hj
    exact ⟨by omega, by omega, by omega, by omega, by omega, by omega, _, Sub.refl _, by simpa [lineT] using k⟩
  | _ => cases ha
end
end LK15
set_option Elab.async false
set_option linter.all false
set_option maxRecDepth 100000
set_option maxHeartbeats 4000000
namespace LK15
open PySem PySem.Spec PyProof.Rows L2 DL
section
variable {K : PySem.W.Frag}
theorem p33 : M.pg.fn 33 = some f33 := by kernel_rfl
mutual
def itT : It → List Tx
  | .lp b => [tLoop] ++ bkT b ++ [[101, 110, 100]]
  | .ei a b => [tEither] ++ bkT a ++ [[111, 114]] ++ bkT b ++ [[101, 110, 100]]
  | .doo p => [[100, 111, 32] ++ p]
  | .read l => [lineT (.read l)]
  | .copy l r => [lineT (.copy l r)]
  | .call l f as => [lineT (.call l f as)]
def bkT : Bk → List Tx
  | .nil => []
  | .cons i r => itT i ++ bkT r
end
theorem bkT_cons {i : It} {r : Bk} : bkT (.cons i r) = itT i ++ bkT r := by rw [bkT]
mutual
theorem itT_len : ∀ i : It, (itT i).length = i.rows
  | .lp b => by unfold itT It.rows; simp [bkT_len b]
  | .ei a b => by unfold itT It.rows; simp [bkT_len a, bkT_len b]; omega
  | .doo p => by unfold itT It.rows; rfl
  | .read l => by unfold itT It.rows; rfl
  | .copy l r => by unfold itT It.rows; rfl
  | .call l f as => by unfold itT It.rows; rfl
theorem bkT_len : ∀ b : Bk, (bkT b).length = b.rows
  | .nil => rfl
  | .cons i r => by unfold bkT Bk.rows; rw [List.length_append, itT_len i, bkT_len r]
end
mutual
def It.sml : It → Prop
  | .lp b => b.sml
  | .ei a b => a.sml ∧ b.sml
  | .doo p => p.length ≤ 9
  | .read l => (It.read l).sm
  | .copy l r => (It.copy l r).sm
  | .call l f as => (It.call l f as).sm
def Bk.sml : Bk → Prop
  | .nil => True
  | .cons i r => i.sml ∧ r.sml
end
def LinesOk (K : PySem.W.Frag) (n d : Nat) : Prop := ∀ (bk : Bk) (hd : Hd) (x : D) (Q : EV → Hd → Prop), view hd x = .lst (bkL bk) → bk.dep d → bk.sml → bk.rows ≤ 1000 → Q (.nl ((bkT bk).map .str)) hd → gam (M.tb K) M.pg n 33 [x] hd Q
theorem oadd_lst {hd : Hd} {x y : D} {a b : List D} (h1 : view hd x = .lst a) (h2 : view hd y = .lst b) {Q : EV → Hd → Prop} : oAdd hd [x, y] Q = (a.length + b.length ≤ 16777216 ∧ Q (.nl (a ++ b)) hd) := by
  unfold oAdd; simp only [h1, h2]
abbrev lnBody : ISs := match f33.body with
  | .cons _ (.cons (.for_ _ _ b) _) => b
  | _ => .nil
theorem sub_none {a b : Hd} (h : Sub a b) {q : Addr} (n : b q = none) : a q = none := by
  cases e : a q with
  | none => rfl
  | some o => rw [h q o e] at n; cases n
theorem ln_body {n d : Nat} {x0 : D} {hd : Hd} {q : Addr} {acc : List Tx} {i : It} {E : DEn} (hrec : ∀ d', d = d' + 1 → LinesOk K (n + 1) d') (hq : hd q = some (.lst (acc.map .str))) (dp : i.dep d) (sm : i.sml) (hl : acc.length + i.rows ≤ 1000)
    (k1 : ∀ w, itT i = [w] → E.nx [some x0, some (.ref q), some (itD i)] (put hd q (.lst ((acc ++ [w]).map .str))))
    (k2 : ∀ q', hd q' = none → E.nx [some x0, some (.ref q'), some (itD i)] (put hd q' (.lst ((acc ++ itT i).map .str)))) :
    wpSs (M.tb K) M.pg (gam (M.tb K) M.pg (n + 1)) lnBody E [some x0, some (.ref q), some (itD i)] hd := by
  have vq : view hd (.ref q) = .lst (acc.map .str) := by rw [v_ref, hq]
  have app : ∀ w, itT i = [w] → (isTg Tg.lst hd (.ref q) = true ∧ oAppend hd [.ref q, .str w] fun _ hd2 => E.nx [some x0, some (.ref q), some (itD i)] hd2) := fun w hw => by
    have hir : i.rows = 1 := by rw [← itT_len, hw]; rfl
    refine ⟨tg_lst vq, ?_⟩
    rw [app_put hq]
    have e : acc.map D.str ++ [.str w] = (acc ++ [w]).map .str := by simp
    rw [e]
    exact ⟨by simp; omega, k1 w hw⟩
  cases i with
  | doo p =>
    have hp : p.length ≤ 9 := by unfold It.sml at sm; exact sm
    have := app _ (by rw [itT])
    simp [-s_ife, lnBody, f33, itD] at this ⊢
    simp [oeq_str, atI, ixN]
    exact ⟨this.1, by omega, this.2⟩
  | lp b =>
    unfold It.dep at dp
    unfold It.sml at sm
    unfold It.rows at hl
    obtain ⟨d', rfl⟩ : ∃ d', d = d' + 1 := ⟨d - 1, by omega⟩
    simp [-s_ife, lnBody, f33, itD]
    simp [oeq_str, atI, ixN]
    rw [oadd_lst vq rfl]
    refine ⟨by simp; omega, ?_⟩
    refine hrec d' rfl b _ _ _ rfl dp.2 sm (by omega) ?_
    have := bkT_len b
    simp [oadd_lst]
    exact ⟨by omega, by omega, fun p hp => by simpa [itT, itD] using k2 p hp⟩
  | ei a b =>
    unfold It.dep at dp
    unfold It.sml at sm
    unfold It.rows at hl
    obtain ⟨d', rfl⟩ : ∃ d', d = d' + 1 := ⟨d - 1, by omega⟩
    simp [-s_ife, lnBody, f33, itD]
    simp [oeq_str, atI, ixN]
    rw [oadd_lst vq rfl]
    refine ⟨by simp; omega, ?_⟩
    refine hrec d' rfl a _ _ _ rfl dp.2.1 sm.1 (by omega) ?_
    have := bkT_len a
    have := bkT_len b
    simp [oadd_lst]
    refine ⟨by omega, by omega, ?_⟩
    refine hrec d' rfl b _ _ _ rfl dp.2.2 sm.2 (by omega) ?_
    simp [oadd_lst]
    exact ⟨by omega, by omega, fun p hp => by simpa [itT, itD] using k2 p hp⟩
  | read l =>
    have := app _ (by rw [itT])
    simp [-s_ife, lnBody, f33, itD] at this ⊢
    simp [oeq_str, atI, ixN]
    refine ⟨this.1, ?_⟩
    refine line_ok (i := .read l) trivial ?_ this.2
    unfold It.sml at sm; exact sm
  | copy l r =>
    have := app _ (by rw [itT])
    simp [-s_ife, lnBody, f33, itD] at this ⊢
    simp [oeq_str, atI, ixN]
    refine ⟨this.1, ?_⟩
    refine line_ok (i := .copy l r) trivial ?_ this.2
    unfold It.sml at sm; exact sm
  | call l f as =>
    have := app _ (by rw [itT])
    simp [-s_ife, lnBody, f33, itD] at this ⊢
    simp [oeq_str, atI, ixN]
    refine ⟨this.1, ?_⟩
    refine line_ok (i := .call l f as) trivial ?_ this.2
    unfold It.sml at sm; exact sm
theorem lines_loop {n d : Nat} {E : DEn} {gd : Gd} {x0 : D} {hd : Hd} (hrec : ∀ d', d = d' + 1 → LinesOk K (n + 1) d') (hg : ∀ h, Sub hd h → gdOk gd h) :
    ∀ (r : Bk) (acc : List Tx) (hd1 : Hd) (q : Addr) (y : Option D), Sub hd hd1 → hd q = none → hd1 q = some (.lst (acc.map .str)) → r.dep d → r.sml → acc.length + r.rows ≤ 1000 →
      (∀ (q' : Addr) (hd2 : Hd) (y' : Option D), Sub hd hd2 → hd q' = none → hd2 q' = some (.lst ((acc ++ bkT r).map .str)) → E.nx [some x0, some (.ref q'), y'] hd2) →
      loop (.nm 2) gd E (wpSs (M.tb K) M.pg (gam (M.tb K) M.pg (n + 1)) lnBody) (bkL r) [some x0, some (.ref q), y] hd1
  | .nil, acc, hd1, q, y, sb, hq, hq1, dp, sm, hl, k => ⟨hg _ sb, k q hd1 y sb hq (by simpa [bkT] using hq1)⟩
  | .cons i r, acc, hd1, q, y, sb, hq, hq1, dp, sm, hl, k => by
    unfold Bk.dep at dp
    unfold Bk.sml at sm
    unfold Bk.rows at hl
    have il := itT_len i
    refine ⟨hg _ sb, ln_body hrec hq1 dp.1 sm.1 (by omega) (fun w hw => ?_) fun q' hq' => ?_⟩
    · have hir : i.rows = 1 := by rw [← il, hw]; rfl
      refine lines_loop hrec hg r (acc ++ [w]) _ q _ (fun a o z => ?_) hq put_same dp.2 sm.2 (by simp; omega) fun q' hd2 y' a1 a2 a3 => k q' hd2 y' a1 a2 ?_
      · have ne : a ≠ q := fun e => by rw [e, hq] at z; cases z
        rw [put_ne ne]; exact sb a o z
      · rw [a3, bkT_cons, hw]; simp
    · refine lines_loop hrec hg r (acc ++ itT i) _ q' _ (sb.put (sub_none sb hq')) (sub_none sb hq') put_same dp.2 sm.2 (by rw [List.length_append, il]; omega) fun q2 hd2 y' a1 a2 a3 => k q2 hd2 y' a1 a2 ?_
      rw [a3, bkT_cons]; simp
theorem lines_main {n d : Nat} (hrec : ∀ d', d = d' + 1 → LinesOk K (n + 1) d') : LinesOk K (n + 2) d := by
  intro bk hd x Q hx dp sm hl k
  refine gam_at p33 rfl ?_
  unfold f33
  simp [-s_ife]
  intro p hp
  have sb : Sub hd (put hd p (.lst [])) := (Sub.refl hd).put hp
  have vx : view (put hd p (.lst [])) x = .lst (bkL bk) := by
    cases x with
    | ref a =>
      rw [v_ref] at hx ⊢
      have : a ≠ p := fun e => by rw [e, hp] at hx; cases hx
      rw [put_ne this]; exact hx
    | _ => exact hx
  simp only [walkD, vx]
  refine lines_loop hrec (x0 := x) (hd := hd) (fun h sh => ?_) bk [] _ p none sb hp put_same dp sm (by simpa using hl) fun q' hd2 y' a1 a2 a3 => ?_
  · cases x with
    | ref a =>
      rw [v_ref] at hx
      show h a = _
      cases ha : hd a with
      | none => rw [ha] at hx; cases hx
      | some o =>
        rw [ha] at hx
        cases o with
        | lst xs => simp at hx; rw [hx] at ha; exact sh a _ ha
        | _ => cases hx
    | _ => trivial
  · simp [rel_lst a3]
    refine ⟨hd, ?_, by simpa using k⟩
    intro a o z
    by_cases e : a = q'
    · rw [e, a2] at z; cases z
    · rw [del_ne e]; exact a1 a o z
theorem lines_ok (n : Nat) : ∀ d, LinesOk K (n + d + 2) d := by
  intro d
  induction d with
  | zero =>
    intro bk hd x Q
    exact lines_main (n := n) (d := 0) (fun d' e => by omega) bk hd x Q
  | succ d ih =>
    intro bk hd x Q
    exact lines_main (n := n + d + 1) (d := d + 1) (fun d' e => by
      obtain rfl : d' = d := by omega
      exact ih) bk hd x Q
end
end LK15
set_option Elab.async false
set_option linter.all false
set_option maxRecDepth 100000
set_option maxHeartbeats 4000000
namespace LK15
open PySem PySem.Spec PyProof.Rows L2 DL
section
variable {K : PySem.W.Frag}
theorem p30 : M.pg.fn 30 = some f30 := by kernel_rfl
mutual
/-- the parts that are called -/
def itC : It → List Tx
  | .lp b => bkC b
  | .ei a b => bkC a ++ bkC b
  | .doo p => [p]
  | _ => []
def bkC : Bk → List Tx
  | .nil => []
  | .cons i r => itC i ++ bkC r
end
mutual
theorem itC_len : ∀ i : It, (itC i).length ≤ i.rows
  | .lp b => by have := bkC_len b; unfold itC It.rows; omega
  | .ei a b => by have := bkC_len b; have := bkC_len a; unfold itC It.rows; rw [List.length_append]; omega
  | .doo p => by unfold itC It.rows; simp
  | .read l => by unfold itC It.rows; simp
  | .copy l r => by unfold itC It.rows; simp
  | .call l f as => by unfold itC It.rows; simp
theorem bkC_len : ∀ b : Bk, (bkC b).length ≤ b.rows
  | .nil => Nat.le_refl _
  | .cons i r => by have := itC_len i; have := bkC_len r; unfold bkC Bk.rows; rw [List.length_append]; omega
end
def CalledOk (K : PySem.W.Frag) (n d : Nat) : Prop := ∀ (bk : Bk) (hd : Hd) (x : D) (Q : EV → Hd → Prop), view hd x = .lst (bkL bk) → bk.dep d → bk.rows ≤ 1000 → Q (.nl ((bkC bk).map .str)) hd → gam (M.tb K) M.pg n 30 [x] hd Q
abbrev cdBody : ISs := match f30.body with
  | .cons _ (.cons (.for_ _ _ b) _) => b
  | _ => .nil
theorem isin_at {hd : Hd} {x : D} {t u : TyT} {b : Bool} {Q : EV → Hd → Prop} (ht : tagD (view hd x) = some t) (hk : (M.tb K).kc t u = some b) : oIsIn (M.tb K) u hd [x] Q = Q (.v (.bl b)) hd := by
  unfold oIsIn
  simp only [ht, hk]
abbrev cdIn : ISs := match cdBody with
  | .cons _ (.cons (.for_ _ _ b) _) => b
  | _ => .nil
theorem cd_no {n : Nat} {E : DEn} {ds : Slt} {x : D} {hd : Hd} {t : TyT} (hx : ds[3]? = some (some x)) (ht : tagD (view hd x) = some t) (hk : (M.tb K).kc t .lst = some false) (k : E.nx ds hd) : wpSs (M.tb K) M.pg (gam (M.tb K) M.pg n) cdIn E ds hd := by
  simp [cdIn, cdBody, f30, hx]
  rw [isin_at ht hk]
  simpa using k
theorem cd_yes {n d : Nat} {E : DEn} {q : Addr} {x0 x2 : D} {b : Bk} {hd : Hd} {acc : List Tx} (hrec : CalledOk K n d) (hq : hd q = some (.lst (acc.map .str))) (dp : b.dep d) (hl : acc.length + b.rows ≤ 1000)
    (k : ∀ q', hd q' = none → E.nx [some x0, some (.ref q'), some x2, some (.lst (bkL b))] (put hd q' (.lst ((acc ++ bkC b).map .str)))) :
    wpSs (M.tb K) M.pg (gam (M.tb K) M.pg n) cdIn E [some x0, some (.ref q), some x2, some (.lst (bkL b))] hd := by
  simp [cdIn, cdBody, f30]
  rw [isin_at (x := .lst (bkL b)) (t := .lst) (b := true) rfl rfl]
  simp
  refine hrec b hd _ _ rfl dp (by omega) ?_
  have vq : view hd (.ref q) = .lst (acc.map .str) := by rw [v_ref, hq]
  have := bkC_len b
  rw [d_nl, oadd_lst (y := .lst ((bkC b).map .str)) vq rfl]
  simp
  exact ⟨by omega, fun p hp => by simpa using k p hp⟩
theorem cd_body {n d : Nat} {x0 : D} {hd : Hd} {q : Addr} {acc : List Tx} {i : It} {y : Option D} {E : DEn} (hrec : ∀ d', d = d' + 1 → CalledOk K (n + 1) d') (hq : hd q = some (.lst (acc.map .str))) (dp : i.dep d) (hl : acc.length + i.rows ≤ 1000)
    (k : ∀ y' q' hd', (∀ a, a ≠ q → hd a ≠ none → hd' a = hd a) → (q' = q ∨ hd q' = none) → hd' q' = some (.lst ((acc ++ itC i).map .str)) → E.nx [some x0, some (.ref q'), some (itD i), y'] hd') :
    wpSs (M.tb K) M.pg (gam (M.tb K) M.pg (n + 1)) cdBody E [some x0, some (.ref q), some (itD i), y] hd := by
  have vq : view hd (.ref q) = .lst (acc.map .str) := by rw [v_ref, hq]
  cases i with
  | doo p =>
    simp [-s_ife, cdBody, f30, itD]
    simp [oeq_str, atI, ixN]
    refine ⟨tg_lst vq, ?_⟩
    rw [app_put hq]
    unfold It.rows at hl
    simp [oSl, asI, oCut, DL.cutD, HT.sIx, walkD]
    refine ⟨by omega, trivial, cd_no (x := .str p) (t := .str) rfl rfl rfl ?_⟩
    refine ⟨trivial, ?_⟩
    exact k _ q _ (fun a h1 h2 => put_ne h1) (.inl rfl) (by rw [put_same]; simp [itC])
  | lp b =>
    unfold It.dep at dp
    unfold It.rows at hl
    obtain ⟨d', rfl⟩ : ∃ d', d = d' + 1 := ⟨d - 1, by omega⟩
    simp [-s_ife, cdBody, f30, itD]
    simp [oeq_str, atI, ixN]
    simp [oSl, asI, oCut, DL.cutD, HT.sIx, walkD]
    refine ⟨trivial, cd_yes (hrec d' rfl) hq dp.2 (by omega) fun q' hq' => ⟨trivial, ?_⟩⟩
    exact k _ q' _ (fun a h1 h2 => put_ne fun e => h2 (by rw [e, hq'])) (.inr hq') (by rw [put_same]; simp [itC])
  | ei a b =>
    unfold It.dep at dp
    unfold It.rows at hl
    obtain ⟨d', rfl⟩ : ∃ d', d = d' + 1 := ⟨d - 1, by omega⟩
    simp [-s_ife, cdBody, f30, itD]
    simp [oeq_str, atI, ixN]
    simp [oSl, asI, oCut, DL.cutD, HT.sIx, walkD]
    refine ⟨trivial, cd_yes (hrec d' rfl) hq dp.2.1 (by omega) fun q1 hq1 => ⟨trivial, ?_⟩⟩
    have := bkC_len a
    refine cd_yes (hrec d' rfl) put_same dp.2.2 (by simp; omega) fun q2 hq2 => ⟨trivial, ?_⟩
    have hn : q2 ≠ q1 := fun e => by rw [e, put_same] at hq2; cases hq2
    have hq2' : hd q2 = none := by rw [put_ne hn] at hq2; exact hq2
    exact k _ q2 _ (fun a h1 h2 => by
      rw [put_ne fun e => h2 (by rw [e, hq2']), put_ne fun e => h2 (by rw [e, hq1])]) (.inr hq2') (by rw [put_same]; simp [itC])
  | read l =>
    simp [-s_ife, cdBody, f30, itD]
    simp [oeq_str, atI, ixN]
    simp [oSl, asI, oCut, DL.cutD, HT.sIx, walkD]
    refine ⟨trivial, cd_no (x := .str l) (t := .str) rfl rfl rfl ⟨trivial, ?_⟩⟩
    exact k _ q _ (fun a h1 h2 => rfl) (.inl rfl) (by rw [hq]; simp [itC])
  | copy l r =>
    simp [-s_ife, cdBody, f30, itD]
    simp [oeq_str, atI, ixN]
    simp [oSl, asI, oCut, DL.cutD, HT.sIx, walkD]
    refine ⟨trivial, cd_no (x := .str l) (t := .str) rfl rfl rfl ⟨trivial, cd_no (x := .str r) (t := .str) rfl rfl rfl ⟨trivial, ?_⟩⟩⟩
    exact k _ q _ (fun a h1 h2 => rfl) (.inl rfl) (by rw [hq]; simp [itC])
  | call l f as =>
    simp [-s_ife, cdBody, f30, itD]
    simp [oeq_str, atI, ixN]
    simp [oSl, asI, oCut, DL.cutD, HT.sIx, walkD]
    refine ⟨trivial, cd_no (x := .str l) (t := .str) rfl rfl rfl ⟨trivial, cd_no (x := .str f) (t := .str) rfl rfl rfl ⟨trivial, cd_no (x := .tup (as.map .str)) (t := .tup) rfl rfl rfl ⟨trivial, ?_⟩⟩⟩⟩
    exact k _ q _ (fun a h1 h2 => rfl) (.inl rfl) (by rw [hq]; simp [itC])
theorem view_none {hd h2 : Hd} {x : D} {l : D} (hl : ∀ p, l ≠ .ref p) (hx : view hd x = l) (sb : Sub hd h2) : view h2 x = l := by
  cases x with
  | ref a =>
    rw [v_ref] at hx ⊢
    cases ha : hd a with
    | none => rw [ha] at hx; exact absurd hx.symm (hl a)
    | some o => rw [ha] at hx; rw [sb a o ha]; exact hx
  | _ => exact hx
theorem gd_of {hd h : Hd} {x : D} {xs : List D} (hx : view hd x = .lst xs) (sh : Sub hd h) : gdOk (gdOf x xs) h := by
  cases x with
  | ref a =>
    rw [v_ref] at hx
    show h a = _
    cases ha : hd a with
    | none => rw [ha] at hx; cases hx
    | some o =>
      rw [ha] at hx
      cases o with
      | lst xs => simp at hx; rw [hx] at ha; exact sh a _ ha
      | _ => cases hx
  | _ => trivial
theorem walk_lst {hd : Hd} {x : D} {xs : List D} {Q : List D → Gd → Prop} (hx : view hd x = .lst xs) : walkD hd x Q = Q xs (gdOf x xs) := by
  unfold walkD; rw [hx]
theorem cd_loop {n d : Nat} {E : DEn} {gd : Gd} {x0 : D} {hd : Hd} (hrec : ∀ d', d = d' + 1 → CalledOk K (n + 1) d') (hg : ∀ h, Sub hd h → gdOk gd h) :
    ∀ (r : Bk) (acc : List Tx) (hd1 : Hd) (q : Addr) (y y2 : Option D), Sub hd hd1 → hd q = none → hd1 q = some (.lst (acc.map .str)) → r.dep d → acc.length + r.rows ≤ 1000 →
      (∀ (q' : Addr) (hd2 : Hd) (y' y2' : Option D), Sub hd hd2 → hd q' = none → hd2 q' = some (.lst ((acc ++ bkC r).map .str)) → E.nx [some x0, some (.ref q'), y', y2'] hd2) →
      loop (.nm 2) gd E (wpSs (M.tb K) M.pg (gam (M.tb K) M.pg (n + 1)) cdBody) (bkL r) [some x0, some (.ref q), y, y2] hd1
  | .nil, acc, hd1, q, y, y2, sb, hq, hq1, dp, hl, k => ⟨hg _ sb, k q hd1 y y2 sb hq (by simpa [bkC] using hq1)⟩
  | .cons i r, acc, hd1, q, y, y2, sb, hq, hq1, dp, hl, k => by
    unfold Bk.dep at dp
    unfold Bk.rows at hl
    have il := itC_len i
    refine ⟨hg _ sb, cd_body hrec hq1 dp.1 (by omega) fun y' q' hd2 fr hn hq2 => ?_⟩
    have hq' : hd q' = none := by
      rcases hn with e | e
      · rw [e, hq]
      · exact sub_none sb e
    refine cd_loop hrec hg r (acc ++ itC i) hd2 q' _ _ (fun a o z => ?_) hq' hq2 dp.2 (by rw [List.length_append]; omega) fun q3 hd3 y3 y4 a1 a2 a3 => k q3 hd3 y3 y4 a1 a2 ?_
    · have e1 : a ≠ q := fun e => by rw [e, hq] at z; cases z
      have e2 := sb a o z
      rw [fr a e1 (by rw [e2]; simp)]; exact e2
    · rw [a3, bkC, List.append_assoc]
theorem called_main {n d : Nat} (hrec : ∀ d', d = d' + 1 → CalledOk K (n + 1) d') : CalledOk K (n + 2) d := by
  intro bk hd x Q hx dp hl k
  refine gam_at p30 rfl ?_
  unfold f30
  simp [-s_ife, -s_for]
  intro p hp
  have sb : Sub hd (put hd p (.lst [])) := (Sub.refl hd).put hp
  have vx := view_none (fun _ => by simp) hx sb
  simp only [s_for, i_val, e_var]
  simp [walk_lst vx]
  refine cd_loop hrec (x0 := x) (hd := hd) (fun h sh => gd_of hx sh) bk [] _ p none none sb hp put_same dp (by simpa using hl) fun q' hd2 y' y2' a1 a2 a3 => ?_
  simp [rel_lst a3]
  refine ⟨hd, ?_, by simpa using k⟩
  intro a o z
  by_cases e : a = q'
  · rw [e, a2] at z; cases z
  · rw [del_ne e]; exact a1 a o z
theorem called_ok (n : Nat) : ∀ d, CalledOk K (n + d + 2) d := by
  intro d
  induction d with
  | zero =>
    intro bk hd x Q
    exact called_main (n := n) (d := 0) (fun d' e => by omega) bk hd x Q
  | succ d ih =>
    intro bk hd x Q
    exact called_main (n := n + d + 1) (d := d + 1) (fun d' e => by
      obtain rfl : d' = d := by omega
      exact ih) bk hd x Q
end
end LK15
set_option Elab.async false
set_option linter.all false
set_option maxRecDepth 100000
set_option maxHeartbeats 2000000
/-! texts: cut, split, join -/
namespace DL
theorem pfx_self : ∀ (y b : Tx), pfx y (y ++ b) = true
  | [], b => by cases b <;> rfl
  | a :: y, b => by simp [pfx, pfx_self y b]
theorem pfx_ne {c d : Nat} {y r : Tx} (h : c ≠ d) : pfx (c :: y) (d :: r) = false := by
  unfold pfx; simp [h]
/-- the mark's first sign stands not ahead of it -/
theorem cut_hd {c : Nat} {y b : Tx} : ∀ {a : Tx}, c ∉ a → cutT (c :: y) (a ++ (c :: y) ++ b) = some (a, b)
  | [], h => by
    have e : ([] : Tx) ++ (c :: y) ++ b = c :: (y ++ b) := rfl
    rw [e]
    unfold cutT
    have : pfx (c :: y) (c :: (y ++ b)) = true := pfx_self (c :: y) b
    rw [if_pos this]
    have : (c :: (y ++ b)).drop (c :: y).length = b := by
      show (y ++ b).drop y.length = b
      simp
    rw [this]
  | d :: a, h => by
    have hd : c ≠ d := fun e => h (by simp [e])
    have e : (d :: a) ++ (c :: y) ++ b = d :: (a ++ (c :: y) ++ b) := rfl
    rw [e]
    unfold cutT
    rw [pfx_ne hd, if_neg (by simp), cut_hd (a := a) (fun z => h (by simp [z]))]
    rfl
theorem cut_no {c : Nat} {y : Tx} : ∀ {x : Tx}, c ∉ x → cutT (c :: y) x = none
  | [], h => by unfold cutT; simp [pfx]
  | d :: x, h => by
    have hd : c ≠ d := fun e => h (by simp [e])
    unfold cutT
    rw [pfx_ne hd, if_neg (by simp), cut_no (x := x) (fun z => h (by simp [z]))]
    rfl
theorem part_hd {c : Nat} {y a b : Tx} (h : c ∉ a) : partT (c :: y) (a ++ (c :: y) ++ b) = (a, c :: y, b) := by
  unfold partT; rw [cut_hd h]
theorem cut_lenx {y : Tx} : ∀ {x : Tx} {p : Tx × Tx}, cutT y x = some p → x.length = p.1.length + y.length + p.2.length
  | [], p, h => by
    unfold cutT at h
    by_cases e : pfx y [] = true
    · rw [if_pos e] at h
      cases h
      cases y with
      | nil => rfl
      | cons => simp [pfx] at e
    · rw [if_neg e] at h; cases h
  | c :: x, p, h => by
    unfold cutT at h
    by_cases e : pfx y (c :: x) = true
    · rw [if_pos e] at h
      cases h
      have h1 := pfx_iff.mp e
      have h2 : y.length ≤ (c :: x).length := by
        have := congrArg List.length h1
        rw [List.length_take] at this
        omega
      rw [List.length_drop]
      simp only [List.length_nil]
      omega
    · rw [if_neg e] at h
      cases q : cutT y x with
      | none => rw [q] at h; cases h
      | some r =>
        rw [q] at h
        cases h
        have := cut_lenx q
        simp only [List.length_cons]
        omega
/-- enough turns -/
theorem splitN_more {y : Tx} (hy : 1 ≤ y.length) : ∀ (n m : Nat) {x : Tx}, x.length < n → x.length < m → splitN y n x = splitN y m x
  | 0, _, x, h, _ => by omega
  | n + 1, 0, x, _, h => by omega
  | n + 1, m + 1, x, h, h' => by
    unfold splitN
    cases e : cutT y x with
    | none => rfl
    | some p =>
      have := cut_lenx e
      simp only
      rw [splitN_more hy n m (x := p.2) (by omega) (by omega)]
theorem split_cons {c : Nat} {y a b : Tx} (h : c ∉ a) : splitT (c :: y) (a ++ (c :: y) ++ b) = a :: splitT (c :: y) b := by
  unfold splitT
  show splitN (c :: y) _ _ = _
  conv => lhs; unfold splitN
  rw [cut_hd h]
  simp only
  rw [splitN_more (by simp) _ (b.length + 1) (by simp; omega) (by omega)]
theorem split_one {c : Nat} {y a : Tx} (h : c ∉ a) : splitT (c :: y) a = [a] := by
  unfold splitT splitN
  rw [cut_no h]
theorem split_len1 {y x : Tx} : 1 ≤ (splitT y x).length := by
  unfold splitT splitN
  cases cutT y x <;> simp
theorem split_join {c : Nat} {y : Tx} : ∀ {xs : List Tx}, xs ≠ [] → (∀ x ∈ xs, c ∉ x) → splitT (c :: y) (joinT (c :: y) xs) = xs
  | [], h, _ => absurd rfl h
  | [x], _, h => split_one (h x (by simp))
  | x :: z :: r, _, h => by
    show splitT (c :: y) (x ++ (c :: y) ++ joinT (c :: y) (z :: r)) = _
    rw [split_cons (h x (by simp)), split_join (by simp) (fun w hw => h w (by simp at hw ⊢; exact .inr hw))]
end DL
set_option Elab.async false
set_option linter.all false
set_option maxRecDepth 100000
set_option maxHeartbeats 4000000
namespace DL
open PySem PySem.Spec PyProof.Rows L2
section
variable {T : Tb} {P : Pg} {G : Gam} {ds : Slt} {hd : Hd} {R : Bool → Hd → Prop} {Q : EV → Hd → Prop}
@[simp] theorem t_chain {o o2 : Op} {a b c : IE} : wpT T P G (.chain o o2 a b c) ds hd R = wpE T P G a ds hd fun x hd1 => wpE T P G b ds hd1 fun y hd2 => dop T o hd2 [x.d, y.d] fun z hd3 => match z with
    | .v (.bl true) => wpE T P G c ds hd3 fun w hd4 => dop T o2 hd4 [y.d, w.d] fun ev hd5 => match ev with
      | .v (.bl b) => R b hd5
      | _ => False
    | .v (.bl false) => R false hd3
    | _ => False := propext Iff.rfl
@[simp] theorem o_lenS {x : Tx} : oLen hd [.str x] Q = Q (.v (.int x.length)) hd := propext Iff.rfl
@[simp] theorem o_lenL {x : List D} : oLen hd [.lst x] Q = Q (.v (.int x.length)) hd := propext Iff.rfl
@[simp] theorem o_lenT {x : List D} : oLen hd [.tup x] Q = Q (.v (.int x.length)) hd := propext Iff.rfl
@[simp] theorem o_lenD {x : List (DK × D)} : oLen hd [.dic x] Q = Q (.v (.int x.length)) hd := propext Iff.rfl
theorem o_inS {a b : Tx} {neg : Bool} : oIn neg hd [.str a, .str b] Q = Q (.v (.bl (xor neg (cutT a b).isSome))) hd := propext Iff.rfl
theorem cut_sgn {c : Nat} : ∀ {b : Tx}, (cutT [c] b).isSome = b.contains c
  | [] => by simp [cutT, pfx]
  | d :: b => by
    unfold cutT
    by_cases h : c = d
    · subst h; simp [pfx]
    · simp [pfx, h, cut_sgn (b := b), List.contains_cons]
end
end DL
namespace LK15
open PySem PySem.Spec PyProof.Rows L2 DL
section
variable {K : PySem.W.Frag}
def abc : Tx := [97, 98, 99, 100, 101, 102, 103, 104, 105, 106, 107, 108, 109, 110, 111, 112, 113, 114, 115, 116, 117, 118, 119, 120, 121, 122]
def digs : Tx := [48, 49, 50, 51, 52, 53, 54, 55, 56, 57]
def ltr (c : Nat) : Bool := decide (97 ≤ c) && decide (c ≤ 122)
def dgt (c : Nat) : Bool := decide (48 ≤ c) && decide (c ≤ 57)
theorem abc_in {c : Nat} : (cutT [c] abc).isSome = ltr c := by
  rw [cut_sgn, Bool.eq_iff_iff]; simp [abc, ltr]; omega
theorem digs_in {c : Nat} : (cutT [c] digs).isSome = dgt c := by
  rw [cut_sgn, Bool.eq_iff_iff]; simp [digs, dgt]; omega
theorem sgn_eq {c : Nat} : sgn c = (ltr c || dgt c) := rfl
/-- a word of at most m signs -/
def isLw (m : Int) (w : Tx) : Bool := match w with
  | [] => false
  | c :: r => decide (((c :: r).length : Int) ≤ m) && ltr c && (c :: r).all sgn
theorem isLw_c {m : Int} {c : Nat} {r : Tx} : isLw m (c :: r) = (decide (((c :: r).length : Int) ≤ m) && ltr c && (c :: r).all sgn) := rfl
theorem isW_c {c : Nat} {r : Tx} : isW (c :: r) = (ltr c && r.all sgn && decide (r.length ≤ 8)) := rfl
theorem isLw_W {w : Tx} : isLw 9 w = isW w := by
  cases w with
  | nil => rfl
  | cons c r =>
    have e : (decide (((c :: r).length : Int) ≤ 9)) = decide (r.length ≤ 8) := by
      rw [decide_eq_decide, List.length_cons]; omega
    rw [isLw_c, isW_c, e, List.all_cons]
    cases h : ltr c with
    | false => simp
    | true =>
      have : sgn c = true := by rw [sgn_eq, h]; rfl
      rw [this]
      cases decide (r.length ≤ 8) <;> cases r.all sgn <;> rfl
theorem p0 : M.pg.fn 0 = some f0 := by kernel_rfl
theorem p1 : M.pg.fn 1 = some f1 := by kernel_rfl
theorem p2 : M.pg.fn 2 = some f2 := by kernel_rfl
theorem g0 : M.pg.gl 0 = some (.str abc) := by kernel_rfl
theorem g1 : M.pg.gl 1 = some (.str digs) := by kernel_rfl
theorem g2 : M.pg.gl 2 = some (.int 9) := by kernel_rfl
theorem g3 : M.pg.gl 3 = some (.int 3) := by kernel_rfl
theorem g4 : M.pg.gl 4 = some (.tup [.str [101, 105, 116, 104, 101, 114], .str [111, 114], .str [101, 110, 100], .str [108, 111, 111, 112]]) := by kernel_rfl
theorem g5 : M.pg.gl 5 = some (.int 3) := by kernel_rfl
theorem g6 : M.pg.gl 6 = some (.int 4) := by kernel_rfl
theorem g7 : M.pg.gl 7 = some (.int 6) := by kernel_rfl
theorem g8 : M.pg.gl 8 = some (.int 80) := by kernel_rfl
theorem g9 : M.pg.gl 9 = some (.int 16) := by kernel_rfl
theorem int_ok {n : Nat} {hd : Hd} {i : Int} {Q : EV → Hd → Prop} (k : Q (.v (.bl true)) hd) : gam (M.tb K) M.pg (n + 1) 0 [.int i] hd Q := by
  refine gam_at p0 rfl ?_
  unfold f0
  simp
  rw [isin_at (t := .int) (b := true) rfl rfl]
  simp
  rw [isin_at (t := .int) (b := false) rfl rfl]
  simp
  exact ⟨hd, Sub.refl _, k⟩
theorem asBls_map : ∀ {bs : List Bool}, asBls (bs.map .bl) = some bs
  | [] => rfl
  | b :: bs => by rw [List.map_cons]; unfold asBls; rw [asBls_map]; rfl
theorem all_bls {hd : Hd} {bs : List Bool} {Q : EV → Hd → Prop} : oAll hd [.lst (bs.map .bl)] Q = Q (.v (.bl (bs.all id))) hd := by
  unfold oAll
  simp [asBls_map]
theorem long_ok {n : Nat} {hd : Hd} {w : Tx} {m : Int} {Q : EV → Hd → Prop} (hw : w.length ≤ 16777216) (k : Q (.v (.bl (isLw m w))) hd) : gam (M.tb K) M.pg (n + 1) 1 [.str w, .int m] hd Q := by
  refine gam_at p1 rfl ?_
  unfold f1
  simp
  rw [isin_at (t := .str) (b := true) rfl rfl]
  simp
  cases w with
  | nil =>
    simp
    exact ⟨hd, Sub.refl _, k⟩
  | cons c r =>
    have e1 : decide ((1 : Int) ≤ ((c :: r).length : Nat)) = true := by rw [List.length_cons]; simp; omega
    have e3 : atI (c :: r) 0 = some c := by simp [atI, ixN]
    by_cases e2 : ((c :: r).length : Int) ≤ m
    · have e2' := decide_eq_true e2
      simp [-List.length_cons, e1, e2', g0, e3, o_inS, abc_in]
      cases e4 : ltr c with
      | true =>
        simp [-List.length_cons, walkD]
        refine ⟨by simpa using hw, ?_⟩
        refine turns_map (gd := none) (hd := hd) (fun x => .bl (match x with | .str [c] => sgn c | _ => false)) trivial (fun x hx K hK => ?_) ?_
        · obtain ⟨c', hc', rfl⟩ : ∃ c', c' ∈ (c :: r) ∧ D.str [c'] = x := by
            rw [← List.map_cons (f := fun c => D.str [c])] at hx
            exact List.mem_map.mp hx
          simp [o_inS, abc_in, digs_in, g0, g1]
          have hK : K (some (.bl (ltr c' || dgt c'))) hd := hK
          cases e5 : ltr c' with
          | true => rw [e5] at hK; simpa using hK
          | false => rw [e5] at hK; simpa using hK
        · have e6 : ((c :: r).map fun c => D.str [c]).map (fun x => D.bl (match x with | .str [c] => sgn c | _ => false)) = ((c :: r).map sgn).map .bl := by
            rw [List.map_map, List.map_map]; rfl
          rw [← List.map_cons (f := fun c => D.str [c]), e6, all_bls]
          refine ⟨hd, Sub.refl _, ?_⟩
          have e7 : ((c :: r).map sgn).all id = isLw m (c :: r) := by
            rw [isLw_c, e2', e4, List.all_map]; rfl
          rw [e7]; exact k
      | false =>
        simp
        refine ⟨hd, Sub.refl _, ?_⟩
        have e7 : isLw m (c :: r) = false := by rw [isLw_c, e4]; simp
        rw [e7] at k; exact k
    · have e2' := decide_eq_false e2
      simp [-List.length_cons, e1, e2']
      refine ⟨hd, Sub.refl _, ?_⟩
      have e7 : isLw m (c :: r) = false := by rw [isLw_c, e2']; rfl
      rw [e7] at k; exact k
theorem wrd_ok {n : Nat} {hd : Hd} {w : Tx} {Q : EV → Hd → Prop} (hw : w.length ≤ 16777216) (k : Q (.v (.bl (isW w))) hd) : gam (M.tb K) M.pg (n + 2) 2 [.str w] hd Q := by
  refine gam_at p2 rfl ?_
  unfold f2
  simp [g2]
  refine long_ok hw ?_
  rw [isLw_W]
  exact ⟨hd, Sub.refl _, k⟩
end
end LK15
set_option Elab.async false
set_option linter.all false
set_option maxRecDepth 100000
set_option maxHeartbeats 4000000
namespace DL
open PySem PySem.Spec PyProof.Rows L2
section
variable {T : Tb} {P : Pg} {G : Gam} {ds : Slt} {hd : Hd} {R : Bool → Hd → Prop} {Q : EV → Hd → Prop}
theorem o_split {a b : Tx} : oSplit hd [.str a, .str b] Q = (sepOk b = true ∧ a.length + 2 ≤ 16777216 ∧ Q (.nl ((splitT b a).map .str)) hd) := propext Iff.rfl
theorem o_part {a b : Tx} : oPart hd [.str a, .str b] Q = (sepOk b = true ∧ Q (.v (.tup [.str (partT b a).1, .str (partT b a).2.1, .str (partT b a).2.2])) hd) := propext Iff.rfl
@[simp] theorem o_slS1 {x : Tx} {i : Int} : oSl true false hd [.str x, .int i] Q = Q (.v (.str (DL.cutD x (some i) none))) hd := propext Iff.rfl
@[simp] theorem o_slS2 {x : Tx} {i : Int} : oSl false true hd [.str x, .int i] Q = Q (.v (.str (DL.cutD x none (some i)))) hd := propext Iff.rfl
@[simp] theorem o_slL1 {x : List D} {i : Int} : oSl true false hd [.lst x, .int i] Q = Q (.nl (DL.cutD x (some i) none)) hd := propext Iff.rfl
@[simp] theorem o_slL2 {x : List D} {i : Int} : oSl false true hd [.lst x, .int i] Q = Q (.nl (DL.cutD x none (some i))) hd := propext Iff.rfl
@[simp] theorem o_slT1 {x : List D} {i : Int} : oSl true false hd [.tup x, .int i] Q = Q (.v (.tup (DL.cutD x (some i) none))) hd := propext Iff.rfl
@[simp] theorem o_slT2 {x : List D} {i : Int} : oSl false true hd [.tup x, .int i] Q = Q (.v (.tup (DL.cutD x none (some i)))) hd := propext Iff.rfl
@[simp] theorem b_tp {is : List Nat} {xs : List D} {K : Slt → Prop} : bindG (.tp is) (.tup xs) ds K = (xs.length = is.length ∧ K ((is.zip xs).foldl (fun a p => a.set p.1 (some p.2)) ds)) := propext Iff.rfl
@[simp] theorem tg_str {x : Tx} : isTg .str hd (.str x) = true := rfl
@[simp] theorem o_negI {i : Int} : oNeg hd [.int i] Q = Q (.v (.int (-i))) hd := propext Iff.rfl
theorem sIx_m1 {n d : Nat} (h : 1 ≤ n) : HT.sIx n d (some (-1)) = n - 1 := by
  show (if (-1 : Int) < 0 then ((-1 : Int) + (n : Int)).toNat else min (-1 : Int).toNat n) = n - 1
  rw [if_pos (by decide)]; omega
theorem cutD_from {α : Type} {x : List α} {n : Nat} : DL.cutD x (some (n : Int)) none = x.drop n := by
  unfold DL.cutD
  rw [HT.sIx_nat, HT.sIx_none]
  by_cases hn : n ≤ x.length
  · rw [Nat.min_eq_left hn, List.take_of_length_le (by rw [List.length_drop]; omega)]
  · rw [Nat.min_eq_right (by omega), List.drop_of_length_le (by omega), List.drop_of_length_le (by omega)]; simp
theorem cutD_to {α : Type} {x : List α} {n : Nat} : DL.cutD x none (some (n : Int)) = x.take n := by
  unfold DL.cutD
  rw [HT.sIx_nat, HT.sIx_none, Nat.sub_zero, List.drop_zero]
  by_cases hn : n ≤ x.length
  · rw [Nat.min_eq_left hn]
  · rw [Nat.min_eq_right (by omega), List.take_of_length_le (Nat.le_refl _), List.take_of_length_le (by omega)]
theorem cutD_last {α : Type} {x : List α} {c : α} : DL.cutD (x ++ [c]) (some (-1)) none = [c] := by
  unfold DL.cutD
  rw [sIx_m1 (by simp), HT.sIx_none]
  simp
theorem cutD_init {α : Type} {x : List α} {c : α} : DL.cutD (x ++ [c]) none (some (-1)) = x := by
  unfold DL.cutD
  rw [sIx_m1 (by simp), HT.sIx_none]
  simp
end
end DL
namespace LK15
open PySem PySem.Spec PyProof.Rows L2 DL
section
variable {K : PySem.W.Frag}
theorem p5 : M.pg.fn 5 = some f5 := by kernel_rfl
theorem p6 : M.pg.fn 6 = some f6 := by kernel_rfl
theorem p7 : M.pg.fn 7 = some f7 := by kernel_rfl
theorem w_cons {w : Tx} (h : isW w = true) : ∃ c r, w = c :: r ∧ ltr c = true ∧ r.all sgn = true ∧ r.length ≤ 8 := by
  cases w with
  | nil => cases h
  | cons c r =>
    rw [isW_c] at h
    simp at h
    exact ⟨c, r, rfl, h.1.1, by simpa using h.1.2, h.2⟩
theorem w_no {w : Tx} (h : isW w = true) {c : Nat} (hc : sgn c = false) : c ∉ w := by
  obtain ⟨d, r, rfl, h1, h2, h3⟩ := w_cons h
  intro z
  have : sgn c = true := by
    rcases List.mem_cons.mp z with rfl | z
    · rw [sgn_eq, h1]; rfl
    · exact List.all_eq_true.mp h2 c z
  rw [this] at hc; cases hc
theorem w_len {w : Tx} (h : isW w = true) : w.length ≤ 9 := by
  obtain ⟨d, r, rfl, h1, h2, h3⟩ := w_cons h
  simp; omega
theorem w_ne {w : Tx} (h : isW w = true) : w ≠ [] := by
  obtain ⟨d, r, rfl, h1, h2, h3⟩ := w_cons h
  simp
/-- what an assignment is read to -/
def actI : It → D
  | .read l => .tup [.str tRead, .str l]
  | .copy l r => .tup [.str tCopy, .str l, .str r]
  | .call l f as => .tup [.str tCallN, .str l, .tup [.str f, .tup (as.map .str)]]
  | _ => .non
/-- an assignment with these names -/
def It.fine (ls : List Tx) : It → Prop
  | .read l => l ∈ ls
  | .copy l r => l ∈ ls ∧ r ∈ ls
  | .call l f as => l ∈ ls ∧ isW f = true ∧ as.length ≤ 3 ∧ ∀ a ∈ as, a ∈ ls
  | _ => False
theorem fine_sm {ls : List Tx} (hw : ∀ w ∈ ls, isW w = true) : ∀ {i : It}, i.fine ls → i.sm
  | .read l, h => w_len (hw l h)
  | .copy l r, h => ⟨w_len (hw l h.1), w_len (hw r h.2)⟩
  | .call l f as, h => ⟨w_len (hw l h.1), w_len h.2.1, h.2.2.1, fun a ha => w_len (hw a (h.2.2.2 a ha))⟩
  | .doo _, h => h.elim
  | .lp _, h => h.elim
  | .ei _ _, h => h.elim
theorem all_in {hd : Hd} {ls as : List Tx} {ds : Slt} {n i : Nat} {Q : List D → Hd → Prop} (h : ∀ a ∈ as, a ∈ ls) (hQ : Q (as.map fun _ => .bl true) hd) :
    turns (fun x hd' K => oIn false hd' [x, .lst (ls.map .str)] fun ev hd'' => K (some ev.d) hd'') none (as.map .str) [] hd Q := by
  refine turns_map (gd := none) (hd := hd) (fun x => .bl true) trivial (fun x hx K hK => ?_) ?_
  · obtain ⟨a, ha, rfl⟩ := List.mem_map.mp hx
    rw [in_strs (hd := hd) (d := .lst (ls.map .str)) rfl]
    have : ls.contains a = true := by simpa using h a ha
    rw [this]
    exact hK
  · rw [List.map_map]; exact hQ
theorem rdasg_ok {n : Nat} {hd : Hd} {ls : List Tx} {i : It} {Q : EV → Hd → Prop} (hw : ∀ w ∈ ls, isW w = true) (hf : i.fine ls) (k : Q (.v (actI i)) hd) : gam (M.tb K) M.pg (n + 3) 5 [.str (lineT i), .lst (ls.map .str)] hd Q := by
  refine gam_at p5 rfl ?_
  unfold f5
  have so : sepOk [32, 61, 32] = true := by decide
  have so2 : sepOk [40] = true := by decide
  have so3 : sepOk [44, 32] = true := by decide
  have vn : view hd (.lst (ls.map D.str)) = .lst (ls.map .str) := rfl
  cases i with
  | read l =>
    have hl := hw l hf
    have hp : partT [32, 61, 32] (lineT (.read l)) = (l, [32, 61, 32], [63]) := by
      have : lineT (.read l) = l ++ [32, 61, 32] ++ [63] := by simp [lineT]
      rw [this]; exact part_hd (w_no hl (by decide))
    have hc : l ∈ ls := hf
    simp [o_part, so, hp, oeq_str, in_strs vn, hc]
    exact ⟨hd, Sub.refl _, k⟩
  | copy l r =>
    have hl := hw l hf.1
    have hr := hw r hf.2
    have hp : partT [32, 61, 32] (lineT (.copy l r)) = (l, [32, 61, 32], r) := part_hd (w_no hl (by decide))
    have h1 : l ∈ ls := hf.1
    have h2 : r ∈ ls := hf.2
    have h3 : r ≠ [63] := fun e => by rw [e] at hr; revert hr; decide
    simp [o_part, so, hp, oeq_str, in_strs vn, h1, h2, h3]
    exact ⟨hd, Sub.refl _, k⟩
  | call l f as =>
    obtain ⟨h1, h2, h3, h4⟩ := hf
    have hl := hw l h1
    have hp : partT [32, 61, 32] (lineT (.call l f as)) = (l, [32, 61, 32], f ++ [40] ++ (joinT [44, 32] as ++ [41])) := by
      have : lineT (.call l f as) = l ++ [32, 61, 32] ++ (f ++ [40] ++ (joinT [44, 32] as ++ [41])) := by simp [lineT]
      rw [this]; exact part_hd (w_no hl (by decide))
    have hp2 : partT [40] (f ++ [40] ++ (joinT [44, 32] as ++ [41])) = (f, [40], joinT [44, 32] as ++ [41]) := part_hd (w_no h2 (by decide))
    have h5 : f ++ [40] ++ (joinT [44, 32] as ++ [41]) ≠ [63] := fun e => by
      have := congrArg List.length e
      simp at this
      have : f ≠ [] := w_ne h2
      cases f with
      | nil => exact this rfl
      | cons => simp at *; 
    have h6 : f ++ [40] ++ (joinT [44, 32] as ++ [41]) ∉ ls := fun z => by
      have := w_no (hw _ z) (c := 40) (by decide)
      simp at this
    have h7 : DL.cutD (joinT [44, 32] as ++ [41]) (some (-1)) none = [41] := cutD_last
    have h8 : DL.cutD (joinT [44, 32] as ++ [41]) none (some (-1)) = joinT [44, 32] as := cutD_init
    generalize f ++ [40] ++ (joinT [44, 32] as ++ [41]) = R at hp hp2 h5 h6
    have h9 : joinT [44, 32] as ++ [41] = [41] ↔ as = [] := by
      cases as with
      | nil => simp [joinT]
      | cons a as =>
        simp
        have h10 := w_ne (hw a (h4 a (by simp)))
        cases as with
        | nil => exact h10
        | cons b as => simp [joinT, h10]
    have h12 := joinT_len (y := [44, 32]) as
    have h13 : (as.map List.length).sum ≤ 9 * as.length := by
      clear h12 k hp hp2 h5 h6 h7 h8 h9 h3
      induction as with
      | nil => simp
      | cons a as ih =>
        have := ih (fun x hx => h4 x (by simp [hx]))
        have := w_len (hw a (h4 a (by simp)))
        simp; omega
    have h14 : (joinT [44, 32] as).length ≤ 100 := by simp at h12; omega
    have h15 : as ≠ [] → splitT [44, 32] (joinT [44, 32] as) = as := fun h => split_join h fun x hx => w_no (hw x (h4 x hx)) (by decide)
    generalize joinT [44, 32] as ++ [41] = T at hp2 h7 h8 h9
    generalize joinT [44, 32] as = J at h8 h14 h15
    simp [o_part, so, so2, so3, hp, oeq_str, in_strs vn, h1, h5, h6, hp2]
    refine wrd_ok (by have := w_len h2; omega) ?_
    simp [h2, h7, oeq_str, h9]
    have h16 : ∀ n : Nat, ((List.replicate n (D.bl true)).all fun _ => true) = true := fun n => by simp
    have hall : ∀ (hd : Hd) (Q : EV → Hd → Prop), Q (.v (.bl true)) hd → oAll hd [.lst (as.map fun _ => D.bl true)] Q := fun hd Q hQ => by
      have e : (as.map fun _ => D.bl true) = ((as.map fun _ => true) : List Bool).map .bl := by rw [List.map_map]; rfl
      rw [e, all_bls]
      have e2 : ((as.map fun _ => true) : List Bool).all id = true := by rw [List.all_map]; simp
      rw [e2]; exact hQ
    by_cases ha : as = []
    · subst ha
      simp [g3, walkD, turns, gdOk]
      have e : oAll hd [.lst []] = fun Q => Q (.v (.bl true)) hd := rfl
      rw [e]
      exact ⟨trivial, hd, Sub.refl _, k⟩
    · simp [ha, h8, o_split, so3, h15 ha, g3, walkD]
      have h17 : decide ((3 : Int) < as.length) = false := by simp; omega
      simp [h17]
      refine ⟨by omega, by omega, ?_⟩
      refine all_in (ds := []) (n := 0) (i := 0) h4 ?_
      refine hall hd _ ?_
      simp [oTupOf]
      exact ⟨hd, Sub.refl _, k⟩
  | _ => exact hf.elim
end
end LK15
set_option Elab.async false
set_option linter.all false
set_option maxRecDepth 100000
set_option maxHeartbeats 4000000
namespace DL
open PySem PySem.Spec PyProof.Rows L2
section
variable {hd : Hd} {Q : EV → Hd → Prop}
theorem in_tup {w : Tx} {ws : List Tx} {neg : Bool} : oIn neg hd [.str w, .tup (ws.map .str)] Q = Q (.v (.bl (xor neg (ws.contains w)))) hd := by
  unfold oIn
  have h1 : flD (.str w) = true := rfl
  have h2 : (ws.map D.str).all flD = true := by rw [List.all_map, List.all_eq_true]; intro x _; rfl
  have h3 := any_str (w := w) (ws := ws)
  simp only [v_tup, h1, h2, h3, Bool.and_self, true_and]
end
end DL
namespace LK15
open PySem PySem.Spec PyProof.Rows L2 DL
section
variable {K : PySem.W.Frag}
abbrev tEnd : Tx := [101, 110, 100]
abbrev tOr : Tx := [111, 114]
abbrev tPart : Tx := [112, 97, 114, 116]
/-- a row, with what belongs to it -/
inductive Rw where
  | asg (i : It) | doo (p : Tx) | lp (e : Nat) | lpE (h : Nat) | ei (m : Nat) | orr (h e : Nat) | eiE (h : Nat) | part (w : Tx) (e : Nat) | partE (h : Nat) | nm | kp
def Rw.ln : Rw → Tx
  | .asg i => lineT i
  | .doo p => [100, 111, 32] ++ p
  | .lp _ => tLoop
  | .lpE _ => tEnd
  | .ei _ => tEither
  | .orr _ _ => tOr
  | .eiE _ => tEnd
  | .part w _ => [112, 97, 114, 116, 32] ++ w
  | .partE _ => tEnd
  | .nm => []
  | .kp => []
def Rw.act : Rw → D
  | .asg i => actI i
  | .doo p => .tup [.str tDo, .str p]
  | .lp _ => .tup [.str tLoop]
  | .lpE _ => .tup [.str tEnd]
  | .ei _ => .tup [.str tEither]
  | .orr _ _ => .tup [.str tOr]
  | .eiE _ => .tup [.str tEnd]
  | .part w _ => .tup [.str tPart, .str w]
  | .partE _ => .tup [.str tEnd]
  | .nm => .tup [.str [110, 97, 109, 101, 115]]
  | .kp => .tup [.str [107, 101, 101, 112]]
def Rw.fine (ls : List Tx) : Rw → Prop
  | .asg i => i.fine ls
  | .doo p => isW p = true
  | .part w _ => isW w = true
  | .nm => False
  | .kp => False
  | _ => True
theorem line_sp {ls : List Tx} : ∀ {i : It}, i.fine ls → ∃ l r, lineT i = l ++ [32] ++ ([61] ++ [32] ++ r) ∧ l ∈ ls
  | .read l, h => ⟨l, [63], by simp [lineT], h⟩
  | .copy l r, h => ⟨l, r, by simp [lineT], h.1⟩
  | .call l f as, h => ⟨l, f ++ [40] ++ joinT [44, 32] as ++ [41], by simp [lineT], h.1⟩
  | .doo _, h => h.elim
  | .lp _, h => h.elim
  | .ei _ _, h => h.elim
abbrev bare : List Tx := [tEither, tOr, tEnd, tLoop]
theorem bare_no {w : Tx} (h : 32 ∈ w) : w ∉ bare := by
  intro z
  simp only [List.mem_cons, List.not_mem_nil, or_false] at z
  rcases z with rfl | rfl | rfl | rfl <;> revert h <;> decide
theorem line_len {ls : List Tx} (hw : ∀ w ∈ ls, isW w = true) {i : It} (h : i.fine ls) : (lineT i).length ≤ 200 := by
  cases i with
  | read l => have := w_len (hw l h); simp [lineT]; omega
  | copy l r => have := w_len (hw l h.1); have := w_len (hw r h.2); simp [lineT]; omega
  | call l f as =>
    obtain ⟨h1, h2, h3, h4⟩ := h
    have := w_len (hw l h1)
    have := w_len h2
    have h12 := joinT_len (y := [44, 32]) as
    have h13 : (as.map List.length).sum ≤ 9 * as.length := by
      clear h12 h3
      induction as with
      | nil => simp
      | cons a as ih =>
        have := ih (fun x hx => h4 x (by simp [hx]))
        have := w_len (hw a (h4 a (by simp)))
        simp; omega
    simp at h12
    simp [lineT]; omega
  | _ => exact h.elim
theorem so32 : sepOk [32] = true := by decide
abbrev bareD : D := .tup [.str tEither, .str tOr, .str tEnd, .str tLoop]
theorem in_bare {hd : Hd} {w : Tx} {Q : EV → Hd → Prop} : oIn false hd [.str w, .tup [.str tEither, .str tOr, .str tEnd, .str tLoop]] Q = Q (.v (.bl (bare.contains w))) hd := by
  have e : D.tup [.str tEither, .str tOr, .str tEnd, .str tLoop] = .tup (bare.map .str) := rfl
  rw [e, in_tup]; simp
theorem in_dp {hd : Hd} {w : Tx} {Q : EV → Hd → Prop} : oIn false hd [.str w, .tup [.str tDo, .str tPart]] Q = Q (.v (.bl ([tDo, tPart].contains w))) hd := by
  have e : D.tup [.str tDo, .str tPart] = .tup ([tDo, tPart].map .str) := rfl
  rw [e, in_tup]; simp
theorem rdrow_ok {n : Nat} {hd : Hd} {ls : List Tx} {r : Rw} {Q : EV → Hd → Prop} (hw : ∀ w ∈ ls, isW w = true) (hf : r.fine ls) (k : Q (.v r.act) hd) : gam (M.tb K) M.pg (n + 4) 6 [.str r.ln, .lst (ls.map .str)] hd Q := by
  refine gam_at p6 rfl ?_
  unfold f6
  have bareCase : ∀ w : Tx, r.ln = w → bare.contains w = true → r.act = .tup [.str w] → (∃ h2, DL.Sub h2 hd ∧ Q (.v (.tup [.str w])) h2) := fun w e1 e2 e3 => ⟨hd, Sub.refl _, by rw [e3] at k; exact k⟩
  have two : ∀ h p : Tx, isW p = true → [tDo, tPart].contains h = true → r.ln = h ++ [32] ++ p → 32 ∉ h → h.length ≤ 4 → r.act = .tup [.str h, .str p] →
    wpSs (M.tb K) M.pg (gam (M.tb K) M.pg (n + 3)) f6.body { nx := fun _ hd' => ∃ h2, DL.Sub h2 hd' ∧ Q (.v .non) h2, rt := fun ev hd' => ∃ h2, DL.Sub h2 hd' ∧ Q ev h2, bk := fun _ _ => False, ct := fun _ _ => False } [some (.str r.ln), some (.lst (ls.map .str)), none] hd := fun h p hp hh e hn hl ha => by
    have e1 : bare.contains r.ln = false := by
      have := bare_no (w := r.ln) (by rw [e]; simp)
      simpa using this
    have e2 : splitT [32] r.ln = [h, p] := by
      rw [e, split_cons hn, split_one (w_no hp (by decide))]
    have e3 : r.ln.length + 2 ≤ 16777216 := by have := w_len hp; rw [e]; simp; omega
    unfold f6
    simp [g4]
    rw [in_bare, e1]
    simp [o_split, so32, e2, e3, oeq_int, atI, ixN]
    rw [in_dp, hh]
    simp
    refine wrd_ok (by have := w_len hp; omega) ?_
    simp [hp]
    exact ⟨hd, Sub.refl _, by rw [ha] at k; exact k⟩
  cases r with
  | asg i =>
    obtain ⟨l, rr, e, hl⟩ := line_sp hf
    have e1 : bare.contains (lineT i) = false := by
      have := bare_no (w := lineT i) (by rw [e]; simp)
      simpa using this
    have e2 : splitT [32] (lineT i) = l :: [61] :: splitT [32] rr := by
      rw [e, split_cons (w_no (hw l hl) (by decide)), split_cons (by decide)]
    have e3 : (lineT i).length + 2 ≤ 16777216 := by have := line_len hw hf; omega
    have e4 : (([l, [61]] ++ splitT [32] rr).length : Int) ≠ 2 := by
      have := split_len1 (y := [32]) (x := rr)
      simp; omega
    simp [g4, Rw.ln]
    rw [in_bare, e1]
    simp [o_split, so32, e2, e3, oeq_int]
    have e5 : ((splitT [32] rr).length : Int) + 1 + 1 ≠ 2 := by simpa using e4
    have e6 : (((splitT [32] rr).length : Int) + 1 + 1 == 2) = false := by simpa using e5
    rw [e6]
    refine rdasg_ok hw hf ?_
    exact ⟨hd, Sub.refl _, k⟩
  | doo p => exact two tDo p hf (by decide) rfl (by decide) (by decide) rfl
  | part w e => exact two tPart w hf (by decide) rfl (by decide) (by decide) rfl
  | lp e =>
    simp [g4, Rw.ln]
    rw [in_bare]
    simp
    exact ⟨hd, Sub.refl _, k⟩
  | lpE e =>
    simp [g4, Rw.ln]
    rw [in_bare]
    simp
    exact ⟨hd, Sub.refl _, k⟩
  | ei e =>
    simp [g4, Rw.ln]
    rw [in_bare]
    simp
    exact ⟨hd, Sub.refl _, k⟩
  | orr h e =>
    simp [g4, Rw.ln]
    rw [in_bare]
    simp
    exact ⟨hd, Sub.refl _, k⟩
  | eiE e =>
    simp [g4, Rw.ln]
    rw [in_bare]
    simp
    exact ⟨hd, Sub.refl _, k⟩
  | partE e =>
    simp [g4, Rw.ln]
    rw [in_bare]
    simp
    exact ⟨hd, Sub.refl _, k⟩
  | nm => exact hf.elim
  | kp => exact hf.elim
theorem dput_new {kvs : List (DK × D)} {k : DK} {v : D} (h : ∀ q ∈ kvs, q.1 ≠ k) : dput kvs k v = kvs ++ [(k, v)] := by
  unfold dput
  have : (kvs.any fun p => decide (p.1 = k)) = false := by
    rw [List.any_eq_false]
    intro q hq
    simpa using h q hq
  rw [this]; rfl
theorem dmerge_nd : ∀ (more acc : List (DK × D)), (more.map (·.1)).Nodup → (∀ q ∈ acc, ∀ r ∈ more, q.1 ≠ r.1) → dmerge acc more = acc ++ more
  | [], acc, _, _ => by simp [dmerge]
  | m :: more, acc, nd, dj => by
    have nd' := List.nodup_cons.mp nd
    show dmerge (dput acc m.1 m.2) more = _
    rw [dput_new (fun q hq => dj q hq m (by simp)), dmerge_nd more _ nd'.2 ?_]
    · simp
    · intro q hq r hr e
      rcases List.mem_append.mp hq with hq | hq
      · exact dj q hq r (by simp [hr]) e
      · simp at hq
        subst hq
        exact nd'.1 (List.mem_map.mpr ⟨r, hr, e.symm⟩)
theorem asPairs_map : ∀ {kvs : List (Tx × D)}, asPairs (kvs.map fun p => .tup [.str p.1, p.2]) = some (kvs.map fun p => (.s p.1, p.2))
  | [] => rfl
  | p :: kvs => by
    rw [List.map_cons]
    unfold asPairs
    rw [asPairs_map]
    rfl
theorem o_dicof {hd : Hd} {xs : List D} {kvs : List (DK × D)} (h : asPairs xs = some kvs) {Q : EV → Hd → Prop} : oDicOf hd [.lst xs] Q = Q (.nd (dmerge [] kvs)) hd := by
  unfold oDicOf; simp [h]
theorem rdwords_ok {n : Nat} {hd : Hd} {h : Tx} {ws : List Tx} {Q : EV → Hd → Prop} (hh : 32 ∉ h) (hh2 : h.length ≤ 10) (hw : ∀ w ∈ ws, isW w = true) (hl : ws.length ≤ 100) (hn : ws ≠ []) (nd : ws.Nodup) (k : Q (.nl (ws.map .str)) hd) :
    gam (M.tb K) M.pg (n + 2) 7 [.str (h ++ [32] ++ joinT [32] ws), .str h, .int 9] hd Q := by
  refine gam_at p7 rfl ?_
  unfold f7
  have e1 : splitT [32] (h ++ [32] ++ joinT [32] ws) = h :: ws := by
    rw [split_cons hh, split_join hn fun x hx => w_no (hw x hx) (by decide)]
  have e2 : (h ++ [32] ++ joinT [32] ws).length + 2 ≤ 16777216 := by
    have h12 := joinT_len (y := [32]) ws
    have h13 : (ws.map List.length).sum ≤ 9 * ws.length := by
      clear h12 hl k nd hn e1
      induction ws with
      | nil => simp
      | cons a as ih =>
        have := ih (fun x hx => hw x (by simp [hx]))
        have := w_len (hw a (by simp))
        simp; omega
    simp at h12
    simp; omega
  generalize h ++ [32] ++ joinT [32] ws = row at e1 e2
  have e3 : DL.cutD (D.str h :: ws.map D.str) (some 1) none = ws.map .str := cutD_from (n := 1)
  simp [-s_ife, o_split, so32, e1, e2]
  have e4 : ∀ (Q : List D → Hd → Prop), Q (ws.map fun _ => .bl true) hd → turns (fun x hd' K_1 => gam (M.tb K) M.pg (n + 1) 1 [x, D.int 9] hd' fun ev hd'' => K_1 (some ev.d) hd'') none (ws.map .str) [] hd Q := fun Q hQ => by
    refine turns_map (gd := none) (hd := hd) (fun x => .bl true) trivial (fun x hx K hK => ?_) ?_
    · obtain ⟨a, ha, rfl⟩ := List.mem_map.mp hx
      refine long_ok (by have := w_len (hw a ha); omega) ?_
      rw [isLw_W, hw a ha]; exact hK
    · rw [List.map_map]; exact hQ
  have e5 : (ws.map fun _ => D.bl true) = ((ws.map fun _ => true) : List Bool).map .bl := by rw [List.map_map]; rfl
  have e6 : ((ws.map fun _ => true) : List Bool).all id = true := by rw [List.all_map]; simp
  simp [oeq_str, atI, ixN, e3, walkD]
  refine ⟨by omega, e4 _ ?_⟩
  rw [e5, all_bls, e6]
  simp [e3, walkD]
  refine ⟨by omega, ?_⟩
  refine turns_map (gd := none) (hd := hd) (fun x => .tup [x, .bl true]) trivial (fun x hx K hK => ?_) ?_
  · simpa using hK
  · have e7 : (ws.map D.str).map (fun x => D.tup [x, .bl true]) = (ws.map fun w => (w, D.bl true)).map fun p => .tup [.str p.1, p.2] := by
      rw [List.map_map, List.map_map]; rfl
    rw [e7, o_dicof asPairs_map]
    rw [dmerge_nd _ [] ?_ (by simp)]
    · simp [oeq_int, e3, cAll]
      have e8 : (((ws.length : Nat) : Int) == (ws.length : Int) + 1 - 1) = true := by simp
      exact ⟨hd, Sub.refl _, k⟩
    · rw [List.map_map, List.map_map]
      have : (ws.map fun w => DK.s w).Nodup := by
        refine List.Pairwise.map _ (fun a b hab e => hab ?_) nd
        cases e; rfl
      exact this
end
end LK15
set_option Elab.async false
set_option linter.all false
set_option maxRecDepth 100000
set_option maxHeartbeats 4000000
namespace DL
open PySem PySem.Spec PyProof.Rows L2
section
variable {T : Tb} {P : Pg} {G : Gam} {ds : Slt} {hd : Hd} {Q : EV → Hd → Prop}
@[simp] theorem e_ucall {m : Nat} {r : IE} {es : IEs} : wpE T P G (.ucall m r es) ds hd Q = wpE T P G r ds hd fun ev hd1 => match view hd1 ev.d with
    | .obj c fs => match P.me c m with
      | some f => fget fs m = none ∧ wpEs T P G es ds hd1 fun l hd2 => G f (ev.d :: l) hd2 Q
      | none => False
    | _ => False := propext Iff.rfl
@[simp] theorem e_chain {o o2 : Op} {a b c : IE} : wpE T P G (.chain o o2 a b c) ds hd Q = wpE T P G a ds hd fun x hd1 => wpE T P G b ds hd1 fun y hd2 => dop T o hd2 [x.d, y.d] fun z hd3 => match z with
    | .v (.bl true) => wpE T P G c ds hd3 fun w hd4 => dop T o2 hd4 [y.d, w.d] Q
    | .v (.bl false) => Q (.v (.bl false)) hd3
    | _ => False := propext Iff.rfl
theorem o_attr {f c : Nat} {x d : D} {fs : List (Nat × D)} (h : view hd x = .obj c fs) (h2 : T.na c f = true) (h3 : fget fs f = some d) : oAttr T f hd [x] Q = Q (.v d) hd := by
  unfold oAttr; simp [h, h2, h3]
/-- a comprehension over what is told by g, over a heap that stays -/
theorem turns_fm {α : Type} {one : D → Hd → (Option D → Hd → Prop) → Prop} {gd : Gd} {hd : Hd} (g : α → D) (f : α → Option D) (hg : gdOk gd hd) {U : List D → Hd → Prop} : ∀ (L : List α) (acc : List D), (∀ a ∈ L, ∀ K : Option D → Hd → Prop, K (f a) hd → one (g a) hd K) →
    U (acc ++ L.filterMap f) hd → turns one gd (L.map g) acc hd U
  | [], acc, h, k => ⟨hg, by simpa using k⟩
  | x :: r, acc, h, k => by
    refine ⟨hg, h x (by simp) _ ?_⟩
    cases e : f x with
    | some d =>
      refine turns_fm g f hg r (acc ++ [d]) (fun y hy => h y (by simp [hy])) ?_
      rw [List.filterMap_cons_some e] at k
      simpa using k
    | none =>
      refine turns_fm g f hg r acc (fun y hy => h y (by simp [hy])) ?_
      rw [List.filterMap_cons_none e] at k
      exact k
theorem ucall_of {m : Nat} {r : IE} {es : IEs} {x : D} {c f : Nat} {fs : List (Nat × D)} (h : wpE T P G r ds hd = fun Q => Q (.v x) hd) (hv : view hd x = .obj c fs) (hm : P.me c m = some f) (hf : fget fs m = none) :
    wpE T P G (.ucall m r es) ds hd Q = wpEs T P G es ds hd fun l hd2 => G f (x :: l) hd2 Q := by
  rw [e_ucall, h]
  simp [hv, hm, hf]
end
end DL
namespace LK15
open PySem PySem.Spec PyProof.Rows L2 DL
section
variable {K : PySem.W.Frag}
theorem p3 : M.pg.fn 3 = some f3 := by kernel_rfl
theorem p4 : M.pg.fn 4 = some f4 := by kernel_rfl
theorem p13 : M.pg.fn 13 = some f13 := by kernel_rfl
theorem p14 : M.pg.fn 14 = some f14 := by kernel_rfl
/-- a call's term -/
def termD (f : Tx) (as : List Tx) : D := .tup [.str f, .tup (as.map .str)]
theorem cl_str {n : Nat} {hd : Hd} {w : Tx} {Q : EV → Hd → Prop} (k : Q (.nl []) hd) : gam (M.tb K) M.pg (n + 1) 3 [.str w] hd Q := by
  refine gam_at p3 rfl ?_
  unfold f3
  simp
  rw [isin_at (t := .str) (b := true) rfl rfl]
  simp
  exact ⟨hd, Sub.refl _, k⟩
theorem cl_ok {n : Nat} {hd : Hd} {f : Tx} {as : List Tx} {Q : EV → Hd → Prop} (k : Q (.nl [.tup [.str f, .int as.length]]) hd) : gam (M.tb K) M.pg (n + 2) 3 [termD f as] hd Q := by
  refine gam_at p3 rfl ?_
  unfold f3 termD
  simp
  rw [isin_at (t := .tup) (b := false) rfl rfl]
  simp [atI, ixN]
  intro p hp
  simp [walkD]
  have lp : ∀ (its : List Tx) (y : Option D) (hd1 : Hd), hd1 p = some (.lst [.tup [.str f, .int as.length]]) → Sub hd hd1 →
    loop (.nm 2) none { nx := wpSs (M.tb K) M.pg (gam (M.tb K) M.pg (n + 1)) (.cons (.ret true (.var 1)) .nil) { nx := fun _ hd' => ∃ h2, DL.Sub h2 hd' ∧ Q (.v .non) h2, rt := fun ev hd' => ∃ h2, DL.Sub h2 hd' ∧ Q ev h2, bk := fun _ _ => False, ct := fun _ _ => False }, rt := fun ev hd' => ∃ h2, DL.Sub h2 hd' ∧ Q ev h2, bk := fun _ _ => False, ct := fun _ _ => False }
      (wpSs (M.tb K) M.pg (gam (M.tb K) M.pg (n + 1)) (.cons (.expr (.meth .lst .extend (.var 1) (.cons false (.call 3 (.cons false (.var 2) .nil)) .nil))) .nil)) (its.map .str) [some (.tup [.str f, .tup (as.map .str)]), some (.ref p), y] hd1 := by
    intro its
    induction its with
    | nil =>
      intro y hd1 h1 sb
      refine ⟨trivial, ?_⟩
      simp [rel_lst h1]
      refine ⟨hd, fun a o z => ?_, k⟩
      have ne : a ≠ p := fun e => by rw [e, hp] at z; cases z
      rw [del_ne ne]; exact sb a o z
    | cons w its ih =>
      intro y hd1 h1 sb
      refine ⟨trivial, ?_⟩
      simp
      refine ⟨tg_lst (by rw [v_ref, h1]), ?_⟩
      refine cl_str ?_
      simp [oExtend, h1]
      exact ih _ _ put_same (fun a o z => by
        have ne : a ≠ p := fun e => by rw [e, hp] at z; cases z
        rw [put_ne ne]; exact sb a o z)
  exact lp as none _ put_same ((Sub.refl hd).put hp)
def kTI (p : Tx × Int) : DK × D := (.s p.1, .int p.2)
theorem dget_mem {kvs : List (DK × D)} {k : DK} {v : D} (h : dget kvs k = some v) : (k, v) ∈ kvs := by
  unfold dget at h
  cases e : kvs.find? fun p => decide (p.1 = k) with
  | none => rw [e] at h; cases h
  | some q =>
    rw [e] at h
    have h1 := List.find?_some e
    have h2 := List.mem_of_find?_eq_some e
    simp at h1 h
    rw [← h1, ← h]; exact h2
theorem dput_mem {kvs : List (DK × D)} {k : DK} {v : D} {q : DK × D} (h : q ∈ dput kvs k v) : q ∈ kvs ∨ q = (k, v) := by
  unfold dput at h
  split at h
  · obtain ⟨r, hr, e⟩ := List.mem_map.mp h
    split at e
    · rename_i e2
      right; rw [← e, e2]
    · left; rw [← e]; exact hr
  · rcases List.mem_append.mp h with h | h
    · exact .inl h
    · exact .inr (by simpa using h)
theorem dput_len {kvs : List (DK × D)} {k : DK} {v : D} : (dput kvs k v).length ≤ kvs.length + 1 := by
  unfold dput
  split
  · rw [List.length_map]; omega
  · simp
theorem dmerge_mem : ∀ {more acc : List (DK × D)} {q : DK × D}, q ∈ dmerge acc more → q ∈ acc ∨ q ∈ more
  | [], acc, q, h => .inl h
  | m :: more, acc, q, h => by
    rcases dmerge_mem (more := more) (acc := dput acc m.1 m.2) h with h | h
    · rcases dput_mem h with h | h
      · exact .inl h
      · exact .inr (by simp [h])
    · exact .inr (by simp [h])
theorem dmerge_len : ∀ {more acc : List (DK × D)}, (dmerge acc more).length ≤ acc.length + more.length
  | [], acc => by simp [dmerge]
  | m :: more, acc => by
    have := dmerge_len (more := more) (acc := dput acc m.1 m.2)
    have := dput_len (kvs := acc) (k := m.1) (v := m.2)
    show (dmerge (dput acc m.1 m.2) more).length ≤ _
    rw [List.length_cons]; omega
/-- numbers of arguments agree -/
def fun1 (cs : List (Tx × Nat)) : Prop := ∀ f a b, (f, a) ∈ cs → (f, b) ∈ cs → a = b
def inCs (cs : List (Tx × Nat)) (ps : List (Tx × Int)) : Prop := ∀ p ∈ ps, ∃ n : Nat, p.2 = n ∧ (p.1, n) ∈ cs
theorem asPairs_ti {ps : List (Tx × Int)} : asPairs (ps.map tiD) = some (ps.map kTI) := by
  have := asPairs_map (kvs := ps.map fun p => (p.1, D.int p.2))
  rw [List.map_map, List.map_map] at this
  exact this
theorem fits_ok {n : Nat} {hd : Hd} {f : Tx} {as : List Tx} {cs : List (Tx × Nat)} {ps : List (Tx × Int)} {Q : EV → Hd → Prop} (hc : fun1 cs) (hf : (f, as.length) ∈ cs) (hp : inCs cs ps) (hl : ps.length ≤ 1000) (k : Q (.v (.bl true)) hd) :
    gam (M.tb K) M.pg (n + 3) 4 [termD f as, .lst (ps.map tiD)] hd Q := by
  refine gam_at p4 rfl ?_
  unfold f4
  simp [oLstOf]
  rw [o_dicof asPairs_ti]
  simp
  intro p hp2
  refine cl_ok ?_
  simp [walkD]
  have vp : view (put hd p (.dic (dmerge [] (ps.map kTI)))) (.ref p) = .dic (dmerge [] (ps.map kTI)) := by rw [v_ref, put_same]
  refine ⟨trivial, ?_⟩
  simp
  have tg : isTg .dic (put hd p (.dic (dmerge [] (ps.map kTI)))) (.ref p) = true := by unfold isTg; simp [vp]
  refine ⟨tg, ?_⟩
  have hget : (dget (dmerge [] (ps.map kTI)) (.s f)).getD (.int as.length) = .int as.length := by
    cases e2 : dget (dmerge [] (ps.map kTI)) (.s f) with
    | none => rfl
    | some v =>
      rcases dmerge_mem (dget_mem e2) with z | z
      · cases z
      · obtain ⟨q, hq, e3⟩ := List.mem_map.mp z
        obtain ⟨m, h1, h2⟩ := hp q hq
        unfold kTI at e3
        have e4 : q.1 = f := by have := congrArg Prod.fst e3; simpa using this
        have e5 : D.int q.2 = v := congrArg Prod.snd e3
        rw [← e5, h1]
        rw [e4] at h2
        rw [hc f m _ h2 hf]
        rfl
  have hl2 : (dmerge [] (ps.map kTI)).length ≤ ps.length := by
    have := dmerge_len (more := ps.map kTI) (acc := [])
    simpa using this
  simp [oGet2, vp, dkOf, hget, oeq_int]
  simp [setIx, dkOf]
  refine ⟨by omega, trivial, ?_⟩
  simp
  refine ⟨hd, ?_, k⟩
  intro a o z
  have ne : a ≠ p := fun e => by rw [e, hp2] at z; cases z
  rw [put_ne ne]; exact z
/-- what a call's row tells -/
def Rw.call : Rw → Option (Tx × List Tx)
  | .asg (.call _ f as) => some (f, as)
  | _ => none
def callsR : List Rw → List (Tx × Int)
  | [] => []
  | r :: R => match r.call with
    | some p => (p.1, (p.2.length : Int)) :: callsR R
    | none => callsR R
/-- an act that may stand in a plan -/
def Rw.wfa (cs : List (Tx × Nat)) : Rw → Prop
  | .asg (.read _) => True
  | .asg (.copy _ _) => True
  | .asg (.call _ f as) => (f, as.length) ∈ cs
  | .asg _ => False
  | _ => True
theorem callsR_in {cs : List (Tx × Nat)} : ∀ {R : List Rw}, (∀ r ∈ R, r.wfa cs) → inCs cs (callsR R)
  | [], _, p, h => by cases h
  | r :: R, hr, p, h => by
    unfold callsR at h
    have ih := callsR_in (R := R) fun r h => hr r (by simp [h])
    split at h
    · rename_i q e
      rcases List.mem_cons.mp h with rfl | h
      · have := hr r (by simp)
        cases r with
        | asg i =>
          cases i with
          | call l f as => simp [Rw.call] at e; subst e; exact ⟨as.length, rfl, this⟩
          | _ => simp [Rw.call] at e
        | _ => simp [Rw.call] at e
      · exact ih p h
    · exact ih p h
theorem callsR_len : ∀ {R : List Rw}, (callsR R).length ≤ R.length
  | [] => Nat.le_refl _
  | r :: R => by
    have := callsR_len (R := R)
    unfold callsR
    split <;> simp <;> omega
/-- a plan, as far as it is read: x with the fields fs -/
structure PlA (hd : Hd) (x : D) (fs : List (Nat × D)) (cs : List (Tx × Nat)) (R : List Rw) : Prop where
  v : view hd x = .obj 0 fs
  acts : fget fs 8 = some (.lst (R.map Rw.act))
  wf : ∀ r ∈ R, r.wfa cs
  len : R.length ≤ 1000
  me : ∀ m ∈ [1, 2, 3, 12, 13, 14, 15, 16, 19], fget fs m = none
theorem na8 : (M.tb K).na 0 8 = true := rfl
abbrev clTest : IT := .op .eq (.cons false (.op .idx (.cons false (.var 2) (.cons false (.lit (.int 0)) .nil))) (.cons false (.lit (.str [99, 97, 108, 108])) .nil))
theorem act_call {r : Rw} {cs : List (Tx × Nat)} (h : r.wfa cs) : (∃ l f as, r = .asg (.call l f as)) ∨ (r.call = none ∧ ∃ w xs, w ≠ tCallN ∧ r.act = .tup (.str w :: xs)) := by
  cases r with
  | asg i =>
    cases i with
    | call l f as => exact .inl ⟨l, f, as, rfl⟩
    | read l => exact .inr ⟨rfl, _, _, by decide, rfl⟩
    | copy l r => exact .inr ⟨rfl, _, _, by decide, rfl⟩
    | _ => exact h.elim
  | _ => exact .inr ⟨rfl, _, _, by decide, rfl⟩
theorem told_ok {n : Nat} {hd : Hd} {x : D} {fs : List (Nat × D)} {cs : List (Tx × Nat)} {R : List Rw} {Q : EV → Hd → Prop} (h : PlA hd x fs cs R) (k : ∀ ps : List (Tx × Int), inCs cs ps → ps.length ≤ 1000 → Q (.nl (ps.map tiD)) hd) :
    gam (M.tb K) M.pg (n + 1) 14 [x] hd Q := by
  refine gam_at p14 rfl ?_
  unfold f14
  simp
  rw [o_attr h.v na8 h.acts]
  simp [walkD]
  refine ⟨by have := h.len; omega, ?_⟩
  refine turns_fm (gd := none) (hd := hd) Rw.act (fun r => r.call.map fun p => .tup [.str p.1, .int (p.2.length : Int)]) trivial R [] (fun r hr K hK => ?_) ?_
  · rcases act_call (h.wf r hr) with ⟨l, f, as, rfl⟩ | ⟨e1, w, xs, e2, e3⟩
    · simp [Rw.act, actI, atI, ixN, oeq_str]
      exact hK
    · rw [e3]
      rw [e1] at hK
      have e4 : ¬ w = [99, 97, 108, 108] := e2
      simp [atI, ixN, oeq_str, e4]
      exact hK
  · have e : ∀ R : List Rw, (R.filterMap fun r => r.call.map fun p => D.tup [.str p.1, .int (p.2.length : Int)]) = (callsR R).map tiD := by
      intro R
      induction R with
      | nil => rfl
      | cons r R ih =>
        unfold callsR
        cases e : r.call with
        | none => rw [List.filterMap_cons_none (by rw [e]; rfl), ih]
        | some p => rw [List.filterMap_cons_some (by rw [e]; rfl), ih]; rfl
    rw [e, List.nil_append, o_dicof asPairs_ti]
    have hlen : (dmerge [] ((callsR R).map kTI)).length ≤ 1000 := by
      have h1 := dmerge_len (more := (callsR R).map kTI) (acc := [])
      have h2 := callsR_len (R := R)
      have h3 := h.len
      simp at h1
      omega
    have hin : ∀ q ∈ dmerge [] ((callsR R).map kTI), ∃ p ∈ callsR R, q = kTI p := fun q hq => by
      rcases dmerge_mem hq with z | z
      · cases z
      · obtain ⟨p, h1, h2⟩ := List.mem_map.mp z
        exact ⟨p, h1, h2.symm⟩
    have hps : ∀ L : List (DK × D), (∀ q ∈ L, ∃ p ∈ callsR R, q = kTI p) → ∃ ps : List (Tx × Int), L = ps.map kTI ∧ ∀ p ∈ ps, p ∈ callsR R := by
      intro L
      induction L with
      | nil => exact fun _ => ⟨[], rfl, by simp⟩
      | cons q L ih =>
        intro hq
        obtain ⟨p, h1, h2⟩ := hq q (by simp)
        obtain ⟨ps, h3, h4⟩ := ih fun q h => hq q (by simp [h])
        exact ⟨p :: ps, by rw [h2, h3]; rfl, fun z hz => by
          rcases List.mem_cons.mp hz with rfl | hz
          · exact h1
          · exact h4 z hz⟩
    obtain ⟨ps, e5, h5⟩ := hps _ hin
    rw [e5] at hlen ⊢
    have e6 : DL.pairD (ps.map kTI) = ps.map tiD := by unfold DL.pairD; rw [List.map_map]; rfl
    have e7 : ∀ ps : List (Tx × Int), asTIs (ps.map tiD) = some ps := by
      intro ps
      induction ps with
      | nil => rfl
      | cons p ps ih => rw [List.map_cons]; unfold asTIs; rw [ih]; rfl
    simp [oItemsL, oSortP, e6, e7]
    rw [List.length_map] at hlen
    refine ⟨by omega, fun ps' hp _ => ⟨hd, Sub.refl _, k ps' (fun p hpp => ?_) (by rw [hp.length_eq]; exact hlen)⟩⟩
    exact callsR_in h.wf p (h5 p (hp.mem_iff.mp hpp))
abbrev rcBody : ISs := match f13.body with
  | .cons (.for_ _ _ b) _ => b
  | _ => .nil
theorem wfa_call {cs : List (Tx × Nat)} {l f : Tx} {as : List Tx} (h : (Rw.asg (.call l f as)).wfa cs) : (f, as.length) ∈ cs := h
theorem rc_loop {n : Nat} {hd : Hd} {x : D} {fs : List (Nat × D)} {cs : List (Tx × Nat)} {R : List Rw} {E : DEn} (hc : fun1 cs) (h : PlA hd x fs cs R) (kE : ∀ y, E.nx [some x, y] hd) : ∀ (L : List Rw) (y : Option D), (∀ r ∈ L, r.wfa cs) →
    loop (.nm 1) none E (wpSs (M.tb K) M.pg (gam (M.tb K) M.pg (n + 3)) rcBody) (L.map Rw.act) [some x, y] hd
  | [], y, _ => ⟨trivial, kE y⟩
  | r :: L, y, hw => by
    refine ⟨trivial, ?_⟩
    have ih := rc_loop (n := n) hc h kE L (some r.act) fun r h => hw r (by simp [h])
    rcases act_call (hw r (by simp)) with ⟨l, f, as, rfl⟩ | ⟨e1, w, xs, e2, e3⟩
    · simp [rcBody, f13, Rw.act, actI, atI, ixN, oeq_str]
      simp [h.v]
      have e : M.pg.me 0 14 = some 14 := rfl
      rw [e]
      simp
      refine ⟨h.me 14 (by decide), told_ok h fun ps h1 h2 => ?_⟩
      refine fits_ok hc (wfa_call (l := l) (hw (.asg (.call l f as)) (by simp))) h1 h2 ?_
      simp
      exact ih
    · rw [e3] at ih ⊢
      have e4 : ¬ w = [99, 97, 108, 108] := e2
      simp [rcBody, f13, atI, ixN, oeq_str, e4]
      exact ih
theorem rcalls_ok {n : Nat} {hd : Hd} {x : D} {fs : List (Nat × D)} {cs : List (Tx × Nat)} {R : List Rw} {Q : EV → Hd → Prop} (hc : fun1 cs) (h : PlA hd x fs cs R) (k : Q (.v (.bl true)) hd) :
    gam (M.tb K) M.pg (n + 4) 13 [x] hd Q := by
  refine gam_at p13 rfl ?_
  unfold f13
  simp [-s_ife]
  rw [o_attr h.v na8 h.acts]
  simp [walkD]
  exact rc_loop hc h (fun y => by simp; exact ⟨hd, Sub.refl _, k⟩) R none h.wf
end
end LK15
set_option Elab.async false
set_option linter.all false
set_option maxRecDepth 100000
set_option maxHeartbeats 4000000
namespace LK15
open PySem PySem.Spec PyProof.Rows L2 DL
section
variable {K : PySem.W.Frag}
theorem p9 : M.pg.fn 9 = some f9 := by kernel_rfl
theorem na10 : (M.tb K).na 0 10 = true := rfl
theorem na9 : (M.tb K).na 0 9 = true := rfl
theorem na11 : (M.tb K).na 0 11 = true := rfl
theorem deqL_refl : ∀ {ws : List Tx}, deqL (ws.map D.str) (ws.map D.str) = true
  | [] => rfl
  | w :: ws => by
    rw [List.map_cons]
    show (deq (.str w) (.str w) && deqL _ _) = true
    rw [deqL_refl]
    simp [deq]
theorem oeq_strs {hd : Hd} {ws : List Tx} {neg : Bool} {Q : EV → Hd → Prop} : oEq neg hd [.lst (ws.map .str), .lst (ws.map .str)] Q = Q (.v (.bl (xor neg true))) hd := by
  unfold oEq
  have h1 : shD 60 (.lst (ws.map D.str)) = true := all_sh (n := 59)
  have h3 : deq (.lst (ws.map D.str)) (.lst (ws.map D.str)) = true := deqL_refl
  simp [h1, h3]
theorem eq_nil {ah : List Tx} {hd : Hd} {Q : EV → Hd → Prop} : oEq false hd [.lst (ah.map .str), .lst []] Q = Q (.v (.bl ah.isEmpty)) hd := by
  unfold oEq
  have h1 : shD 60 (.lst (ah.map D.str)) = true := all_sh (n := 59)
  have h2 : shD 60 (.lst []) = true := rfl
  have h3 : deq (.lst (ah.map D.str)) (.lst []) = ah.isEmpty := by cases ah <;> rfl
  simp [h1, h2, h3]
theorem act_sh {r : Rw} {cs : List (Tx × Nat)} (h : r.wfa cs) : shD 59 r.act = true ∧ deq r.act .non = false := by
  cases r with
  | asg i =>
    cases i with
    | call l f as =>
      refine ⟨?_, rfl⟩
      have := all_sh (n := 56) (ws := as)
      simp only [Rw.act, actI, shD, List.all_cons, List.all_nil, this]
      rfl
    | read l => exact ⟨rfl, rfl⟩
    | copy l r => exact ⟨rfl, rfl⟩
    | _ => exact h.elim
  | _ => exact ⟨rfl, rfl⟩
theorem headed_ok {n : Nat} {hd : Hd} {x : D} {fs : List (Nat × D)} {cs : List (Tx × Nat)} {R : List Rw} {ls sv lines : List Tx} {Q : EV → Hd → Prop} (h : PlA hd x fs cs R)
    (hl : fget fs 10 = some (.lst (ls.map .str))) (hs : fget fs 11 = some (.lst (sv.map .str))) (hn : fget fs 9 = some (.lst (lines.map .str))) (h1 : 1 ≤ ls.length) (h2 : ls.length ≤ 16) (h3 : 3 ≤ lines.length) (h4 : lines.length ≤ 80)
    (h5 : sv ≠ []) (h6 : ls.filter (fun w => sv.contains w) = sv) (k : Q (.v (.bl true)) hd) :
    gam (M.tb K) M.pg (n + 1) 9 [x, .int 16, .int 80] hd Q := by
  refine gam_at p9 rfl ?_
  unfold f9
  simp
  rw [o_attr h.v na10 hl]
  have b1 : decide ((1 : Int) ≤ ls.length) = true := by simp; omega
  have b2 : decide ((ls.length : Int) ≤ 16) = true := by simp; omega
  have b3 : decide ((3 : Int) ≤ lines.length) = true := by simp; omega
  have b4 : decide ((lines.length : Int) ≤ 80) = true := by simp; omega
  simp [b1, b2, g5, o_attr h.v na9 hn, b3, b4]
  rw [o_attr h.v na11 hs]
  have e5 : sv.isEmpty = false := by cases sv with
    | nil => exact absurd rfl h5
    | cons => rfl
  simp [eq_nil, e5]
  rw [o_attr h.v na11 hs]
  simp
  rw [o_attr h.v na10 hl]
  simp [walkD]
  refine ⟨by omega, ?_⟩
  refine turns_fm (gd := none) (hd := hd) D.str (fun w => if sv.contains w then some (.str w) else none) trivial ls [] (fun w hw K hK => ?_) ?_
  · rw [o_attr h.v na11 hs]
    simp
    rw [in_strs (d := .lst (sv.map .str)) rfl]
    cases e : sv.contains w with
    | true => rw [e] at hK; simpa using hK
    | false => rw [e] at hK; simpa using hK
  · have e : ∀ L : List Tx, (L.filterMap fun w => if sv.contains w then some (D.str w) else none) = (L.filter fun w => sv.contains w).map .str := by
      intro L
      induction L with
      | nil => rfl
      | cons w L ih =>
        cases e : sv.contains w with
        | true => rw [List.filterMap_cons_some (by rw [e]; rfl), List.filter_cons_of_pos e, ih]; rfl
        | false => rw [List.filterMap_cons_none (by rw [e]; rfl), List.filter_cons_of_neg (by rw [e]; simp), ih]
    rw [e, h6, List.nil_append, oeq_strs]
    simp
    rw [o_attr h.v na8 h.acts]
    simp
    unfold oIn
    have a1 : (R.map Rw.act).all (shD 59) = true := by
      rw [List.all_map, List.all_eq_true]
      intro r hr
      exact (act_sh (h.wf r hr)).1
    have a2 : ((R.map Rw.act).any fun z => deq z .non) = false := by
      rw [List.any_map, List.any_eq_false]
      intro r hr
      simp [(act_sh (h.wf r hr)).2]
    have a3 : shD 60 .non = true := rfl
    simp only [v_lst, a1, a2, a3]
    exact ⟨rfl, hd, Sub.refl _, k⟩
end
end LK15
set_option Elab.async false
set_option linter.all false
set_option maxRecDepth 100000
set_option maxHeartbeats 4000000
namespace DL
open PySem PySem.Spec PyProof.Rows L2
theorem at_last {α : Type} {xs : List α} {x : α} : atI (xs ++ [x]) (-1) = some x := by
  have e : ixN (xs ++ [x]).length (-1) = some xs.length := by
    unfold ixN
    rw [if_neg (by decide), List.length_append, List.length_singleton, if_pos (by omega)]
    congr 1; omega
  unfold atI
  rw [e]
  simp
theorem ixN_last {α : Type} {xs : List α} {x : α} : ixN (xs ++ [x]).length (-1) = some xs.length := by
  unfold ixN
  rw [if_neg (by decide), List.length_append, List.length_singleton, if_pos (by omega)]
  congr 1; omega
theorem at_get {α : Type} {xs : List α} {n : Nat} {x : α} (h : xs[n]? = some x) : atI xs (n : Int) = some x := by
  have hl : n < xs.length := by
    by_cases c : n < xs.length
    · exact c
    · rw [List.getElem?_eq_none (by omega)] at h; cases h
  unfold atI ixN
  rw [if_pos (by omega), if_pos (by omega)]
  simpa using h
def nsD (ns : List Nat) : List D := ns.map fun (n : Nat) => .int (n : Int)
theorem ints_sh : ∀ {ns : List Nat} {m : Nat}, (nsD ns).all (shD m) = true
  | [], _ => rfl
  | n :: ns, m => by
    have := ints_sh (ns := ns) (m := m)
    cases m <;> simp [nsD, shD] at this ⊢
theorem eq_nil_int {hd : Hd} {x : D} {ns : List Nat} {neg : Bool} {Q : EV → Hd → Prop} (h : view hd x = .lst (nsD ns)) : oEq neg hd [x, .lst []] Q = Q (.v (.bl (xor neg ns.isEmpty))) hd := by
  unfold oEq
  have h1 : shD 60 (.lst (nsD ns)) = true := ints_sh (m := 59)
  have h2 : shD 60 (.lst []) = true := rfl
  have h3 : deq (.lst (nsD ns)) (.lst []) = ns.isEmpty := by cases ns <;> rfl
  simp [h, h1, h2, h3]
theorem in_ints {hd : Hd} {x : D} {ns : List Nat} {n : Nat} {neg : Bool} {Q : EV → Hd → Prop} (h : view hd x = .lst (nsD ns)) : oIn neg hd [.int n, x] Q = Q (.v (.bl (xor neg (ns.contains n)))) hd := by
  unfold oIn
  have h1 : (nsD ns).all (shD 59) = true := ints_sh
  have h2 : shD 60 (.int n) = true := rfl
  have h3 : ((nsD ns).any fun z => deq z (.int n)) = ns.contains n := by
    clear h h1
    induction ns with
    | nil => rfl
    | cons m ns ih =>
      unfold nsD at ih ⊢
      rw [List.map_cons, List.any_cons, List.contains_cons, ih]
      have : deq (.int m) (.int n) = (n == m) := by
        show ((m : Int) == (n : Int)) = (n == m)
        rw [Bool.eq_iff_iff]; simp; omega
      rw [this]
  simp only [h, h1, h2, h3]
  simp
theorem in_dic {hd : Hd} {x : D} {kvs : List (DK × D)} {w : Tx} {neg : Bool} {Q : EV → Hd → Prop} (h : view hd x = .dic kvs) : oIn neg hd [.str w, x] Q = Q (.v (.bl (xor neg (dget kvs (.s w)).isSome))) hd := by
  unfold oIn; simp only [h]; rfl
theorem ix_dicS {hd : Hd} {x d : D} {kvs : List (DK × D)} {w : Tx} {Q : EV → Hd → Prop} (h : view hd x = .dic kvs) (hg : dget kvs (.s w) = some d) : oIdxA hd [x, .str w] Q = Q (.v d) hd := by
  unfold oIdxA; simp only [h, dkOf, hg]
theorem ix_dicI {hd : Hd} {x d : D} {kvs : List (DK × D)} {i : Int} {Q : EV → Hd → Prop} (h : view hd x = .dic kvs) (hg : dget kvs (.i i) = some d) : oIdxA hd [x, .int i] Q = Q (.v d) hd := by
  unfold oIdxA; simp only [h, dkOf, hg]
theorem set_dicI {hd : Hd} {p : Addr} {kvs : List (DK × D)} (h : hd p = some (.dic kvs)) {d : D} {i : Int} {K : Hd → Prop} : setIx d (.ref p) (.int i) hd K = (kvs.length < 16777216 ∧ K (put hd p (.dic (dput kvs (.i i) d)))) := by
  unfold setIx; simp only [h, dkOf]
theorem set_dicS {hd : Hd} {p : Addr} {kvs : List (DK × D)} (h : hd p = some (.dic kvs)) {d : D} {i : Tx} {K : Hd → Prop} : setIx d (.ref p) (.str i) hd K = (kvs.length < 16777216 ∧ K (put hd p (.dic (dput kvs (.s i) d)))) := by
  unfold setIx; simp only [h, dkOf]
theorem set_at_ {T : Tb} {hd : Hd} {p : Addr} {c f : Nat} {fs : List (Nat × D)} (h : hd p = some (.ins c fs)) {d : D} {Q : Hd → Prop} : setAt T f d (.ref p) hd Q = (T.na c f = true ∧ fs.length < 1000 ∧ Q (put hd p (.ins c (fput fs f d)))) := by
  unfold setAt; simp only [h]
theorem pop_last {hd : Hd} {p : Addr} {xs : List D} {x : D} {Q : EV → Hd → Prop} (h : hd p = some (.lst (xs ++ [x]))) : oPop hd [.ref p] Q = Q (.v x) (put hd p (.lst xs)) := by
  unfold oPop
  simp [h]
end DL
namespace LK15
open PySem PySem.Spec PyProof.Rows L2 DL
section
variable {K : PySem.W.Frag}
theorem p10 : M.pg.fn 10 = some f10 := by kernel_rfl
theorem p11 : M.pg.fn 11 = some f11 := by kernel_rfl
theorem p12 : M.pg.fn 12 = some f12 := by kernel_rfl
theorem na4 : (M.tb K).na 0 4 = true := rfl
theorem na5 : (M.tb K).na 0 5 = true := rfl
theorem na6 : (M.tb K).na 0 6 = true := rfl
theorem na7 : (M.tb K).na 0 7 = true := rfl
/-- the fields of a plan -/
def plF (lines ls sv : List Tx) (R : List Rw) (e h d : D) (first : Nat) : List (Nat × D) :=
  [(9, .lst (lines.map .str)), (10, .lst (ls.map .str)), (11, .lst (sv.map .str)), (8, .lst (R.map Rw.act)), (4, e), (5, h), (6, d), (7, .int first)]
/-- the dict of places -/
def IsM (kvs : List (DK × D)) (E : Nat → Option Nat) : Prop := ∀ j : Nat, dget kvs (.i j) = (E j).map fun e => .int (e : Int)
def upE (E : Nat → Option Nat) (k e : Nat) : Nat → Option Nat := fun j => if j = k then some e else E j
theorem dget_put {kvs : List (DK × D)} {k q : DK} {v : D} : dget (dput kvs k v) q = if q = k then some v else dget kvs q := by
  unfold dput dget
  split
  · rename_i h
    by_cases e : q = k
    · subst e
      rw [if_pos rfl]
      rw [List.any_eq_true] at h
      obtain ⟨r, hr, hrk⟩ := h
      have : ∀ L : List (DK × D), (∃ r ∈ L, r.1 = q) → (Option.map (fun x => x.2) (List.find? (fun p => decide (p.1 = q)) (L.map fun p => if p.1 = q then (p.1, v) else p))) = some v := by
        intro L
        induction L with
        | nil => rintro ⟨r, hr, _⟩; cases hr
        | cons a L ih =>
          rintro ⟨r, hr, e⟩
          by_cases ha : a.1 = q
          · simp [ha]
          · rcases List.mem_cons.mp hr with rfl | hr
            · exact absurd e ha
            · simp [ha, List.find?_cons]
              simpa using ih ⟨r, hr, e⟩
      exact this kvs ⟨r, hr, by simpa using hrk⟩
    · rw [if_neg e]
      have : ∀ L : List (DK × D), (List.find? (fun p => decide (p.1 = q)) (L.map fun p => if p.1 = k then (p.1, v) else p)).map (·.2) = (L.find? fun p => decide (p.1 = q)).map (·.2) := by
        intro L
        induction L with
        | nil => rfl
        | cons a L ih =>
          by_cases ha : a.1 = q
          · have : ¬ a.1 = k := fun z => e (ha.symm.trans z)
            have e2 : ¬ q = k := e
            simp [ha, e2]
          · rw [List.map_cons]
            by_cases hk : a.1 = k
            · have e2 : ¬ k = q := fun z => e z.symm
              simp [hk, e2, List.find?_cons]
              simpa using ih
            · simp [hk, ha, List.find?_cons]
              simpa using ih
      exact this kvs
  · rename_i h
    have h : (kvs.any fun p => decide (p.1 = k)) = false := by
      cases q : kvs.any (fun p => decide (p.1 = k)) with
      | true => exact absurd q h
      | false => rfl
    rw [List.find?_append]
    by_cases e : q = k
    · subst e
      rw [if_pos rfl]
      have : kvs.find? (fun p => decide (p.1 = q)) = none := by
        rw [List.find?_eq_none]
        intro r hr
        rw [List.any_eq_false] at h
        exact h r hr
      simp [this]
    · rw [if_neg e]
      have : ¬ k = q := fun z => e z.symm
      cases kvs.find? (fun p => decide (p.1 = q)) <;> simp [this]
theorem IsM.put {kvs : List (DK × D)} {E : Nat → Option Nat} (h : IsM kvs E) (k e : Nat) : IsM (dput kvs (.i k) (.int e)) (upE E k e) := by
  intro j
  rw [dget_put]
  unfold upE
  by_cases c : j = k
  · subst c; simp
  · have : ¬ (DK.i (j : Int) = DK.i (k : Int)) := fun z => c (by cases z; rfl)
    rw [if_neg this, if_neg c, h j]
/-- a plan while it is laid -/
structure Pst (hd : Hd) (s eA hA dA o : Addr) (lines ls sv : List Tx) (R : List Rw) (kE kH : List (DK × D)) (hs : List (Tx × Nat)) (op : List Nat) (first : Nat) : Prop where
  s_ : hd s = some (.ins 0 (plF lines ls sv R (.ref eA) (.ref hA) (.ref dA) first))
  e_ : hd eA = some (.dic kE)
  h_ : hd hA = some (.dic kH)
  d_ : hd dA = some (.dic (hs.map fun p => (.s p.1, .int p.2)))
  o_ : hd o = some (.lst (nsD op))
structure Dis (s eA hA dA o : Addr) : Prop where
  a1 : s ≠ eA
  a2 : s ≠ hA
  a3 : s ≠ dA
  a4 : s ≠ o
  a5 : eA ≠ hA
  a6 : eA ≠ dA
  a7 : eA ≠ o
  a8 : hA ≠ dA
  a9 : hA ≠ o
  a0 : dA ≠ o
/-- the first word of an act -/
def Rw.kd : Rw → Tx
  | .asg (.read _) => tRead
  | .asg (.copy _ _) => tCopy
  | .asg (.call _ _ _) => tCallN
  | .asg _ => []
  | .doo _ => tDo
  | .lp _ => tLoop
  | .lpE _ => tEnd
  | .ei _ => tEither
  | .orr _ _ => tOr
  | .eiE _ => tEnd
  | .part _ _ => tPart
  | .partE _ => tEnd
  | .nm => [110, 97, 109, 101, 115]
  | .kp => [107, 101, 101, 112]
theorem act_kd {cs : List (Tx × Nat)} {r : Rw} (h : r.wfa cs) : ∃ xs, r.act = .tup (.str r.kd :: xs) := by
  cases r with
  | asg i => cases i <;> first | exact ⟨_, rfl⟩ | exact h.elim
  | _ => exact ⟨_, rfl⟩
theorem at_kd {cs : List (Tx × Nat)} {r : Rw} (h : r.wfa cs) {hd : Hd} {Q : EV → Hd → Prop} : oIdxA hd [r.act, .int 0] Q = Q (.v (.str r.kd)) hd := by
  obtain ⟨xs, e⟩ := act_kd h
  rw [e]
  simp [atI, ixN]
section
variable {hd : Hd} {s eA hA dA o : Addr} {lines ls sv : List Tx} {R : List Rw} {kE kH : List (DK × D)} {hs : List (Tx × Nat)} {op : List Nat} {first : Nat} {cs : List (Tx × Nat)}
theorem Pst.vs (h : Pst hd s eA hA dA o lines ls sv R kE kH hs op first) : view hd (.ref s) = .obj 0 (plF lines ls sv R (.ref eA) (.ref hA) (.ref dA) first) := by rw [v_ref, h.s_]
theorem Pst.vo (h : Pst hd s eA hA dA o lines ls sv R kE kH hs op first) : view hd (.ref o) = .lst (nsD op) := by rw [v_ref, h.o_]
theorem Pst.ve (h : Pst hd s eA hA dA o lines ls sv R kE kH hs op first) : view hd (.ref eA) = .dic kE := by rw [v_ref, h.e_]
theorem Pst.vh (h : Pst hd s eA hA dA o lines ls sv R kE kH hs op first) : view hd (.ref hA) = .dic kH := by rw [v_ref, h.h_]
theorem Pst.vd (h : Pst hd s eA hA dA o lines ls sv R kE kH hs op first) : view hd (.ref dA) = .dic (hs.map fun p => (.s p.1, .int p.2)) := by rw [v_ref, h.d_]
theorem Pst.pla (h : Pst hd s eA hA dA o lines ls sv R kE kH hs op first) (hw : ∀ r ∈ R, r.wfa cs) (hl : R.length ≤ 1000) : PlA hd (.ref s) (plF lines ls sv R (.ref eA) (.ref hA) (.ref dA) first) cs R :=
  ⟨h.vs, rfl, hw, hl, fun m hm => by
    simp only [List.mem_cons, List.not_mem_nil, or_false] at hm
    rcases hm with rfl | rfl | rfl | rfl | rfl | rfl | rfl | rfl | rfl <;> rfl⟩
theorem Pst.op' (h : Pst hd s eA hA dA o lines ls sv R kE kH hs op first) (dj : Dis s eA hA dA o) (op' : List Nat) : Pst (put hd o (.lst (nsD op'))) s eA hA dA o lines ls sv R kE kH hs op' first :=
  ⟨(put_ne dj.a4).trans h.s_, (put_ne dj.a7).trans h.e_, (put_ne dj.a9).trans h.h_, (put_ne dj.a0).trans h.d_, put_same⟩
theorem Pst.eh' (h : Pst hd s eA hA dA o lines ls sv R kE kH hs op first) (dj : Dis s eA hA dA o) (kE' kH' : List (DK × D)) (op' : List Nat) : Pst (put (put (put hd eA (.dic kE')) hA (.dic kH')) o (.lst (nsD op'))) s eA hA dA o lines ls sv R kE' kH' hs op' first :=
  ⟨by rw [put_ne dj.a4, put_ne dj.a2, put_ne dj.a1]; exact h.s_, by rw [put_ne dj.a7, put_ne dj.a5, put_same], by rw [put_ne dj.a9, put_same], by rw [put_ne dj.a0, put_ne (Ne.symm dj.a8), put_ne (Ne.symm dj.a6)]; exact h.d_, put_same⟩
end
end
end LK15
set_option Elab.async false
set_option linter.all false
set_option maxRecDepth 100000
set_option maxHeartbeats 4000000
namespace LK15
open PySem PySem.Spec PyProof.Rows L2 DL
section
variable {K : PySem.W.Frag}
section
variable {hd : Hd} {s eA hA dA o : Addr} {lines ls sv : List Tx} {R : List Rw} {kE kH : List (DK × D)} {hs : List (Tx × Nat)} {op : List Nat} {first : Nat} {cs : List (Tx × Nat)}
abbrev hsD (hs : List (Tx × Nat)) : List (DK × D) := hs.map fun p => (.s p.1, .int p.2)
theorem ahead_ok {n k : Nat} {p : Tx} {Q : EV → Hd → Prop} (h : Pst hd s eA hA dA o lines ls sv R kE kH hs op first) (hp : dget (hsD hs) (.s p) = some (.int k)) (hk : k ∉ op) (kk : Q (.v (.bl true)) hd) :
    gam (M.tb K) M.pg (n + 1) 12 [.ref s, .str p, .ref o] hd Q := by
  refine gam_at p12 rfl ?_
  unfold f12
  simp
  have a6 : fget (plF lines ls sv R (.ref eA) (.ref hA) (.ref dA) first) 6 = some (.ref dA) := rfl
  rw [o_attr h.vs na6 a6]
  simp only [d_v]
  rw [in_dic h.vd, hp]
  simp
  rw [o_attr h.vs na6 a6]
  simp
  rw [ix_dicS h.vd hp]
  simp
  rw [in_ints h.vo]
  simp [hk]
  exact ⟨hd, Sub.refl _, kk⟩
/-- what stands on top -/
def TopIs (R : List Rw) (op : List Nat) (tp : Tx) : Prop := (op = [] ∧ tp = []) ∨ ∃ ops k r, op = ops ++ [k] ∧ 1 ≤ k ∧ R[k - 1]? = some r ∧ tp = r.kd
abbrev topE : IE := .ife (.op .ne (.cons false (.var 3) (.cons false (.lit (.lst [])) .nil))) (.var 0) (.var 0)
theorem in_el {hd : Hd} {w : Tx} {Q : EV → Hd → Prop} : oIn false hd [.str w, .tup [.str [101, 105, 116, 104, 101, 114], .str [108, 111, 111, 112]]] Q = Q (.v (.bl (decide (w = tEither) || decide (w = tLoop)))) hd := by
  have e : D.tup [.str [101, 105, 116, 104, 101, 114], .str [108, 111, 111, 112]] = .tup ([tEither, tLoop].map .str) := rfl
  rw [e, in_tup]; simp
theorem in_olp {hd : Hd} {w : Tx} {Q : EV → Hd → Prop} : oIn true hd [.str w, .tup [.str [111, 114], .str [108, 111, 111, 112], .str [112, 97, 114, 116]]] Q = Q (.v (.bl (!(decide (w = tOr) || (decide (w = tLoop) || decide (w = tPart)))))) hd := by
  have e : D.tup [.str [111, 114], .str [108, 111, 111, 112], .str [112, 97, 114, 116]] = .tup ([tOr, tLoop, tPart].map .str) := rfl
  rw [e, in_tup]; simp
abbrev plBody : ISs := match f11.body with
  | .cons _ r => r
  | _ => .nil
theorem placed_top {n : Nat} {at_ : Nat} {a : D} {tp : Tx} {Q : EV → Hd → Prop} (h : Pst hd s eA hA dA o lines ls sv R kE kH hs op first) (hw : ∀ r ∈ R, r.wfa cs) (ht : TopIs R op tp)
    (k : wpSs (M.tb K) M.pg (gam (M.tb K) M.pg n) plBody { nx := fun _ hd' => ∃ h2, Sub h2 hd' ∧ Q (.v .non) h2, rt := fun ev hd' => ∃ h2, Sub h2 hd' ∧ Q ev h2, bk := fun _ _ => False, ct := fun _ _ => False } [some (.ref s), some (.int at_), some a, some (.ref o), some (.str tp), none] hd) :
    gam (M.tb K) M.pg (n + 1) 11 [.ref s, .int at_, a, .ref o] hd Q := by
  refine gam_at p11 rfl ?_
  have eb : f11.body = .cons (.asg false (.nm 4) (.ife (.op .ne (.cons false (.var 3) (.cons false (.op .lst .nil) .nil))) (.op .idx (.cons false (.op .idx (.cons false (.op (.attr 8) (.cons false (.var 0) .nil)) (.cons false (.op .sub (.cons false (.op .idx (.cons false (.var 3) (.cons false (.op .neg (.cons false (.lit (.int 1)) .nil)) .nil))) (.cons false (.lit (.int 1)) .nil))) .nil))) (.cons false (.lit (.int 0)) .nil))) (.lit (.str [])))) plBody := rfl
  rw [eb]
  have a8 : fget (plF lines ls sv R (.ref eA) (.ref hA) (.ref dA) first) 8 = some (.lst (R.map Rw.act)) := rfl
  simp [-s_ife]
  rw [eq_nil_int h.vo]
  rcases ht with ⟨e1, e2⟩ | ⟨ops, kk, r, e1, e2, e3, e4⟩
  · subst e1 e2
    simp [-s_ife]
    exact k
  · subst e1 e4
    have v2 : view hd (.ref o) = .lst (nsD ops ++ [.int kk]) := by rw [h.vo]; simp [nsD]
    simp [-s_ife]
    rw [o_attr h.vs na8 a8]
    simp [-s_ife, ix_lst v2, at_last, cAll]
    have e5 : ((kk : Int) - 1) = ((kk - 1 : Nat) : Int) := by omega
    have e6 : (R.map Rw.act)[kk - 1]? = some r.act := by rw [List.getElem?_map, e3]; rfl
    rw [e5, at_get e6]
    simp [-s_ife]
    rw [at_kd (hw r (List.mem_of_getElem? e3))]
    have e7 : (ops ++ [kk]).isEmpty = false := by simp
    rw [e7]
    exact k
theorem placed_quiet {n : Nat} {at_ : Nat} {r : Rw} {tp : Tx} {Q : EV → Hd → Prop} (h : Pst hd s eA hA dA o lines ls sv R kE kH hs op first) (hw : ∀ r ∈ R, r.wfa cs) (ht : TopIs R op tp) (hr : r.wfa cs)
    (h1 : (decide (r.kd = tEither) || decide (r.kd = tLoop)) = false) (h2 : r.kd ≠ tOr) (h3 : r.kd ≠ tEnd) (h4 : r.kd ≠ tDo) (k : Q (.v (.bl true)) hd) :
    gam (M.tb K) M.pg (n + 1) 11 [.ref s, .int at_, r.act, .ref o] hd Q := by
  refine placed_top h hw ht ?_
  have h2' : ¬ r.kd = [111, 114] := h2
  have h3' : ¬ r.kd = [101, 110, 100] := h3
  have h4' : ¬ r.kd = [100, 111] := h4
  simp [plBody, f11, at_kd hr, in_el, h1, oeq_str, h2', h3', h4']
  exact ⟨hd, Sub.refl _, k⟩
theorem placed_do {n : Nat} {at_ j : Nat} {p : Tx} {tp : Tx} {Q : EV → Hd → Prop} (h : Pst hd s eA hA dA o lines ls sv R kE kH hs op first) (hw : ∀ r ∈ R, r.wfa cs) (ht : TopIs R op tp)
    (hp : dget (hsD hs) (.s p) = some (.int j)) (hj : j ∉ op) (k : Q (.v (.bl true)) hd) :
    gam (M.tb K) M.pg (n + 2) 11 [.ref s, .int at_, (Rw.doo p).act, .ref o] hd Q := by
  refine placed_top h hw ht ?_
  have hv := h.vs
  simp [plBody, f11, Rw.act, atI, ixN, in_el, oeq_str, hv]
  have e : M.pg.me 0 13 = some 12 := rfl
  rw [e]
  simp
  refine ⟨rfl, ahead_ok h hp hj ?_⟩
  exact ⟨hd, Sub.refl _, k⟩
/-- no part's row -/
def npk (R : List Rw) (k : Nat) : Bool := match R[k - 1]? with
  | some r => decide (r.kd ≠ tPart)
  | none => false
def InR (R : List Rw) (op : List Nat) : Prop := ∀ k ∈ op, 1 ≤ k ∧ ∃ r, R[k - 1]? = some r
theorem nsD_snoc {op : List Nat} {k : Nat} : nsD op ++ [.int k] = nsD (op ++ [k]) := by simp [nsD]
theorem placed_open {n : Nat} {at_ : Nat} {r : Rw} {tp : Tx} {Q : EV → Hd → Prop} (dj : Dis s eA hA dA o) (h : Pst hd s eA hA dA o lines ls sv R kE kH hs op first) (hw : ∀ r ∈ R, r.wfa cs) (ht : TopIs R op tp) (hr : r.wfa cs)
    (h1 : (decide (r.kd = tEither) || decide (r.kd = tLoop)) = true) (hin : InR R (op ++ [at_])) (hlen : op.length ≤ 1000) (hcnt : ((op ++ [at_]).filter (npk R)).length ≤ 6)
    (k : Q (.v (.bl true)) (put hd o (.lst (nsD (op ++ [at_]))))) :
    gam (M.tb K) M.pg (n + 1) 11 [.ref s, .int at_, r.act, .ref o] hd Q := by
  refine placed_top h hw ht ?_
  simp [plBody, f11, at_kd hr, in_el, h1]
  refine ⟨tg_lst h.vo, ?_⟩
  rw [app_put h.o_, nsD_snoc]
  have h2 := h.op' dj (op ++ [at_])
  have gd := gd_of h2.vo (Sub.refl _)
  simp [walk_lst h2.vo]
  refine ⟨by simp [nsD]; omega, by simp [nsD]; omega, ?_⟩
  have a8 : fget (plF lines ls sv R (.ref eA) (.ref hA) (.ref dA) first) 8 = some (.lst (R.map Rw.act)) := rfl
  refine turns_fm (hd := put hd o (.lst (nsD (op ++ [at_])))) (fun (k : Nat) => .int (k : Int)) (fun k => if npk R k then some (.int (k : Int)) else none) gd (op ++ [at_]) [] (fun k hk K hK => ?_) ?_
  · obtain ⟨k1, r', k2⟩ := hin k hk
    have e5 : ((k : Int) - 1) = ((k - 1 : Nat) : Int) := by omega
    have e6 : (R.map Rw.act)[k - 1]? = some r'.act := by rw [List.getElem?_map, k2]; rfl
    rw [o_attr h2.vs na8 a8]
    simp [cAll]
    rw [e5, at_get e6]
    simp
    rw [at_kd (hw r' (List.mem_of_getElem? k2))]
    simp [oeq_str]
    have e7 : npk R k = decide (r'.kd ≠ tPart) := by unfold npk; rw [k2]
    rw [e7] at hK
    by_cases e8 : r'.kd = tPart
    · simp [e8] at hK ⊢; exact hK
    · have e9 : ¬ r'.kd = [112, 97, 114, 116] := e8
      simp [e9] at hK ⊢; exact hK
  · have e : ∀ L : List Nat, (L.filterMap fun k => if npk R k then some (D.int (k : Int)) else none) = nsD (L.filter (npk R)) := by
      intro L
      induction L with
      | nil => rfl
      | cons w L ih =>
        cases e : npk R w with
        | true => rw [List.filterMap_cons_some (by rw [e]; rfl), List.filter_cons_of_pos e, ih]; rfl
        | false => rw [List.filterMap_cons_none (by rw [e]; rfl), List.filter_cons_of_neg (by rw [e]; simp), ih]
    rw [e, List.nil_append]
    have e2 : decide (((nsD ((op ++ [at_]).filter (npk R))).length : Int) ≤ 6) = true := by
      unfold nsD; rw [List.length_map, decide_eq_true_eq]; omega
    simp [g7, -List.filter_append, e2]
    exact ⟨_, Sub.refl _, k⟩
/-- what a row that closes leaves -/
theorem placed_or {n : Nat} {at_ j : Nat} {ops : List Nat} {r : Rw} {Q : EV → Hd → Prop} (dj : Dis s eA hA dA o) (h : Pst hd s eA hA dA o lines ls sv R kE kH hs (ops ++ [j]) first) (hw : ∀ r ∈ R, r.wfa cs) (ht : TopIs R (ops ++ [j]) tEither) (hr : r.wfa cs)
    (h1 : r.kd = tOr) (hl1 : kE.length ≤ 1000) (hl2 : kH.length ≤ 1000)
    (k : Q (.v (.bl true)) (put (put (put hd eA (.dic (dput kE (.i j) (.int at_)))) hA (.dic (dput kH (.i at_) (.int j)))) o (.lst (nsD (ops ++ [at_]))))) :
    gam (M.tb K) M.pg (n + 1) 11 [.ref s, .int at_, r.act, .ref o] hd Q := by
  refine placed_top h hw ht ?_
  have a4 : fget (plF lines ls sv R (.ref eA) (.ref hA) (.ref dA) first) 4 = some (.ref eA) := rfl
  have a5 : fget (plF lines ls sv R (.ref eA) (.ref hA) (.ref dA) first) 5 = some (.ref hA) := rfl
  have v2 : view hd (.ref o) = .lst (nsD ops ++ [.int j]) := by rw [h.vo]; simp [nsD]
  simp [plBody, f11, at_kd hr, in_el, h1, oeq_str]
  rw [o_attr h.vs na4 a4]
  simp
  rw [ix_lst v2, at_last]
  simp
  rw [set_dicI h.e_]
  refine ⟨by omega, ?_⟩
  have v3 : view (put hd eA (.dic (dput kE (.i j) (.int at_)))) (.ref s) = .obj 0 (plF lines ls sv R (.ref eA) (.ref hA) (.ref dA) first) := by rw [v_ref, put_ne dj.a1, h.s_]
  have v4 : view (put hd eA (.dic (dput kE (.i j) (.int at_)))) (.ref o) = .lst (nsD ops ++ [.int j]) := by rw [v_ref, put_ne (Ne.symm dj.a7), h.o_]; simp [nsD]
  rw [ix_lst v4, at_last]
  simp
  rw [o_attr v3 na5 a5]
  simp
  rw [set_dicI ((put_ne (Ne.symm dj.a5)).trans h.h_)]
  refine ⟨by omega, ?_⟩
  have v5 : put (put hd eA (.dic (dput kE (.i j) (.int at_)))) hA (.dic (dput kH (.i at_) (.int j))) o = some (.lst (nsD ops ++ [.int j])) := by
    rw [put_ne (Ne.symm dj.a9), put_ne (Ne.symm dj.a7), h.o_]; simp [nsD]
  rw [set_lst v5, ixN_last]
  have e : (nsD ops ++ [D.int j]).set (nsD ops).length (.int at_) = nsD (ops ++ [at_]) := by
    rw [List.set_append_right _ _ (Nat.le_refl _)]; simp [nsD]
  simp [e, at_kd hr, h1, oeq_str]
  exact ⟨_, Sub.refl _, k⟩
theorem placed_end {n : Nat} {at_ j : Nat} {ops : List Nat} {r : Rw} {tp : Tx} {Q : EV → Hd → Prop} (dj : Dis s eA hA dA o) (h : Pst hd s eA hA dA o lines ls sv R kE kH hs (ops ++ [j]) first) (hw : ∀ r ∈ R, r.wfa cs) (ht : TopIs R (ops ++ [j]) tp) (htp : (decide (tp = tOr) || (decide (tp = tLoop) || decide (tp = tPart))) = true) (hr : r.wfa cs)
    (h1 : r.kd = tEnd) (hl1 : kE.length ≤ 1000) (hl2 : kH.length ≤ 1000)
    (k : Q (.v (.bl true)) (put (put (put hd eA (.dic (dput kE (.i j) (.int at_)))) hA (.dic (dput kH (.i at_) (.int j)))) o (.lst (nsD ops)))) :
    gam (M.tb K) M.pg (n + 1) 11 [.ref s, .int at_, r.act, .ref o] hd Q := by
  refine placed_top h hw ht ?_
  have a4 : fget (plF lines ls sv R (.ref eA) (.ref hA) (.ref dA) first) 4 = some (.ref eA) := rfl
  have a5 : fget (plF lines ls sv R (.ref eA) (.ref hA) (.ref dA) first) 5 = some (.ref hA) := rfl
  have v2 : view hd (.ref o) = .lst (nsD ops ++ [.int j]) := by rw [h.vo]; simp [nsD]
  simp [plBody, f11, at_kd hr, in_el, h1, oeq_str, in_olp, htp]
  rw [o_attr h.vs na4 a4]
  simp
  rw [ix_lst v2, at_last]
  simp
  rw [set_dicI h.e_]
  refine ⟨by omega, ?_⟩
  have v3 : view (put hd eA (.dic (dput kE (.i j) (.int at_)))) (.ref s) = .obj 0 (plF lines ls sv R (.ref eA) (.ref hA) (.ref dA) first) := by rw [v_ref, put_ne dj.a1, h.s_]
  have v4 : view (put hd eA (.dic (dput kE (.i j) (.int at_)))) (.ref o) = .lst (nsD ops ++ [.int j]) := by rw [v_ref, put_ne (Ne.symm dj.a7), h.o_]; simp [nsD]
  rw [ix_lst v4, at_last]
  simp
  rw [o_attr v3 na5 a5]
  simp
  rw [set_dicI ((put_ne (Ne.symm dj.a5)).trans h.h_)]
  refine ⟨by omega, ?_⟩
  have v5 : put (put hd eA (.dic (dput kE (.i j) (.int at_)))) hA (.dic (dput kH (.i at_) (.int j))) o = some (.lst (nsD ops ++ [.int j])) := by
    rw [put_ne (Ne.symm dj.a9), put_ne (Ne.symm dj.a7), h.o_]; simp [nsD]
  have v6 : view (put (put hd eA (.dic (dput kE (.i j) (.int at_)))) hA (.dic (dput kH (.i at_) (.int j)))) (.ref o) = .lst (nsD ops ++ [.int j]) := by rw [v_ref, v5]
  refine ⟨tg_lst v6, ?_⟩
  rw [pop_last v5]
  exact ⟨_, Sub.refl _, k⟩
end
end
end LK15
set_option Elab.async false
set_option linter.all false
set_option maxRecDepth 100000
set_option maxHeartbeats 400000
namespace LK15
open PySem PySem.Spec PyProof.Rows L2 DL
theorem rngD_succ {lo : Int} {n : Nat} : rngD lo (n + 1) = .int lo :: rngD (lo + 1) n := by
  unfold rngD
  rw [List.range_succ_eq_map, List.map_cons, List.map_map]
  congr 1
  · simp
  · congr 1
    funext k
    simp; omega
mutual
def itR (a : Nat) : It → List Rw
  | .lp b => [.lp (a + 1 + b.rows)] ++ bkR (a + 1) b ++ [.lpE a]
  | .ei x y => [.ei (a + 1 + x.rows)] ++ bkR (a + 1) x ++ [.orr a (a + 1 + x.rows + 1 + y.rows)] ++ bkR (a + 1 + x.rows + 1) y ++ [.eiE (a + 1 + x.rows)]
  | .doo p => [.doo p]
  | .read l => [.asg (.read l)]
  | .copy l r => [.asg (.copy l r)]
  | .call l f as => [.asg (.call l f as)]
def bkR (a : Nat) : Bk → List Rw
  | .nil => []
  | .cons i r => itR a i ++ bkR (a + i.rows) r
end
mutual
theorem itR_len : ∀ (i : It) (a : Nat), (itR a i).length = i.rows
  | .lp b, a => by unfold itR It.rows; simp [bkR_len b]
  | .ei x y, a => by unfold itR It.rows; simp [bkR_len x, bkR_len y]; omega
  | .doo p, a => by unfold itR It.rows; rfl
  | .read l, a => by unfold itR It.rows; rfl
  | .copy l r, a => by unfold itR It.rows; rfl
  | .call l f as, a => by unfold itR It.rows; rfl
theorem bkR_len : ∀ (b : Bk) (a : Nat), (bkR a b).length = b.rows
  | .nil, a => rfl
  | .cons i r, a => by unfold bkR Bk.rows; rw [List.length_append, itR_len i, bkR_len r]
end
mutual
def itE (a : Nat) : It → List (DK × D) → List (DK × D)
  | .lp b, k => dput (bkE (a + 1) b k) (.i a) (.int ((a + 1 + b.rows : Nat) : Int))
  | .ei x y, k => dput (bkE (a + 1 + x.rows + 1) y (dput (bkE (a + 1) x k) (.i a) (.int ((a + 1 + x.rows : Nat) : Int)))) (.i ((a + 1 + x.rows : Nat) : Int)) (.int ((a + 1 + x.rows + 1 + y.rows : Nat) : Int))
  | _, k => k
def bkE (a : Nat) : Bk → List (DK × D) → List (DK × D)
  | .nil, k => k
  | .cons i r, k => bkE (a + i.rows) r (itE a i k)
end
mutual
def itH (a : Nat) : It → List (DK × D) → List (DK × D)
  | .lp b, k => dput (bkH (a + 1) b k) (.i ((a + 1 + b.rows : Nat) : Int)) (.int a)
  | .ei x y, k => dput (bkH (a + 1 + x.rows + 1) y (dput (bkH (a + 1) x k) (.i ((a + 1 + x.rows : Nat) : Int)) (.int a))) (.i ((a + 1 + x.rows + 1 + y.rows : Nat) : Int)) (.int ((a + 1 + x.rows : Nat) : Int))
  | _, k => k
def bkH (a : Nat) : Bk → List (DK × D) → List (DK × D)
  | .nil, k => k
  | .cons i r, k => bkH (a + i.rows) r (itH a i k)
end
mutual
theorem itE_len : ∀ (i : It) (a : Nat) (k : List (DK × D)), (itE a i k).length ≤ k.length + i.rows
  | .lp b, a, k => by
    have h := bkE_len b (a + 1) k
    unfold itE It.rows
    refine Nat.le_trans dput_len ?_
    omega
  | .ei x y, a, k => by
    have h := bkE_len x (a + 1) k
    have h1 := dput_len (kvs := bkE (a + 1) x k) (k := .i a) (v := .int ((a + 1 + x.rows : Nat) : Int))
    have h2 := bkE_len y (a + 1 + x.rows + 1) (dput (bkE (a + 1) x k) (.i a) (.int ((a + 1 + x.rows : Nat) : Int)))
    unfold itE It.rows
    refine Nat.le_trans dput_len ?_
    omega
  | .doo p, a, k => by unfold itE; omega
  | .read l, a, k => by unfold itE; omega
  | .copy l r, a, k => by unfold itE; omega
  | .call l f as, a, k => by unfold itE; omega
theorem bkE_len : ∀ (b : Bk) (a : Nat) (k : List (DK × D)), (bkE a b k).length ≤ k.length + b.rows
  | .nil, a, k => by unfold bkE; omega
  | .cons i r, a, k => by
    have h := itE_len i a k
    have h1 := bkE_len r (a + i.rows) (itE a i k)
    unfold bkE Bk.rows
    omega
end
mutual
theorem itH_len : ∀ (i : It) (a : Nat) (k : List (DK × D)), (itH a i k).length ≤ k.length + i.rows
  | .lp b, a, k => by
    have h := bkH_len b (a + 1) k
    unfold itH It.rows
    refine Nat.le_trans dput_len ?_
    omega
  | .ei x y, a, k => by
    have h := bkH_len x (a + 1) k
    have h1 := dput_len (kvs := bkH (a + 1) x k) (k := .i ((a + 1 + x.rows : Nat) : Int)) (v := .int a)
    have h2 := bkH_len y (a + 1 + x.rows + 1) (dput (bkH (a + 1) x k) (.i ((a + 1 + x.rows : Nat) : Int)) (.int a))
    unfold itH It.rows
    refine Nat.le_trans dput_len ?_
    omega
  | .doo p, a, k => by unfold itH; omega
  | .read l, a, k => by unfold itH; omega
  | .copy l r, a, k => by unfold itH; omega
  | .call l f as, a, k => by unfold itH; omega
theorem bkH_len : ∀ (b : Bk) (a : Nat) (k : List (DK × D)), (bkH a b k).length ≤ k.length + b.rows
  | .nil, a, k => by unfold bkH; omega
  | .cons i r, a, k => by
    have h := itH_len i a k
    have h1 := bkH_len r (a + i.rows) (itH a i k)
    unfold bkH Bk.rows
    omega
end
/-- rows of R from a on -/
def Has (R : List Rw) (a : Nat) (L : List Rw) : Prop := ∀ j r, L[j]? = some r → R[a - 1 + j]? = some r
theorem Has.left {R L L' : List Rw} {a : Nat} (h : Has R a (L ++ L')) : Has R a L := fun j r e => h j r (by
  have hj : j < L.length := (List.getElem?_eq_some_iff.mp e).1
  rw [List.getElem?_append_left hj]; exact e)
theorem Has.right {R L L' : List Rw} {a : Nat} (ha : 1 ≤ a) (h : Has R a (L ++ L')) : Has R (a + L.length) L' := fun j r e => by
  have := h (L.length + j) r (by rw [List.getElem?_append_right (by omega)]; simpa using e)
  have e2 : a - 1 + (L.length + j) = a + L.length - 1 + j := by omega
  rw [← e2]; exact this
theorem Has.one {R : List Rw} {r : Rw} {a : Nat} (h : Has R a [r]) : R[a - 1]? = some r := h 0 r rfl
section
variable {K : PySem.W.Frag}
section
variable {hd0 hd : Hd} {s eA hA dA o : Addr} {lines ls sv : List Tx} {R : List Rw} {kE kH : List (DK × D)} {hs : List (Tx × Nat)} {op : List Nat} {first : Nat} {cs : List (Tx × Nat)}
def Frm (hd hd' : Hd) (s eA hA dA o : Addr) : Prop := ∀ x, x ≠ s → x ≠ eA → x ≠ hA → x ≠ dA → x ≠ o → hd' x = hd x
abbrev ldBody : ISs := match f10.body with
  | .cons _ (.cons (.for_ _ _ b) _) => b
  | _ => .nil
def nf (op : List Nat) (first a : Nat) : Nat := if op.isEmpty && decide (first = 0) then a else first
theorem nf_id {op : List Nat} {first a : Nat} (h : op ≠ [] ∨ first ≠ 0) : nf op first a = first := by
  unfold nf
  rcases h with h | h
  · cases op with
    | nil => exact absurd rfl h
    | cons => rfl
  · simp [h]
theorem Pst.first' (h : Pst hd s eA hA dA o lines ls sv R kE kH hs op first) (dj : Dis s eA hA dA o) (f : Nat) : Pst (put hd s (.ins 0 (plF lines ls sv R (.ref eA) (.ref hA) (.ref dA) f))) s eA hA dA o lines ls sv R kE kH hs op f :=
  ⟨put_same, (put_ne (Ne.symm dj.a1)).trans h.e_, (put_ne (Ne.symm dj.a2)).trans h.h_, (put_ne (Ne.symm dj.a3)).trans h.d_, (put_ne (Ne.symm dj.a4)).trans h.o_⟩
/-- a row that is no part's, in the loop -/
theorem np_step {n a : Nat} {r : Rw} {E : DEn} {y4 : Option D} {kE' kH' : List (DK × D)} {op' : List Nat} (dj : Dis s eA hA dA o) (hw : ∀ r ∈ R, r.wfa cs) (ha : 1 ≤ a) (hr : R[a - 1]? = some r) (hk : r.kd ≠ tPart) (h : Pst hd s eA hA dA o lines ls sv R kE kH hs op first) (fr : Frm hd0 hd s eA hA dA o)
    (pl : ∀ (hd1 : Hd) (Q : EV → Hd → Prop), Pst hd1 s eA hA dA o lines ls sv R kE kH hs op (nf op first a) → (∀ hd2, Pst hd2 s eA hA dA o lines ls sv R kE' kH' hs op' (nf op first a) → Frm hd1 hd2 s eA hA dA o → Q (.v (.bl true)) hd2) → gam (M.tb K) M.pg n 11 [.ref s, .int a, r.act, .ref o] hd1 Q)
    (k : ∀ hd2, Pst hd2 s eA hA dA o lines ls sv R kE' kH' hs op' (nf op first a) → Frm hd0 hd2 s eA hA dA o → E.nx [some (.ref s), some (.ref o), some (.int a), none, some r.act, none] hd2) :
    wpSs (M.tb K) M.pg (gam (M.tb K) M.pg n) ldBody E [some (.ref s), some (.ref o), some (.int a), none, y4, none] hd := by
  have a8 : fget (plF lines ls sv R (.ref eA) (.ref hA) (.ref dA) first) 8 = some (.lst (R.map Rw.act)) := rfl
  have a7 : fget (plF lines ls sv R (.ref eA) (.ref hA) (.ref dA) first) 7 = some (.int first) := rfl
  have e5 : ((a : Int) - 1) = ((a - 1 : Nat) : Int) := by omega
  have e6 : (R.map Rw.act)[a - 1]? = some r.act := by rw [List.getElem?_map, hr]; rfl
  have hrw := hw r (List.mem_of_getElem? hr)
  have hk' : ¬ r.kd = [112, 97, 114, 116] := hk
  have fin : ∀ hd1 : Hd, Pst hd1 s eA hA dA o lines ls sv R kE kH hs op (nf op first a) → Frm hd hd1 s eA hA dA o → gam (M.tb K) M.pg n 11 [.ref s, .int a, r.act, .ref o] hd1 fun ev hd2 => match truth hd2 ev.d with
      | some b => match !b with
        | true => E.rt (.v (.bl false)) hd2
        | false => E.nx [some (.ref s), some (.ref o), some (.int a), none, some r.act, none] hd2
      | none => False := fun hd1 h1 f1 => pl hd1 _ h1 fun hd2 h2 f2 => k hd2 h2 fun x x1 x2 x3 x4 x5 => (f2 x x1 x2 x3 x4 x5).trans ((f1 x x1 x2 x3 x4 x5).trans (fr x x1 x2 x3 x4 x5))
  simp [-s_ife, ldBody, f10]
  rw [o_attr h.vs na8 a8]
  simp [-s_ife, cAll]
  rw [e5, at_get e6]
  simp [at_kd hrw, oeq_str, hk']
  rw [eq_nil_int h.vo]
  have pt : fget (plF lines ls sv R (.ref eA) (.ref hA) (.ref dA) (nf op first a)) 12 = none := rfl
  have me12 : M.pg.me 0 12 = some 11 := rfl
  have go : ∀ hd1 : Hd, Pst hd1 s eA hA dA o lines ls sv R kE kH hs op (nf op first a) → Frm hd hd1 s eA hA dA o → (match view hd1 (.ref s) with
      | .obj c fs => match M.pg.me c 12 with
        | some f => fget fs 12 = none ∧ gam (M.tb K) M.pg n f [.ref s, .int a, r.act, .ref o] hd1 fun ev hd1 => match truth hd1 ev.d with
          | some b => match !b with
            | true => E.rt (.v (.bl false)) hd1
            | false => E.nx [some (.ref s), some (.ref o), some (.int a), none, some r.act, none] hd1
          | none => False
        | none => False
      | _ => False) := fun hd1 h1 f1 => by
    rw [h1.vs]
    simp only [me12]
    exact ⟨rfl, fin hd1 h1 f1⟩
  by_cases c1 : op = []
  · subst c1
    simp
    rw [o_attr h.vs na7 a7]
    simp [oeq_int]
    by_cases c2 : first = 0
    · subst c2
      have h2 := h.first' dj a
      have e0 : (((0 : Nat) : Int) == 0) = true := by decide
      rw [e0]
      simp only
      rw [set_at_ h.s_]
      refine ⟨rfl, by simp [plF], ?_⟩
      exact go _ h2 fun x x1 x2 x3 x4 x5 => put_ne x1
    · have e0 : ((first : Int) == 0) = false := by simp; omega
      rw [e0]
      have e1 : nf [] first a = first := nf_id (.inr c2)
      rw [e1] at go
      exact go hd h fun x _ _ _ _ _ => rfl
  · have c3 : op.isEmpty = false := by cases op with
      | nil => exact absurd rfl c1
      | cons => rfl
    simp [c3]
    have e1 : nf op first a = first := nf_id (.inl c1)
    rw [e1] at go
    exact go hd h fun x _ _ _ _ _ => rfl
/-- the loop from row a on, m rows: it goes on from this state -/
def Gs (K : PySem.W.Frag) (hd0 : Hd) (s eA hA dA o : Addr) (lines ls sv : List Tx) (R : List Rw) (n : Nat) (E : DEn) (a m : Nat) (kE kH : List (DK × D)) (hs : List (Tx × Nat)) (op : List Nat) (first : Nat) : Prop :=
  ∀ (hd : Hd) (y2 y4 : Option D), Pst hd s eA hA dA o lines ls sv R kE kH hs op first → Frm hd0 hd s eA hA dA o → loop (.nm 2) none E (wpSs (M.tb K) M.pg (gam (M.tb K) M.pg n) ldBody) (rngD a m) [some (.ref s), some (.ref o), y2, none, y4, none] hd
theorem gs_row {n a m : Nat} {r : Rw} {E : DEn} {kE' kH' : List (DK × D)} {op' : List Nat} (dj : Dis s eA hA dA o) (hw : ∀ r ∈ R, r.wfa cs) (ha : 1 ≤ a) (hr : R[a - 1]? = some r) (hk : r.kd ≠ tPart)
    (pl : ∀ (hd1 : Hd) (Q : EV → Hd → Prop), Pst hd1 s eA hA dA o lines ls sv R kE kH hs op (nf op first a) → (∀ hd2, Pst hd2 s eA hA dA o lines ls sv R kE' kH' hs op' (nf op first a) → Frm hd1 hd2 s eA hA dA o → Q (.v (.bl true)) hd2) → gam (M.tb K) M.pg n 11 [.ref s, .int a, r.act, .ref o] hd1 Q)
    (g : Gs K hd0 s eA hA dA o lines ls sv R n E (a + 1) m kE' kH' hs op' (nf op first a)) : Gs K hd0 s eA hA dA o lines ls sv R n E a (m + 1) kE kH hs op first := by
  intro hd y2 y4 h fr
  rw [rngD_succ]
  refine ⟨trivial, ?_⟩
  rw [b_nm]
  refine np_step dj hw ha hr hk h fr pl fun hd2 h2 f2 => ?_
  have e : ((a : Int) + 1) = ((a + 1 : Nat) : Int) := by omega
  rw [e]
  exact g hd2 _ _ h2 f2
theorem top_of {op : List Nat} (h : InR R op) : ∃ tp, TopIs R op tp := by
  rcases List.eq_nil_or_concat op with e | ⟨ops, k, e⟩
  · exact ⟨[], .inl ⟨e, rfl⟩⟩
  · rw [List.concat_eq_append] at e
    obtain ⟨h1, r, h2⟩ := h k (by rw [e]; simp)
    exact ⟨_, .inr ⟨ops, k, r, e, h1, h2, rfl⟩⟩
theorem top_snoc {ops : List Nat} {k : Nat} {r : Rw} (h1 : 1 ≤ k) (h2 : R[k - 1]? = some r) : TopIs R (ops ++ [k]) r.kd := .inr ⟨ops, k, r, rfl, h1, h2, rfl⟩
theorem frm_o {op : List Nat} : Frm hd (put hd o (.lst (nsD op))) s eA hA dA o := fun x _ _ _ _ x5 => put_ne x5
theorem frm_eh {kE kH : List (DK × D)} {op : List Nat} : Frm hd (put (put (put hd eA (.dic kE)) hA (.dic kH)) o (.lst (nsD op))) s eA hA dA o := fun x _ x2 x3 _ x5 => by rw [put_ne x5, put_ne x3, put_ne x2]
/-- the rows of blocks -/
theorem gs_quiet {n a m : Nat} {r : Rw} {E : DEn} (dj : Dis s eA hA dA o) (hw : ∀ r ∈ R, r.wfa cs) (ha : 1 ≤ a) (hr : R[a - 1]? = some r) (hin : InR R op) (hk : r.kd ≠ tPart)
    (h1 : (decide (r.kd = tEither) || decide (r.kd = tLoop)) = false) (h2 : r.kd ≠ tOr) (h3 : r.kd ≠ tEnd) (h4 : r.kd ≠ tDo)
    (g : Gs K hd0 s eA hA dA o lines ls sv R (n + 2) E (a + 1) m kE kH hs op (nf op first a)) : Gs K hd0 s eA hA dA o lines ls sv R (n + 2) E a (m + 1) kE kH hs op first := by
  obtain ⟨tp, ht⟩ := top_of hin
  refine gs_row dj hw ha hr hk (fun hd1 Q p1 kk => ?_) g
  exact placed_quiet p1 hw ht (hw r (List.mem_of_getElem? hr)) h1 h2 h3 h4 (kk hd1 p1 fun _ _ _ _ _ _ => rfl)
theorem gs_open {n a m : Nat} {r : Rw} {E : DEn} (dj : Dis s eA hA dA o) (hw : ∀ r ∈ R, r.wfa cs) (ha : 1 ≤ a) (hr : R[a - 1]? = some r) (hin : InR R op) (hlen : op.length ≤ 1000)
    (h1 : (decide (r.kd = tEither) || decide (r.kd = tLoop)) = true) (hcnt : ((op ++ [a]).filter (npk R)).length ≤ 6)
    (g : Gs K hd0 s eA hA dA o lines ls sv R (n + 2) E (a + 1) m kE kH hs (op ++ [a]) (nf op first a)) : Gs K hd0 s eA hA dA o lines ls sv R (n + 2) E a (m + 1) kE kH hs op first := by
  obtain ⟨tp, ht⟩ := top_of hin
  have hk : r.kd ≠ tPart := fun e => by rw [e] at h1; revert h1; decide
  refine gs_row dj hw ha hr hk (fun hd1 Q p1 kk => ?_) g
  refine placed_open dj p1 hw ht (hw r (List.mem_of_getElem? hr)) h1 (fun k hk => ?_) hlen hcnt (kk _ (p1.op' dj _) frm_o)
  rcases List.mem_append.mp hk with hk | hk
  · exact hin k hk
  · rw [List.mem_singleton.mp hk]; exact ⟨ha, r, hr⟩
theorem gs_or {n a m j : Nat} {ops : List Nat} {r rj : Rw} {E : DEn} (dj : Dis s eA hA dA o) (hw : ∀ r ∈ R, r.wfa cs) (ha : 1 ≤ a) (hr : R[a - 1]? = some r) (hj : 1 ≤ j) (hrj : R[j - 1]? = some rj) (hkj : rj.kd = tEither)
    (h1 : r.kd = tOr) (hl1 : kE.length ≤ 1000) (hl2 : kH.length ≤ 1000)
    (g : Gs K hd0 s eA hA dA o lines ls sv R (n + 2) E (a + 1) m (dput kE (.i j) (.int a)) (dput kH (.i a) (.int j)) hs (ops ++ [a]) first) : Gs K hd0 s eA hA dA o lines ls sv R (n + 2) E a (m + 1) kE kH hs (ops ++ [j]) first := by
  have ht := top_snoc (ops := ops) hj hrj
  rw [hkj] at ht
  have hk : r.kd ≠ tPart := fun e => by rw [e] at h1; revert h1; decide
  have e1 : nf (ops ++ [j]) first a = first := nf_id (.inl (by simp))
  refine gs_row (kE' := dput kE (.i j) (.int a)) (kH' := dput kH (.i a) (.int j)) (op' := ops ++ [a]) dj hw ha hr hk (fun hd1 Q p1 kk => ?_) (by rw [e1]; exact g)
  exact placed_or dj p1 hw ht (hw r (List.mem_of_getElem? hr)) h1 hl1 hl2 (kk _ (p1.eh' dj _ _ _) frm_eh)
theorem gs_end {n a m j : Nat} {ops : List Nat} {r rj : Rw} {E : DEn} (dj : Dis s eA hA dA o) (hw : ∀ r ∈ R, r.wfa cs) (ha : 1 ≤ a) (hr : R[a - 1]? = some r) (hj : 1 ≤ j) (hrj : R[j - 1]? = some rj) (hkj : (decide (rj.kd = tOr) || (decide (rj.kd = tLoop) || decide (rj.kd = tPart))) = true)
    (h1 : r.kd = tEnd) (hl1 : kE.length ≤ 1000) (hl2 : kH.length ≤ 1000)
    (g : Gs K hd0 s eA hA dA o lines ls sv R (n + 2) E (a + 1) m (dput kE (.i j) (.int a)) (dput kH (.i a) (.int j)) hs ops first) : Gs K hd0 s eA hA dA o lines ls sv R (n + 2) E a (m + 1) kE kH hs (ops ++ [j]) first := by
  have ht := top_snoc (ops := ops) hj hrj
  have hk : r.kd ≠ tPart := fun e => by rw [e] at h1; revert h1; decide
  have e1 : nf (ops ++ [j]) first a = first := nf_id (.inl (by simp))
  refine gs_row (kE' := dput kE (.i j) (.int a)) (kH' := dput kH (.i a) (.int j)) (op' := ops) dj hw ha hr hk (fun hd1 Q p1 kk => ?_) (by rw [e1]; exact g)
  exact placed_end dj p1 hw ht hkj (hw r (List.mem_of_getElem? hr)) h1 hl1 hl2 (kk _ (p1.eh' dj _ _ _) frm_eh)
theorem gs_do {n a m j : Nat} {p : Tx} {E : DEn} (dj : Dis s eA hA dA o) (hw : ∀ r ∈ R, r.wfa cs) (ha : 1 ≤ a) (hr : R[a - 1]? = some (.doo p)) (hin : InR R op)
    (hp : dget (hsD hs) (.s p) = some (.int j)) (hj : j ∉ op)
    (g : Gs K hd0 s eA hA dA o lines ls sv R (n + 2) E (a + 1) m kE kH hs op (nf op first a)) : Gs K hd0 s eA hA dA o lines ls sv R (n + 2) E a (m + 1) kE kH hs op first := by
  obtain ⟨tp, ht⟩ := top_of hin
  refine gs_row dj hw ha hr (show (Rw.doo p).kd ≠ tPart from (by show tDo ≠ tPart; decide)) (fun hd1 Q p1 kk => ?_) g
  exact placed_do p1 hw ht hp hj (kk hd1 p1 fun _ _ _ _ _ _ => rfl)
/-- where a block may begin -/
structure Cnd (R : List Rw) (hs : List (Tx × Nat)) (ah : List Tx) (lo : Nat) (op : List Nat) (a d : Nat) : Prop where
  ha : 1 ≤ a
  hin : InR R op
  hlow : ∀ k ∈ op, lo ≤ k
  hlo : lo ≤ a
  hah : ∀ p ∈ ah, ∃ j : Nat, dget (hsD hs) (.s p) = some (.int j) ∧ j < lo
  hd1 : (op.filter (npk R)).length + d ≤ 6
  hd2 : op.length + d ≤ 1000
theorem Cnd.next {ah : List Tx} {lo a d : Nat} (c : Cnd R hs ah lo op a d) (a' : Nat) (h : a ≤ a') : Cnd R hs ah lo op a' d :=
  ⟨by have := c.ha; omega, c.hin, c.hlow, by have := c.hlo; omega, c.hah, c.hd1, c.hd2⟩
theorem Cnd.push {ah : List Tx} {lo a d k : Nat} {r : Rw} (c : Cnd R hs ah lo op a (d + 1)) (hk : a ≤ k) (hr : R[k - 1]? = some r) (a' : Nat) (h : a ≤ a') : Cnd R hs ah lo (op ++ [k]) a' d := by
  have := c.ha
  have := c.hlo
  refine ⟨by omega, fun x hx => ?_, fun x hx => ?_, by omega, c.hah, ?_, ?_⟩
  · rcases List.mem_append.mp hx with hx | hx
    · exact c.hin x hx
    · rw [List.mem_singleton.mp hx]; exact ⟨by omega, r, hr⟩
  · rcases List.mem_append.mp hx with hx | hx
    · exact c.hlow x hx
    · rw [List.mem_singleton.mp hx]; omega
  · have h1 := c.hd1
    rw [List.filter_append, List.length_append]
    have : ([k].filter (npk R)).length ≤ 1 := List.length_filter_le _ _
    omega
  · have h1 := c.hd2
    rw [List.length_append, List.length_singleton]; omega
theorem cnt_push {ah : List Tx} {lo a d k : Nat} (c : Cnd R hs ah lo op a (d + 1)) : ((op ++ [k]).filter (npk R)).length ≤ 6 := by
  have h1 := c.hd1
  rw [List.filter_append, List.length_append]
  have : ([k].filter (npk R)).length ≤ 1 := List.length_filter_le _ _
  omega
def RunI (K : PySem.W.Frag) (hd0 : Hd) (s eA hA dA o : Addr) (lines ls sv : List Tx) (R : List Rw) (n : Nat) (E : DEn) (hs : List (Tx × Nat)) (ah : List Tx) (lo : Nat) (cf : Cfg) (i : It) : Prop := ∀ {a d m : Nat} {op : List Nat} {kE kH : List (DK × D)} {first : Nat}, Cnd R hs ah lo op a d → i.ok cf ah → i.dep d → Has R a (itR a i) → kE.length + i.rows ≤ 1000 → kH.length + i.rows ≤ 1000 →
    Gs K hd0 s eA hA dA o lines ls sv R (n + 2) E (a + i.rows) m (itE a i kE) (itH a i kH) hs op (nf op first a) → Gs K hd0 s eA hA dA o lines ls sv R (n + 2) E a (i.rows + m) kE kH hs op first
def RunB (K : PySem.W.Frag) (hd0 : Hd) (s eA hA dA o : Addr) (lines ls sv : List Tx) (R : List Rw) (n : Nat) (E : DEn) (hs : List (Tx × Nat)) (ah : List Tx) (lo : Nat) (cf : Cfg) (b : Bk) : Prop := ∀ {a d m : Nat} {op : List Nat} {kE kH : List (DK × D)} {first : Nat}, (op ≠ [] ∨ first ≠ 0) → Cnd R hs ah lo op a d → b.ok cf ah → b.dep d → Has R a (bkR a b) → kE.length + b.rows ≤ 1000 → kH.length + b.rows ≤ 1000 →
    Gs K hd0 s eA hA dA o lines ls sv R (n + 2) E (a + b.rows) m (bkE a b kE) (bkH a b kH) hs op first → Gs K hd0 s eA hA dA o lines ls sv R (n + 2) E a (b.rows + m) kE kH hs op first
section
variable {n : Nat} {E : DEn} {ah : List Tx} {lo : Nat} {cf : Cfg}
theorem ri_read (dj : Dis s eA hA dA o) (hw : ∀ r ∈ R, r.wfa cs) {l : Tx}  : RunI K hd0 s eA hA dA o lines ls sv R n E hs ah lo cf (.read l) := by
    intro a d m op kE kH first c ok dp hh h1 h2 g
    unfold It.rows at g ⊢
    rw [Nat.add_comm 1 m]
    unfold itE itH at g
    unfold itR at hh
    have hr := hh.one
    refine gs_quiet dj hw c.ha hr c.hin ?_ ?_ ?_ ?_ ?_ g <;> simp [Rw.kd]
theorem ri_copy (dj : Dis s eA hA dA o) (hw : ∀ r ∈ R, r.wfa cs) {l r : Tx}  : RunI K hd0 s eA hA dA o lines ls sv R n E hs ah lo cf (.copy l r) := by
    intro a d m op kE kH first c ok dp hh h1 h2 g
    unfold It.rows at g ⊢
    rw [Nat.add_comm 1 m]
    unfold itE itH at g
    unfold itR at hh
    have hr := hh.one
    refine gs_quiet dj hw c.ha hr c.hin ?_ ?_ ?_ ?_ ?_ g <;> simp [Rw.kd]
theorem ri_call (dj : Dis s eA hA dA o) (hw : ∀ r ∈ R, r.wfa cs) {l f : Tx} {as : List Tx}  : RunI K hd0 s eA hA dA o lines ls sv R n E hs ah lo cf (.call l f as) := by
    intro a d m op kE kH first c ok dp hh h1 h2 g
    unfold It.rows at g ⊢
    rw [Nat.add_comm 1 m]
    unfold itE itH at g
    unfold itR at hh
    have hr := hh.one
    refine gs_quiet dj hw c.ha hr c.hin ?_ ?_ ?_ ?_ ?_ g <;> simp [Rw.kd]
theorem ri_doo (dj : Dis s eA hA dA o) (hw : ∀ r ∈ R, r.wfa cs) {p : Tx}  : RunI K hd0 s eA hA dA o lines ls sv R n E hs ah lo cf (.doo p) := by
    intro a d m op kE kH first c ok dp hh h1 h2 g
    unfold It.rows at g ⊢
    rw [Nat.add_comm 1 m]
    unfold itE itH at g
    unfold It.ok at ok
    obtain ⟨j, hj1, hj2⟩ := c.hah p ok
    unfold itR at hh
    have hr := hh.one
    exact gs_do dj hw c.ha hr c.hin hj1 (fun z => by have := c.hlow j z; omega) g
theorem ri_lp (dj : Dis s eA hA dA o) (hw : ∀ r ∈ R, r.wfa cs) {b : Bk} (hb : RunB K hd0 s eA hA dA o lines ls sv R n E hs ah lo cf b) : RunI K hd0 s eA hA dA o lines ls sv R n E hs ah lo cf (.lp b) := by
    intro a d m op kE kH first c ok dp hh h1 h2 g
    unfold It.ok at ok
    unfold It.dep at dp
    unfold itR at hh
    obtain ⟨d', rfl⟩ : ∃ d', d = d' + 1 := ⟨d - 1, by omega⟩
    have ha := c.ha
    have r1 := hh.left.left.one
    have r2 := hh.left.right ha
    have r3 := (hh.right ha).one
    simp only [List.length_append, List.length_singleton, bkR_len] at r2 r3
    have e3 : a + (1 + b.rows) - 1 = a + 1 + b.rows - 1 := by omega
    rw [e3] at r3
    unfold It.rows at h1 h2 g ⊢
    have e4 : b.rows + 2 + m = b.rows + (m + 1) + 1 := by omega
    rw [e4]
    have hl := c.hd2
    refine gs_open dj hw ha r1 c.hin (by omega) rfl (cnt_push c) ?_
    have nn : ∀ x, nf (op ++ [a]) (nf op first a) x = nf op first a := fun x => nf_id (.inl (by simp))
    have l1 := bkE_len b (a + 1) kE
    have l2 := bkH_len b (a + 1) kH
    refine hb (.inl (by simp)) (c.push (Nat.le_refl _) r1 (a + 1) (by omega)) ok dp.2 r2 (by omega) (by omega) ?_
    refine gs_end dj hw (by omega) r3 ha r1 rfl rfl (by omega) (by omega) ?_
    unfold itE itH at g
    have e5 : a + (b.rows + 2) = a + 1 + b.rows + 1 := by omega
    rw [e5] at g
    exact g
theorem ri_ei (dj : Dis s eA hA dA o) (hw : ∀ r ∈ R, r.wfa cs) {x y : Bk} (hx : RunB K hd0 s eA hA dA o lines ls sv R n E hs ah lo cf x) (hy : RunB K hd0 s eA hA dA o lines ls sv R n E hs ah lo cf y) : RunI K hd0 s eA hA dA o lines ls sv R n E hs ah lo cf (.ei x y) := by
    intro a d m op kE kH first c ok dp hh h1 h2 g
    unfold It.ok at ok
    unfold It.dep at dp
    unfold itR at hh
    obtain ⟨d', rfl⟩ : ∃ d', d = d' + 1 := ⟨d - 1, by omega⟩
    have ha := c.ha
    have r1 := hh.left.left.left.left.one
    have r2 := hh.left.left.left.right ha
    have r3 := (hh.left.left.right ha).one
    have r4 := hh.left.right ha
    have r5 := (hh.right ha).one
    simp only [List.length_append, List.length_singleton, bkR_len] at r2 r3 r4 r5
    have e3 : a + (1 + x.rows) - 1 = a + 1 + x.rows - 1 := by omega
    rw [e3] at r3
    have e4 : a + (1 + x.rows + 1) = a + 1 + x.rows + 1 := by omega
    rw [e4] at r4
    have e5 : a + (1 + x.rows + 1 + y.rows) - 1 = a + 1 + x.rows + 1 + y.rows - 1 := by omega
    rw [e5] at r5
    unfold It.rows at h1 h2 g ⊢
    have e6 : x.rows + y.rows + 3 + m = x.rows + (y.rows + (m + 1) + 1) + 1 := by omega
    rw [e6]
    have hl := c.hd2
    refine gs_open dj hw ha r1 c.hin (by omega) rfl (cnt_push c) ?_
    have l1 := bkE_len x (a + 1) kE
    have l2 := bkH_len x (a + 1) kH
    refine hx (.inl (by simp)) (c.push (Nat.le_refl _) r1 (a + 1) (by omega)) ok.1 dp.2.1 r2 (by omega) (by omega) ?_
    refine gs_or dj hw (by omega) r3 ha r1 rfl rfl (by omega) (by omega) ?_
    have l3 := dput_len (kvs := bkE (a + 1) x kE) (k := .i a) (v := .int ((a + 1 + x.rows : Nat) : Int))
    have l4 := dput_len (kvs := bkH (a + 1) x kH) (k := .i ((a + 1 + x.rows : Nat) : Int)) (v := .int a)
    have l5 := bkE_len y (a + 1 + x.rows + 1) (dput (bkE (a + 1) x kE) (.i a) (.int ((a + 1 + x.rows : Nat) : Int)))
    have l6 := bkH_len y (a + 1 + x.rows + 1) (dput (bkH (a + 1) x kH) (.i ((a + 1 + x.rows : Nat) : Int)) (.int a))
    refine hy (.inl (by simp)) (c.push (k := a + 1 + x.rows) (by omega) r3 (a + 1 + x.rows + 1) (by omega)) ok.2 dp.2.2 r4 (by omega) (by omega) ?_
    refine gs_end dj hw (by omega) r5 (by omega) r3 rfl rfl (by omega) (by omega) ?_
    unfold itE itH at g
    have e7 : a + (x.rows + y.rows + 3) = a + 1 + x.rows + 1 + y.rows + 1 := by omega
    rw [e7] at g
    exact g
theorem rb_nil : RunB K hd0 s eA hA dA o lines ls sv R n E hs ah lo cf .nil := by
    intro a d m op kE kH first hf c ok dp hh h1 h2 g
    unfold Bk.rows at g ⊢
    unfold bkE bkH at g
    rw [Nat.zero_add]
    exact g
theorem rb_cons {i : It} {r : Bk} (hi : RunI K hd0 s eA hA dA o lines ls sv R n E hs ah lo cf i) (hr : RunB K hd0 s eA hA dA o lines ls sv R n E hs ah lo cf r) : RunB K hd0 s eA hA dA o lines ls sv R n E hs ah lo cf (.cons i r) := by
    intro a d m op kE kH first hf c ok dp hh h1 h2 g
    unfold Bk.ok at ok
    unfold Bk.dep at dp
    unfold bkR at hh
    unfold Bk.rows at h1 h2 g ⊢
    unfold bkE bkH at g
    have l1 := itE_len i a kE
    have l2 := itH_len i a kH
    rw [Nat.add_assoc]
    refine hi c ok.1 dp.1 hh.left (by omega) (by omega) ?_
    rw [nf_id hf]
    have h3 := hh.right c.ha
    rw [itR_len] at h3
    refine hr hf (c.next (a + i.rows) (by omega)) ok.2 dp.2 h3 (by omega) (by omega) ?_
    rw [Nat.add_assoc]
    exact g
mutual
theorem run_it (dj : Dis s eA hA dA o) (hw : ∀ r ∈ R, r.wfa cs) : ∀ i : It, RunI K hd0 s eA hA dA o lines ls sv R n E hs ah lo cf i
  | .read _ => ri_read dj hw
  | .copy _ _ => ri_copy dj hw
  | .call _ _ _ => ri_call dj hw
  | .doo _ => ri_doo dj hw
  | .lp b => ri_lp dj hw (run_bk dj hw b)
  | .ei x y => ri_ei dj hw (run_bk dj hw x) (run_bk dj hw y)
theorem run_bk (dj : Dis s eA hA dA o) (hw : ∀ r ∈ R, r.wfa cs) : ∀ b : Bk, RunB K hd0 s eA hA dA o lines ls sv R n E hs ah lo cf b
  | .nil => rb_nil
  | .cons i r => rb_cons (run_it dj hw i) (run_bk dj hw r)
end
end
end
end
end LK15
set_option Elab.async false
set_option linter.all false
set_option maxRecDepth 100000
set_option maxHeartbeats 400000
namespace DL
open PySem PySem.Spec PyProof.Rows L2
section
variable {T : Tb} {P : Pg} {G : Gam} {ds : Slt} {hd : Hd} {Q : EV → Hd → Prop}
@[simp] theorem e_compD {e d : IE} {g : IG} {own : List Nat} : wpE T P G (.compD e g d own) ds hd Q = ∃ p kvs, hd p = some (.dic kvs) ∧ wpE T P G d ds (del hd p) fun ev hd1 => (ev.d = .ref p ∧ hd1 p = none) ∧ (kvs.length ≤ 16777216 ∧
      turns (fun x hd' K => bindG g x (wipeD ds own) fun ds1 => wpE T P G e ds1 hd' fun ev hd'' => K (some ev.d) hd'') none (kvs.map fun q => dkD q.1) [] hd1 fun l hd2 => hd2 p = none ∧ Q (.nl l) (put hd2 p (.dic kvs))) := propext Iff.rfl
end
theorem dget_app {a b : List (DK × D)} {k : DK} {v : D} (h : dget a k = some v) : dget (a ++ b) k = some v := by
  unfold dget at h ⊢
  rw [List.find?_append]
  cases e : a.find? fun p => decide (p.1 = k) with
  | none => rw [e] at h; cases h
  | some q => rw [e] at h; exact h
end DL
namespace LK15
open PySem PySem.Spec PyProof.Rows L2 DL
def secR (a : Nat) : List (Tx × Bk) → List Rw
  | [] => []
  | (w, b) :: r => ([.part w (a + 1 + b.rows)] ++ bkR (a + 1) b ++ [.partE a]) ++ secR (a + b.rows + 2) r
def secN : List (Tx × Bk) → Nat
  | [] => 0
  | (_, b) :: r => b.rows + 2 + secN r
theorem secR_len : ∀ (l : List (Tx × Bk)) (a : Nat), (secR a l).length = secN l
  | [], a => rfl
  | (w, b) :: r, a => by unfold secR secN; simp [secR_len r, bkR_len]; omega
def secE (a : Nat) : List (Tx × Bk) → List (DK × D) → List (DK × D)
  | [], k => k
  | (_, b) :: r, k => secE (a + b.rows + 2) r (dput (bkE (a + 1) b k) (.i a) (.int ((a + 1 + b.rows : Nat) : Int)))
def secH (a : Nat) : List (Tx × Bk) → List (DK × D) → List (DK × D)
  | [], k => k
  | (_, b) :: r, k => secH (a + b.rows + 2) r (dput (bkH (a + 1) b k) (.i ((a + 1 + b.rows : Nat) : Int)) (.int a))
def secD (a : Nat) : List (Tx × Bk) → List (Tx × Nat)
  | [] => []
  | (w, b) :: r => (w, a) :: secD (a + b.rows + 2) r
/-- parts: each calls what stands ahead -/
def SecOk (cf : Cfg) (d : Nat) : List Tx → List (Tx × Bk) → Prop
  | _, [] => True
  | ah, (w, b) :: r => w ∉ ah ∧ b.ok cf ah ∧ b.dep d ∧ SecOk cf d (ah ++ [w]) r
section
variable {K : PySem.W.Frag}
section
variable {hd0 hd : Hd} {s eA hA dA o : Addr} {lines ls sv : List Tx} {R : List Rw} {kE kH : List (DK × D)} {hs : List (Tx × Nat)} {op : List Nat} {first : Nat} {cs : List (Tx × Nat)}
theorem hsD_none {w : Tx} : ∀ {hs : List (Tx × Nat)}, w ∉ hs.map (·.1) → dget (hsD hs) (.s w) = none
  | [], _ => rfl
  | p :: hs, h => by
    have h1 : p.1 ≠ w := fun e => h (by simp [e])
    have h2 := hsD_none (hs := hs) fun z => h (by simp at z ⊢; exact .inr z)
    unfold dget at h2 ⊢
    show Option.map _ (List.find? _ ((DK.s p.1, D.int p.2) :: hsD hs)) = none
    rw [List.find?_cons_of_neg (by simp; exact h1)]
    exact h2
theorem gs_part {n a m e : Nat} {w : Tx} {E : DEn} (dj : Dis s eA hA dA o) (hw : ∀ r ∈ R, r.wfa cs) (ha : 1 ≤ a) (hr : R[a - 1]? = some (.part w e)) (hn : w ∉ hs.map (·.1)) (hl : hs.length ≤ 3)
    (g : Gs K hd0 s eA hA dA o lines ls sv R (n + 2) E (a + 1) m kE kH (hs ++ [(w, a)]) [a] 0) : Gs K hd0 s eA hA dA o lines ls sv R (n + 2) E a (m + 1) kE kH hs [] 0 := by
  intro hd y2 y4 h fr
  rw [rngD_succ]
  refine ⟨trivial, ?_⟩
  rw [b_nm]
  have a8 : fget (plF lines ls sv R (.ref eA) (.ref hA) (.ref dA) 0) 8 = some (.lst (R.map Rw.act)) := rfl
  have a7 : fget (plF lines ls sv R (.ref eA) (.ref hA) (.ref dA) 0) 7 = some (.int (0 : Nat)) := rfl
  have a6 : fget (plF lines ls sv R (.ref eA) (.ref hA) (.ref dA) 0) 6 = some (.ref dA) := rfl
  have e5 : ((a : Int) - 1) = ((a - 1 : Nat) : Int) := by omega
  have e6 : (R.map Rw.act)[a - 1]? = some (Rw.part w e).act := by rw [List.getElem?_map, hr]; rfl
  have hrw := hw _ (List.mem_of_getElem? hr)
  simp [-s_ife, ldBody, f10]
  rw [o_attr h.vs na8 a8]
  simp [-s_ife, cAll]
  rw [e5, at_get e6]
  simp [Rw.act, atI, ixN, oeq_str]
  rw [eq_nil_int h.vo]
  simp
  rw [o_attr h.vs na7 a7]
  simp
  rw [o_attr h.vs na6 a6]
  simp only [d_v]
  rw [in_dic h.vd, hsD_none hn]
  simp
  rw [o_attr h.vs na6 a6]
  have vd := h.vd
  have e4 : oLen hd [.ref dA] = fun Q => Q (.v (.int hs.length)) hd := by
    funext Q; unfold oLen; simp only [vd]; rw [List.length_map]
  have e3 : ((hs.length : Int) == 4) = false := by simp; omega
  simp [e4, g6, oeq_int, e3]
  refine ⟨tg_lst h.vo, ?_⟩
  have e7 : hd o = some (.lst []) := h.o_
  rw [app_put e7]
  have h2 := h.op' dj [a]
  have e8 : ([] ++ [D.int (a : Int)]) = nsD [a] := rfl
  rw [e8]
  refine ⟨by simp, ?_⟩
  rw [o_attr h2.vs na6 a6]
  simp only [d_v]
  rw [set_dicS h2.d_]
  refine ⟨by rw [List.length_map]; omega, ?_⟩
  have e9 : dput (hsD hs) (.s w) (.int a) = hsD (hs ++ [(w, a)]) := by
    rw [dput_new]
    · simp
    · intro q hq z
      obtain ⟨p, hp, rfl⟩ := List.mem_map.mp hq
      exact hn (List.mem_map.mpr ⟨p, hp, by cases z; rfl⟩)
  rw [e9]
  have h3 : Pst (put (put hd o (.lst (nsD [a]))) dA (.dic (hsD (hs ++ [(w, a)])))) s eA hA dA o lines ls sv R kE kH (hs ++ [(w, a)]) [a] 0 :=
    ⟨(put_ne dj.a3).trans h2.s_, (put_ne dj.a6).trans h2.e_, (put_ne dj.a8).trans h2.h_, put_same, (put_ne (Ne.symm dj.a0)).trans h2.o_⟩
  have me12 : M.pg.me 0 12 = some 11 := rfl
  rw [h3.vs]
  simp only [me12]
  refine ⟨rfl, ?_⟩
  refine placed_quiet (r := .part w e) h3 hw (top_snoc (ops := []) ha hr) hrw rfl (by simp [Rw.kd]) (by simp [Rw.kd]) (by simp [Rw.kd]) ?_
  simp
  have e1 : ((a : Int) + 1) = ((a + 1 : Nat) : Int) := by omega
  rw [e1]
  refine g _ _ _ (by simpa using h3) fun x x1 x2 x3 x4 x5 => ?_
  rw [put_ne x4, put_ne x5]
  exact fr x x1 x2 x3 x4 x5
def wordsS (l : List (Tx × Bk)) : List Tx := l.map (·.1)
theorem hsD_get {p : Tx} {j : Nat} : ∀ {hs : List (Tx × Nat)}, (hs.map (·.1)).Nodup → (p, j) ∈ hs → dget (hsD hs) (.s p) = some (.int j)
  | [], _, h => by cases h
  | q :: hs, nd, h => by
    have nd' := List.nodup_cons.mp nd
    unfold dget
    show Option.map _ (List.find? _ ((DK.s q.1, D.int q.2) :: hsD hs)) = _
    rcases List.mem_cons.mp h with rfl | h
    · rw [List.find?_cons_of_pos (by simp)]; rfl
    · have h1 : q.1 ≠ p := fun e => nd'.1 (List.mem_map.mpr ⟨_, h, e.symm⟩)
      rw [List.find?_cons_of_neg (by simp; exact h1)]
      exact hsD_get nd'.2 h
theorem secD_len : ∀ (l : List (Tx × Bk)) (a : Nat), (secD a l).length = l.length
  | [], a => rfl
  | (w, b) :: r, a => by unfold secD; simp [secD_len r]
theorem secD_words : ∀ (l : List (Tx × Bk)) (a : Nat), (secD a l).map (·.1) = wordsS l
  | [], a => rfl
  | (w, b) :: r, a => by unfold secD wordsS; simp [secD_words r, wordsS]
/-- the parts, one behind the other -/
theorem run_sec (dj : Dis s eA hA dA o) (hw : ∀ r ∈ R, r.wfa cs) {n m d : Nat} {E : DEn} {cf : Cfg} : ∀ (l : List (Tx × Bk)) {a : Nat} {hs : List (Tx × Nat)} {kE kH : List (DK × D)}, 1 ≤ a → (hs.map (·.1)).Nodup → (∀ p ∈ hs, p.2 < a) → hs.length + l.length ≤ 4 → SecOk cf d (hs.map (·.1)) l → d ≤ 6 → Has R a (secR a l) → kE.length + secN l ≤ 1000 → kH.length + secN l ≤ 1000 →
    Gs K hd0 s eA hA dA o lines ls sv R (n + 2) E (a + secN l) m (secE a l kE) (secH a l kH) (hs ++ secD a l) [] 0 → Gs K hd0 s eA hA dA o lines ls sv R (n + 2) E a (secN l + m) kE kH hs [] 0
  | [], a, hs, kE, kH, ha, nd, hlt, hl, ok, hd6, hh, h1, h2, g => by
    unfold secN at g ⊢
    unfold secE secH secD at g
    rw [List.append_nil] at g
    rw [Nat.zero_add]
    exact g
  | (w, b) :: r, a, hs, kE, kH, ha, nd, hlt, hl, ok, hd6, hh, h1, h2, g => by
    unfold SecOk at ok
    obtain ⟨o1, o2, o3, o4⟩ := ok
    unfold secR at hh
    have r1 := hh.left.left.left.one
    have r2 := hh.left.left.right ha
    have r3 := (hh.left.right ha).one
    have r4 := hh.right ha
    simp only [List.length_append, List.length_singleton, bkR_len] at r2 r3 r4
    have e3 : a + (1 + b.rows) - 1 = a + 1 + b.rows - 1 := by omega
    rw [e3] at r3
    have e4 : a + (1 + b.rows + 1) = a + b.rows + 2 := by omega
    rw [e4] at r4
    unfold secN at h1 h2 g ⊢
    have e5 : b.rows + 2 + secN r + m = b.rows + (secN r + m + 1) + 1 := by omega
    rw [e5]
    rw [List.length_cons] at hl
    refine gs_part dj hw ha r1 o1 (by omega) ?_
    have nd2 : ((hs ++ [(w, a)]).map (·.1)).Nodup := by
      rw [List.map_append, List.nodup_append]
      refine ⟨nd, by simp, fun x hx y hy e => ?_⟩
      have : y = w := by simpa using hy
      rw [e, this] at hx
      exact o1 hx
    have l1 := bkE_len b (a + 1) kE
    have l2 := bkH_len b (a + 1) kH
    have np : npk R a = false := by unfold npk; rw [r1]; rfl
    have cn : Cnd R (hs ++ [(w, a)]) (hs.map (·.1)) a [a] (a + 1) d := by
      refine ⟨by omega, fun k hk => ?_, fun k hk => ?_, by omega, fun p hp => ?_, ?_, by simp; omega⟩
      · rw [List.mem_singleton.mp hk]; exact ⟨ha, _, r1⟩
      · rw [List.mem_singleton.mp hk]; omega
      · obtain ⟨q, hq, e⟩ := List.mem_map.mp hp
        refine ⟨q.2, hsD_get nd2 (List.mem_append.mpr (.inl ?_)), hlt q hq⟩
        rw [← e]; exact hq
      · rw [List.filter_cons_of_neg (by rw [np]; simp)]
        simp; omega
    refine run_bk dj hw b (.inl (by simp)) cn o2 o3 r2 (by omega) (by omega) ?_
    refine gs_end (ops := []) dj hw (by omega) r3 ha r1 rfl rfl (by omega) (by omega) ?_
    have l3 := dput_len (kvs := bkE (a + 1) b kE) (k := .i a) (v := .int ((a + 1 + b.rows : Nat) : Int))
    have l4 := dput_len (kvs := bkH (a + 1) b kH) (k := .i ((a + 1 + b.rows : Nat) : Int)) (v := .int a)
    have e6 : a + 1 + b.rows + 1 = a + b.rows + 2 := by omega
    rw [e6]
    refine run_sec dj hw r (by omega) nd2 (fun p hp => ?_) (by rw [List.length_append, List.length_singleton]; omega) (by rw [List.map_append]; exact o4) hd6 r4 (by omega) (by omega) ?_
    · rcases List.mem_append.mp hp with hp | hp
      · have := hlt p hp; omega
      · rw [List.mem_singleton.mp hp]; show a < _; omega
    · unfold secE secH secD at g
      have e7 : a + (b.rows + 2 + secN r) = a + b.rows + 2 + secN r := by omega
      rw [e7] at g
      rw [List.append_assoc]
      exact g
end
end
end LK15
set_option Elab.async false
set_option linter.all false
set_option maxRecDepth 100000
set_option maxHeartbeats 400000
namespace LK15
open PySem PySem.Spec PyProof.Rows L2 DL
/-- the parts that the rows call -/
def dosR : List Rw → List Tx
  | [] => []
  | .doo p :: R => p :: dosR R
  | _ :: R => dosR R
/-- all rows -/
def allR (secs : List (Tx × Bk)) (body : Bk) : List Rw := [.nm, .kp] ++ (secR 3 secs ++ bkR (3 + secN secs) body)
section
variable {K : PySem.W.Frag}
theorem dosR_fm : ∀ R : List Rw, (R.filterMap fun r => match r with | .doo p => some (D.str p) | _ => none) = (dosR R).map .str := by
  intro R
  induction R with
  | nil => rfl
  | cons r R ih => cases r <;> simp [dosR, ih]
abbrev ldRest : ISs := match f10.body with
  | .cons _ (.cons _ r) => r
  | _ => .nil
/-- behind the loop -/
theorem laid_end {n : Nat} {hd : Hd} {s eA hA dA o : Addr} {lines ls sv : List Tx} {R : List Rw} {kE kH : List (DK × D)} {hs : List (Tx × Nat)} {first : Nat} {cs : List (Tx × Nat)} {E : DEn} {y2 y4 : Option D} (dj : Dis s eA hA dA o) (hw : ∀ r ∈ R, r.wfa cs) (h : Pst hd s eA hA dA o lines ls sv R kE kH hs [] first)
    (hf : 1 ≤ first) (hR : R.length ≤ 1000) (hc : ∀ p ∈ hs, p.1 ∈ dosR R) (hl : hs.length ≤ 4) (k : E.rt (.v (.bl true)) hd) :
    wpSs (M.tb K) M.pg (gam (M.tb K) M.pg n) ldRest E [some (.ref s), some (.ref o), y2, none, y4, none] hd := by
  have a8 : fget (plF lines ls sv R (.ref eA) (.ref hA) (.ref dA) first) 8 = some (.lst (R.map Rw.act)) := rfl
  have a7 : fget (plF lines ls sv R (.ref eA) (.ref hA) (.ref dA) first) 7 = some (.int first) := rfl
  have a6 : fget (plF lines ls sv R (.ref eA) (.ref hA) (.ref dA) first) 6 = some (.ref dA) := rfl
  simp [-s_ife, ldRest, f10]
  rw [o_attr h.vs na8 a8]
  simp [walkD]
  refine ⟨by omega, ?_⟩
  refine turns_fm (gd := none) (hd := hd) Rw.act (fun r => match r with | .doo p => some (D.str p) | _ => none) trivial R [] (fun r hr K hK => ?_) ?_
  · have hrw := hw r hr
    rw [at_kd hrw]
    cases r with
    | doo p =>
      simp [Rw.kd, oeq_str, Rw.act, atI, ixN]
      exact hK
    | asg i =>
      cases i <;> first | (simp [Rw.kd, oeq_str]; exact hK) | exact hrw.elim
    | _ => simp [Rw.kd, oeq_str]; exact hK
  · rw [dosR_fm, List.nil_append]
    rw [eq_nil_int h.vo]
    simp
    rw [o_attr h.vs na7 a7]
    have e1 : decide (0 < first) = true := by simp; omega
    simp [e1]
    refine ⟨dA, hsD hs, h.d_, ?_⟩
    have vs' : view (del hd dA) (.ref s) = .obj 0 (plF lines ls sv R (.ref eA) (.ref hA) (.ref dA) first) := by rw [v_ref, del_nq dj.a3, h.s_]
    rw [o_attr vs' na6 a6]
    refine ⟨⟨rfl, del_sq⟩, by rw [List.length_map]; omega, ?_⟩
    have e2 : (hsD hs).map (fun q => dkD q.1) = (hs.map (·.1)).map D.str := by rw [List.map_map, List.map_map]; rfl
    rw [e2]
    refine turns_map (gd := none) (hd := del hd dA) (fun x => .bl true) trivial (fun x hx K hK => ?_) ?_
    · obtain ⟨w, hw', rfl⟩ := List.mem_map.mp hx
      obtain ⟨p, hp, rfl⟩ := List.mem_map.mp hw'
      rw [in_strs (d := .lst ((dosR R).map .str)) rfl]
      have : (dosR R).contains p.1 = true := by simpa using hc p hp
      rw [this]
      exact hK
    · refine ⟨del_sq, ?_⟩
      have e3 : ((hs.map (·.1)).map D.str).map (fun _ => D.bl true) = ((hs.map fun _ => true) : List Bool).map .bl := by rw [List.map_map, List.map_map, List.map_map]; rfl
      have e4 : ((hs.map fun _ => true) : List Bool).all id = true := by rw [List.all_map]; simp
      rw [e3, all_bls, e4]
      have e5 : put (del hd dA) dA (.dic (hsD hs)) = hd := by
        funext x
        by_cases c : x = dA
        · rw [c, put_same, h.d_]
        · rw [put_ne c, del_nq c]
      rw [e5]
      exact k
/-- a program's rows, as they are wanted -/
structure RowsOk (cf : Cfg) (secs : List (Tx × Bk)) (body : Bk) : Prop where
  so : SecOk cf 6 [] secs
  sl : secs.length ≤ 4
  bo : body.ok cf (wordsS secs)
  bd : body.dep 6
  bn : body ≠ .nil
  nd : (wordsS secs).Nodup
  len : secN secs + body.rows ≤ 78
  called : ∀ w ∈ wordsS secs, w ∈ dosR (allR secs body)
theorem allR_len {secs : List (Tx × Bk)} {body : Bk} : (allR secs body).length = 2 + (secN secs + body.rows) := by
  unfold allR
  rw [List.length_append, List.length_append, secR_len, bkR_len]; rfl
theorem allR_has {secs : List (Tx × Bk)} {body : Bk} : Has (allR secs body) 3 (secR 3 secs ++ bkR (3 + secN secs) body) := fun j r e => by
  unfold allR
  rw [List.getElem?_append_right (by simp)]
  simpa using e
theorem secD_lt : ∀ (l : List (Tx × Bk)) (a : Nat), ∀ p ∈ secD a l, p.2 < a + secN l
  | [], a, p, h => by cases h
  | (w, b) :: r, a, p, h => by
    unfold secD at h
    unfold secN
    rcases List.mem_cons.mp h with rfl | h
    · show a < _; omega
    · have := secD_lt r _ p h; omega
abbrev finE (secs : List (Tx × Bk)) (body : Bk) : List (DK × D) := bkE (3 + secN secs) body (secE 3 secs [])
abbrev finH (secs : List (Tx × Bk)) (body : Bk) : List (DK × D) := bkH (3 + secN secs) body (secH 3 secs [])
theorem secE_len : ∀ (l : List (Tx × Bk)) (a : Nat) (k : List (DK × D)), (secE a l k).length ≤ k.length + secN l
  | [], a, k => by unfold secE; omega
  | (w, b) :: r, a, k => by
    have l1 := bkE_len b (a + 1) k
    have l3 := dput_len (kvs := bkE (a + 1) b k) (k := .i a) (v := .int ((a + 1 + b.rows : Nat) : Int))
    have := secE_len r (a + b.rows + 2) (dput (bkE (a + 1) b k) (.i a) (.int ((a + 1 + b.rows : Nat) : Int)))
    unfold secE secN; omega
theorem secH_len : ∀ (l : List (Tx × Bk)) (a : Nat) (k : List (DK × D)), (secH a l k).length ≤ k.length + secN l
  | [], a, k => by unfold secH; omega
  | (w, b) :: r, a, k => by
    have l1 := bkH_len b (a + 1) k
    have l3 := dput_len (kvs := bkH (a + 1) b k) (k := .i ((a + 1 + b.rows : Nat) : Int)) (v := .int a)
    have := secH_len r (a + b.rows + 2) (dput (bkH (a + 1) b k) (.i ((a + 1 + b.rows : Nat) : Int)) (.int a))
    unfold secH secN; omega
/-- a plan before it is laid -/
structure Pre (hd : Hd) (s eA hA dA : Addr) (lines ls sv : List Tx) (R : List Rw) (kE kH : List (DK × D)) (hs : List (Tx × Nat)) (first : Nat) : Prop where
  s_ : hd s = some (.ins 0 (plF lines ls sv R (.ref eA) (.ref hA) (.ref dA) first))
  e_ : hd eA = some (.dic kE)
  h_ : hd hA = some (.dic kH)
  d_ : hd dA = some (.dic (hsD hs))
theorem laid_ok {n : Nat} {hd : Hd} {s eA hA dA : Addr} {lines ls sv : List Tx} {secs : List (Tx × Bk)} {body : Bk} {cf : Cfg} {cs : List (Tx × Nat)} {Q : EV → Hd → Prop} (h : Pre hd s eA hA dA lines ls sv (allR secs body) [] [] [] 0)
    (d1 : eA ≠ hA) (d2 : eA ≠ dA) (d3 : hA ≠ dA) (d4 : s ≠ eA) (d5 : s ≠ hA) (d6 : s ≠ dA) (hw : ∀ r ∈ allR secs body, r.wfa cs) (hl : lines.length = (allR secs body).length) (ok : RowsOk cf secs body)
    (k : ∀ hd2, Pre hd2 s eA hA dA lines ls sv (allR secs body) (finE secs body) (finH secs body) (secD 3 secs) (3 + secN secs) → (∀ x, x ≠ s → x ≠ eA → x ≠ hA → x ≠ dA → hd2 x = hd x) → Q (.v (.bl true)) hd2) :
    gam (M.tb K) M.pg (n + 3) 10 [.ref s] hd Q := by
  refine gam_at p10 rfl ?_
  have eb : f10.body = .cons (.asg true (.nm 1) (.op .lst .nil)) (.cons (.for_ (.nm 2) (.rng2 (.glob 5) (.op .add (.cons false (.op .len (.cons false (.op (.attr 9) (.cons false (.var 0) .nil)) .nil)) (.cons false (.lit (.int 1)) .nil)))) ldBody) ldRest) := rfl
  rw [eb]
  simp [-s_ife]
  intro o ho
  have dj : Dis s eA hA dA o := ⟨d4, d5, d6, fun e => (by rw [← e, h.s_] at ho; cases ho), d1, d2, fun e => (by rw [← e, h.e_] at ho; cases ho), d3, fun e => (by rw [← e, h.h_] at ho; cases ho), fun e => (by rw [← e, h.d_] at ho; cases ho)⟩
  have ps : Pst (put hd o (.lst [])) s eA hA dA o lines ls sv (allR secs body) [] [] [] [] 0 := ⟨(put_ne dj.a4).trans h.s_, (put_ne dj.a7).trans h.e_, (put_ne dj.a9).trans h.h_, (put_ne dj.a0).trans h.d_, put_same⟩
  have a9 : fget (plF lines ls sv (allR secs body) (.ref eA) (.ref hA) (.ref dA) 0) 9 = some (.lst (lines.map .str)) := rfl
  have hN := ok.len
  have hlen := allR_len (secs := secs) (body := body)
  simp only [g5]
  rw [o_attr ps.vs na9 a9]
  simp [-s_ife, rng2D]
  refine ⟨by omega, ?_⟩
  have e1 : ((lines.length : Int) + 1 - 3).toNat = secN secs + (body.rows + 0) := by omega
  rw [e1]
  have key : Gs K (put hd o (.lst [])) s eA hA dA o lines ls sv (allR secs body) (n + 2)
    { nx := wpSs (M.tb K) M.pg (gam (M.tb K) M.pg (n + 2)) ldRest { nx := fun _ hd' => ∃ h2, DL.Sub h2 hd' ∧ Q (.v .non) h2, rt := fun ev hd' => ∃ h2, DL.Sub h2 hd' ∧ Q ev h2, bk := fun _ _ => False, ct := fun _ _ => False }, rt := fun ev hd' => ∃ h2, DL.Sub h2 hd' ∧ Q ev h2, bk := fun _ _ => False, ct := fun _ _ => False }
    3 (secN secs + (body.rows + 0)) [] [] [] [] 0 := by
    refine run_sec dj hw secs (by omega) (by simp) (fun p hp => by cases hp) (by simpa using ok.sl) ok.so (Nat.le_refl _) allR_has.left (by simp; omega) (by simp; omega) ?_
    have hb := allR_has (secs := secs) (body := body) |>.right (by omega)
    rw [secR_len] at hb
    rw [List.nil_append]
    have l1 := secE_len secs 3 []
    have l2 := secH_len secs 3 []
    have hb2 := ok.bn
    have lw := ok.sl
    have fin : Gs K (put hd o (.lst [])) s eA hA dA o lines ls sv (allR secs body) (n + 2)
      { nx := wpSs (M.tb K) M.pg (gam (M.tb K) M.pg (n + 2)) ldRest { nx := fun _ hd' => ∃ h2, DL.Sub h2 hd' ∧ Q (.v .non) h2, rt := fun ev hd' => ∃ h2, DL.Sub h2 hd' ∧ Q ev h2, bk := fun _ _ => False, ct := fun _ _ => False }, rt := fun ev hd' => ∃ h2, DL.Sub h2 hd' ∧ Q ev h2, bk := fun _ _ => False, ct := fun _ _ => False }
      (3 + secN secs + body.rows) 0 (finE secs body) (finH secs body) (secD 3 secs) [] (3 + secN secs) := by
      intro hd1 y2 y4 h1 f1
      refine ⟨trivial, ?_⟩
      refine laid_end dj hw h1 (by omega) (by omega) (fun p hp => ?_) (by rw [secD_len]; exact lw) ?_
      · refine ok.called p.1 ?_
        rw [← secD_words secs 3]
        exact List.mem_map.mpr ⟨p, hp, rfl⟩
      · refine ⟨del hd1 o, fun x ob z => ?_, k _ ⟨(del_nq dj.a4).trans h1.s_, (del_nq dj.a7).trans h1.e_, (del_nq dj.a9).trans h1.h_, (del_nq dj.a0).trans h1.d_⟩ fun x x1 x2 x3 x4 => ?_⟩
        · by_cases c : x = o
          · rw [c, del_sq] at z; cases z
          · rw [del_nq c] at z; exact z
        · by_cases c : x = o
          · rw [c, del_sq, ho]
          · rw [del_nq c, f1 x x1 x2 x3 x4 c, put_ne c]
    match body, ok, hb, fin with
    | .nil, ok, _, _ => exact absurd rfl ok.bn
    | .cons i r, ok, hb, fin =>
      have okb := ok.bo
      have okd := ok.bd
      have hN := ok.len
      unfold Bk.ok at okb
      unfold Bk.dep at okd
      unfold bkR at hb
      unfold Bk.rows at hN
      unfold Bk.rows
      unfold finE finH bkE bkH Bk.rows at fin
      have cn : Cnd (allR secs (.cons i r)) (secD 3 secs) (wordsS secs) (3 + secN secs) [] (3 + secN secs) 6 := by
        refine ⟨by omega, fun k hk => (by cases hk), fun k hk => (by cases hk), Nat.le_refl _, fun p hp => ?_, by simp, by simp⟩
        rw [← secD_words secs 3] at hp
        obtain ⟨q, hq, e⟩ := List.mem_map.mp hp
        refine ⟨q.2, hsD_get (by rw [secD_words]; exact ok.nd) (by rw [← e]; exact hq), secD_lt secs 3 q hq⟩
      have l3 := itE_len i (3 + secN secs) (secE 3 secs [])
      have l4 := itH_len i (3 + secN secs) (secH 3 secs [])
      simp only [List.length_nil] at l1 l2
      rw [Nat.add_assoc]
      refine run_it dj hw i cn okb.1 okd.1 hb.left (by omega) (by omega) ?_
      have e2 : nf [] 0 (3 + secN secs) = 3 + secN secs := rfl
      rw [e2]
      have h3 := hb.right (by omega)
      rw [itR_len] at h3
      refine run_bk dj hw r (.inr (by omega)) (cn.next _ (by omega)) okb.2 okd.2 h3 (by omega) (by omega) ?_
      rw [Nat.add_assoc]
      exact fin
  exact key _ _ _ ps fun _ _ _ _ _ _ => rfl
end
end LK15
set_option Elab.async false
set_option linter.all false
set_option maxRecDepth 100000
set_option maxHeartbeats 400000
namespace LK15
open PySem PySem.Spec PyProof.Rows L2 DL
/-! what the dicts of a plan tell -/
def FE (E : List (DK × D)) (k : Nat) : Rw → Prop
  | .lp e => dget E (.i k) = some (.int e)
  | .ei m => dget E (.i k) = some (.int m)
  | .orr _ e => dget E (.i k) = some (.int e)
  | _ => True
def FH (H : List (DK × D)) (k : Nat) : Rw → Prop
  | .lpE h => dget H (.i k) = some (.int h)
  | .eiE h => dget H (.i k) = some (.int h)
  | .partE h => dget H (.i k) = some (.int h)
  | _ => True
theorem FE.same {E E' : List (DK × D)} {k : Nat} {r : Rw} (h : FE E k r) (e : dget E' (.i k) = dget E (.i k)) : FE E' k r := by
  cases r <;> first | (unfold FE at h ⊢; rw [e]; exact h) | trivial
theorem FH.same {E E' : List (DK × D)} {k : Nat} {r : Rw} (h : FH E k r) (e : dget E' (.i k) = dget E (.i k)) : FH E' k r := by
  cases r <;> first | (unfold FH at h ⊢; rw [e]; exact h) | trivial
theorem dget_i {kvs : List (DK × D)} {k j : Nat} {v : D} : dget (dput kvs (.i k) v) (.i j) = if j = k then some v else dget kvs (.i j) := by
  rw [dget_put]
  by_cases c : j = k
  · subst c; simp
  · have : ¬ (DK.i (j : Int) = DK.i (k : Int)) := fun z => c (by cases z; rfl)
    rw [if_neg this, if_neg c]
mutual
theorem itE_out : ∀ (i : It) (a : Nat) (k : List (DK × D)) (j : Nat), j < a ∨ a + i.rows ≤ j → dget (itE a i k) (.i j) = dget k (.i j)
  | .lp b, a, k, j, h => by
    unfold It.rows at h
    unfold itE
    rw [dget_i, if_neg (by omega), bkE_out b (a + 1) k j (by omega)]
  | .ei x y, a, k, j, h => by
    unfold It.rows at h
    unfold itE
    rw [dget_i, if_neg (by omega), bkE_out y _ _ j (by omega), dget_i, if_neg (by omega), bkE_out x _ _ j (by omega)]
  | .doo p, a, k, j, h => by unfold itE; rfl
  | .read l, a, k, j, h => by unfold itE; rfl
  | .copy l r, a, k, j, h => by unfold itE; rfl
  | .call l f as, a, k, j, h => by unfold itE; rfl
theorem bkE_out : ∀ (b : Bk) (a : Nat) (k : List (DK × D)) (j : Nat), j < a ∨ a + b.rows ≤ j → dget (bkE a b k) (.i j) = dget k (.i j)
  | .nil, a, k, j, h => by unfold bkE; rfl
  | .cons i r, a, k, j, h => by
    unfold Bk.rows at h
    unfold bkE
    rw [bkE_out r _ _ j (by omega), itE_out i _ _ j (by omega)]
end
mutual
theorem itH_out : ∀ (i : It) (a : Nat) (k : List (DK × D)) (j : Nat), j < a ∨ a + i.rows ≤ j → dget (itH a i k) (.i j) = dget k (.i j)
  | .lp b, a, k, j, h => by
    unfold It.rows at h
    unfold itH
    rw [dget_i, if_neg (by omega), bkH_out b (a + 1) k j (by omega)]
  | .ei x y, a, k, j, h => by
    unfold It.rows at h
    unfold itH
    rw [dget_i, if_neg (by omega), bkH_out y _ _ j (by omega), dget_i, if_neg (by omega), bkH_out x _ _ j (by omega)]
  | .doo p, a, k, j, h => by unfold itH; rfl
  | .read l, a, k, j, h => by unfold itH; rfl
  | .copy l r, a, k, j, h => by unfold itH; rfl
  | .call l f as, a, k, j, h => by unfold itH; rfl
theorem bkH_out : ∀ (b : Bk) (a : Nat) (k : List (DK × D)) (j : Nat), j < a ∨ a + b.rows ≤ j → dget (bkH a b k) (.i j) = dget k (.i j)
  | .nil, a, k, j, h => by unfold bkH; rfl
  | .cons i r, a, k, j, h => by
    unfold Bk.rows at h
    unfold bkH
    rw [bkH_out r _ _ j (by omega), itH_out i _ _ j (by omega)]
end
/-- where a row of the list stands -/
theorem app_at {α : Type} {L L' : List α} {j : Nat} {r : α} (h : (L ++ L')[j]? = some r) : (j < L.length ∧ L[j]? = some r) ∨ ∃ j', j = L.length + j' ∧ L'[j']? = some r := by
  by_cases c : j < L.length
  · rw [List.getElem?_append_left c] at h; exact .inl ⟨c, h⟩
  · rw [List.getElem?_append_right (by omega)] at h
    exact .inr ⟨j - L.length, by omega, h⟩
theorem one_at {α : Type} {x r : α} {j : Nat} (h : [x][j]? = some r) : j = 0 ∧ r = x := by
  cases j with
  | zero => simp at h; exact ⟨rfl, h.symm⟩
  | succ j => simp at h
/-- the rows of a loop, of a choice -/
theorem lp_at {a j : Nat} {b : Bk} {r : Rw} (h : (itR a (.lp b))[j]? = some r) : (j = 0 ∧ r = .lp (a + 1 + b.rows)) ∨ (∃ j', j' < b.rows ∧ j = 1 + j' ∧ (bkR (a + 1) b)[j']? = some r) ∨ (j = 1 + b.rows ∧ r = .lpE a) := by
  unfold itR at h
  rcases app_at h with ⟨c, h⟩ | ⟨j', e, h⟩
  · rcases app_at h with ⟨c, h⟩ | ⟨j', e, h⟩
    · have := one_at h; exact .inl this
    · have hl : j' < (bkR (a + 1) b).length := (List.getElem?_eq_some_iff.mp h).1
      rw [bkR_len] at hl
      exact .inr (.inl ⟨j', hl, e, h⟩)
  · obtain ⟨e2, e3⟩ := one_at h
    rw [List.length_append, bkR_len] at e
    exact .inr (.inr ⟨by simp at e; omega, e3⟩)
theorem ei_at {a j : Nat} {x y : Bk} {r : Rw} (h : (itR a (.ei x y))[j]? = some r) : (j = 0 ∧ r = .ei (a + 1 + x.rows)) ∨ (∃ j', j' < x.rows ∧ j = 1 + j' ∧ (bkR (a + 1) x)[j']? = some r) ∨ (j = 1 + x.rows ∧ r = .orr a (a + 1 + x.rows + 1 + y.rows)) ∨
    (∃ j', j' < y.rows ∧ j = 1 + x.rows + 1 + j' ∧ (bkR (a + 1 + x.rows + 1) y)[j']? = some r) ∨ (j = 1 + x.rows + 1 + y.rows ∧ r = .eiE (a + 1 + x.rows)) := by
  unfold itR at h
  rcases app_at h with ⟨c, h⟩ | ⟨j', e, h⟩
  · rcases app_at h with ⟨c, h⟩ | ⟨j', e, h⟩
    · rcases app_at h with ⟨c, h⟩ | ⟨j', e, h⟩
      · rcases app_at h with ⟨c, h⟩ | ⟨j', e, h⟩
        · have := one_at h; exact .inl this
        · have hl : j' < (bkR (a + 1) x).length := (List.getElem?_eq_some_iff.mp h).1
          rw [bkR_len] at hl
          exact .inr (.inl ⟨j', hl, e, h⟩)
      · obtain ⟨e2, e3⟩ := one_at h
        rw [List.length_append, bkR_len] at e
        exact .inr (.inr (.inl ⟨by simp at e; omega, e3⟩))
    · have hl : j' < (bkR (a + 1 + x.rows + 1) y).length := (List.getElem?_eq_some_iff.mp h).1
      rw [bkR_len] at hl
      simp only [List.length_append, List.length_singleton, bkR_len] at e
      exact .inr (.inr (.inr (.inl ⟨j', hl, by omega, h⟩)))
  · obtain ⟨e2, e3⟩ := one_at h
    simp only [List.length_append, List.length_singleton, bkR_len] at e
    exact .inr (.inr (.inr (.inr ⟨by omega, e3⟩)))
/-- targets that stay in the block -/
def gos (k : Nat) : Rw → List Nat
  | .asg _ => [k + 1]
  | .lp e => [k + 1, e + 1]
  | .lpE h => [h + 1, k + 1]
  | .ei m => [k + 1, m + 1]
  | .orr _ e => [e + 1]
  | .eiE _ => [k + 1]
  | _ => []
/-- a row of a block -/
def Rw.blk : Rw → Prop
  | .part _ _ => False
  | .partE _ => False
  | .nm => False
  | .kp => False
  | _ => True
/-- what a row's home is -/
def HK (R : List Rw) : Rw → Prop
  | .lpE h => 1 ≤ h ∧ ∃ e, R[h - 1]? = some (.lp e)
  | .eiE h => 1 ≤ h ∧ ∃ e f, R[h - 1]? = some (.orr e f)
  | .partE h => 1 ≤ h ∧ ∃ w e, R[h - 1]? = some (.part w e)
  | _ => True
/-- all that is to be known of the row at a + j -/
structure In (R : List Rw) (E H : List (DK × D)) (a n j : Nat) (r : Rw) : Prop where
  e : FE E (a + j) r
  h : FH H (a + j) r
  g : ∀ t ∈ gos (a + j) r, a ≤ t ∧ t ≤ a + n
  b : r.blk
  k : HK R r
theorem In.wide {R : List Rw} {E H E' H' : List (DK × D)} {a n j a' n' j' : Nat} {r : Rw} (i : In R E H a n j r) (hj : a + j = a' + j') (ha : a' ≤ a) (hn : a + n ≤ a' + n') (e1 : dget E' (.i ((a' + j' : Nat) : Int)) = dget E (.i ((a' + j' : Nat) : Int))) (e2 : dget H' (.i ((a' + j' : Nat) : Int)) = dget H (.i ((a' + j' : Nat) : Int))) : In R E' H' a' n' j' r := by
  refine ⟨?_, ?_, fun t ht => ?_, i.b, i.k⟩
  · have := i.e; rw [hj] at this; exact this.same e1
  · have := i.h; rw [hj] at this; exact this.same e2
  · rw [← hj] at ht
    have := i.g t ht
    omega
def InI (R : List Rw) (i : It) : Prop := ∀ (a : Nat) (E H : List (DK × D)) (j : Nat) (r : Rw), 1 ≤ a → Has R a (itR a i) → (itR a i)[j]? = some r → In R (itE a i E) (itH a i H) a i.rows j r
def InB (R : List Rw) (b : Bk) : Prop := ∀ (a : Nat) (E H : List (DK × D)) (j : Nat) (r : Rw), 1 ≤ a → Has R a (bkR a b) → (bkR a b)[j]? = some r → In R (bkE a b E) (bkH a b H) a b.rows j r
theorem in_lp {R : List Rw} {b : Bk} (hb : InB R b) : InI R (.lp b) := by
  intro a E H j r ha hh h
  have hh' := hh
  unfold itR at hh'
  rcases lp_at h with ⟨rfl, rfl⟩ | ⟨j', hl, rfl, h'⟩ | ⟨rfl, rfl⟩
  · refine ⟨?_, trivial, fun t ht => ?_, trivial, trivial⟩
    · show dget (itE a (.lp b) E) (.i (a : Nat)) = some _
      unfold itE; rw [dget_i, if_pos rfl]
    · unfold It.rows; simp [gos] at ht; omega
  · refine (hb (a + 1) E H j' r (by omega) (hh'.left.right ha) h').wide (by omega) (by omega) (by unfold It.rows; omega) ?_ ?_
    · unfold itE; rw [dget_i, if_neg (by omega)]
    · unfold itH; rw [dget_i, if_neg (by omega)]
  · refine ⟨trivial, ?_, fun t ht => ?_, trivial, ha, _, hh'.left.left.one⟩
    · unfold FH itH
      have e : a + (1 + b.rows) = a + 1 + b.rows := by omega
      rw [e, dget_i, if_pos rfl]
    · unfold It.rows; simp [gos] at ht; omega
theorem in_ei {R : List Rw} {x y : Bk} (hx : InB R x) (hy : InB R y) : InI R (.ei x y) := by
  intro a E H j r ha hh h
  have hh' := hh
  unfold itR at hh'
  have hy' := hh'.left.right ha
  have ho := (hh'.left.left.right ha).one
  simp only [List.length_append, List.length_singleton, bkR_len] at hy' ho
  have e4 : a + (1 + x.rows + 1) = a + 1 + x.rows + 1 := by omega
  rw [e4] at hy'
  have e5 : a + (1 + x.rows) - 1 = a + 1 + x.rows - 1 := by omega
  rw [e5] at ho
  rcases ei_at h with ⟨rfl, rfl⟩ | ⟨j', hl, rfl, h'⟩ | ⟨rfl, rfl⟩ | ⟨j', hl, rfl, h'⟩ | ⟨rfl, rfl⟩
  · refine ⟨?_, trivial, fun t ht => ?_, trivial, trivial⟩
    · show dget (itE a (.ei x y) E) (.i (a : Nat)) = some _
      unfold itE; rw [dget_i, if_neg (by omega), bkE_out y _ _ a (by omega), dget_i, if_pos rfl]
    · unfold It.rows; simp [gos] at ht; omega
  · refine (hx (a + 1) E H j' r (by omega) (hh'.left.left.left.right ha) h').wide (by omega) (by omega) (by unfold It.rows; omega) ?_ ?_
    · unfold itE; rw [dget_i, if_neg (by omega), bkE_out y _ _ _ (by omega), dget_i, if_neg (by omega)]
    · unfold itH; rw [dget_i, if_neg (by omega), bkH_out y _ _ _ (by omega), dget_i, if_neg (by omega)]
  · refine ⟨?_, trivial, fun t ht => ?_, trivial, trivial⟩
    · unfold FE itE
      have e : a + (1 + x.rows) = a + 1 + x.rows := by omega
      rw [e, dget_i, if_pos rfl]
    · unfold It.rows; simp [gos] at ht; omega
  · refine (hy (a + 1 + x.rows + 1) (dput (bkE (a + 1) x E) (.i a) (.int ((a + 1 + x.rows : Nat) : Int))) (dput (bkH (a + 1) x H) (.i ((a + 1 + x.rows : Nat) : Int)) (.int a)) j' r (by omega) hy' h').wide (by omega) (by omega) (by unfold It.rows; omega) ?_ ?_
    · unfold itE; rw [dget_i, if_neg (by omega)]
    · unfold itH; rw [dget_i, if_neg (by omega)]
  · refine ⟨trivial, ?_, fun t ht => ?_, trivial, by omega, _, _, ho⟩
    · unfold FH itH
      have e : a + (1 + x.rows + 1 + y.rows) = a + 1 + x.rows + 1 + y.rows := by omega
      rw [e, dget_i, if_pos rfl]
    · unfold It.rows; simp [gos] at ht; omega
theorem in_cons {R : List Rw} {i : It} {b : Bk} (hi : InI R i) (hb : InB R b) : InB R (.cons i b) := by
  intro a E H j r ha hh h
  unfold bkR at hh h
  have hrw : (Bk.cons i b).rows = i.rows + b.rows := by rw [Bk.rows]
  rcases app_at h with ⟨c, h'⟩ | ⟨j', e, h'⟩
  · rw [itR_len] at c
    refine (hi a E H j r ha hh.left h').wide rfl (Nat.le_refl _) (by omega) ?_ ?_
    · rw [bkE, bkE_out b _ _ _ (by omega)]
    · rw [bkH, bkH_out b _ _ _ (by omega)]
  · rw [itR_len] at e
    have h3 := hh.right ha
    rw [itR_len] at h3
    subst e
    exact (hb (a + i.rows) _ _ j' r (by omega) h3 h').wide (by omega) (by omega) (by omega) rfl rfl
theorem in_asg {R : List Rw} {i : It} {r0 : Rw} (h1 : ∀ a, itR a i = [r0]) (h2 : i.rows = 1) (h3 : ∀ k t, t ∈ gos k r0 → t = k + 1) (h4 : r0.blk) (h5 : HK R r0) (h6 : ∀ E k, FE E k r0) (h7 : ∀ E k, FH E k r0) : InI R i := by
  intro a E H j r ha hh h
  rw [h1] at h
  obtain ⟨rfl, rfl⟩ := one_at h
  refine ⟨h6 _ _, h7 _ _, fun t ht => ?_, h4, h5⟩
  have := h3 _ t ht
  omega
mutual
theorem in_it (R : List Rw) : ∀ i : It, InI R i
  | .read l => in_asg (r0 := .asg (.read l)) (fun _ => by rw [itR]) rfl (by simp [gos]) trivial trivial (fun _ _ => trivial) (fun _ _ => trivial)
  | .copy l r => in_asg (r0 := .asg (.copy l r)) (fun _ => by rw [itR]) rfl (by simp [gos]) trivial trivial (fun _ _ => trivial) (fun _ _ => trivial)
  | .call l f as => in_asg (r0 := .asg (.call l f as)) (fun _ => by rw [itR]) rfl (by simp [gos]) trivial trivial (fun _ _ => trivial) (fun _ _ => trivial)
  | .doo p => in_asg (r0 := .doo p) (fun _ => by rw [itR]) rfl (by simp [gos]) trivial trivial (fun _ _ => trivial) (fun _ _ => trivial)
  | .lp b => in_lp (in_bk R b)
  | .ei x y => in_ei (in_bk R x) (in_bk R y)
theorem in_bk (R : List Rw) : ∀ b : Bk, InB R b
  | .nil => by intro a E H j r ha hh h; unfold bkR at h; simp at h
  | .cons i r => in_cons (in_it R i) (in_bk R r)
end
theorem secN_app : ∀ (l l' : List (Tx × Bk)), secN (l ++ l') = secN l + secN l'
  | [], l' => by simp [secN]
  | (w, b) :: r, l' => by simp only [List.cons_append, secN, secN_app r l']; omega
theorem secN_cons {w : Tx} {b : Bk} {r : List (Tx × Bk)} : secN ((w, b) :: r) = b.rows + 2 + secN r := by rw [secN]
theorem secE_out : ∀ (l : List (Tx × Bk)) (a : Nat) (k : List (DK × D)) (j : Nat), j < a ∨ a + secN l ≤ j → dget (secE a l k) (.i j) = dget k (.i j)
  | [], a, k, j, h => by unfold secE; rfl
  | (w, b) :: r, a, k, j, h => by
    rw [secN_cons] at h
    unfold secE
    rw [secE_out r _ _ j (by omega), dget_i, if_neg (by omega), bkE_out b _ _ j (by omega)]
theorem secH_out : ∀ (l : List (Tx × Bk)) (a : Nat) (k : List (DK × D)) (j : Nat), j < a ∨ a + secN l ≤ j → dget (secH a l k) (.i j) = dget k (.i j)
  | [], a, k, j, h => by unfold secH; rfl
  | (w, b) :: r, a, k, j, h => by
    rw [secN_cons] at h
    unfold secH
    rw [secH_out r _ _ j (by omega), dget_i, if_neg (by omega), bkH_out b _ _ j (by omega)]
/-- the part in which a row is -/
def secOf (a : Nat) : List (Tx × Bk) → Nat → Tx
  | [], _ => []
  | (w, b) :: r, k => if k ≤ a + 1 + b.rows then w else secOf (a + b.rows + 2) r k
theorem secOf_body : ∀ (l : List (Tx × Bk)) (a k : Nat), a + secN l ≤ k → secOf a l k = []
  | [], a, k, h => rfl
  | (w, b) :: r, a, k, h => by
    rw [secN_cons] at h
    unfold secOf
    rw [if_neg (by omega), secOf_body r _ k (by omega)]
theorem sec_pl1 {a : Nat} {w : Tx} {b : Bk} {l : List (Tx × Bk)} {j : Nat} (hj : j ≤ b.rows) : ∃ r, (secR a ((w, b) :: l))[a - a + 1 + j]? = some r ∧ (r.blk ∨ ∃ a, r = .partE a) := by
  unfold secR
  rw [Nat.sub_self, Nat.zero_add]
  by_cases cj : j < b.rows
  · have hl : j < (bkR (a + 1) b).length := by rw [bkR_len]; exact cj
    refine ⟨(bkR (a + 1) b)[j], ?_, .inl ?_⟩
    · rw [List.getElem?_append_left (by simp [bkR_len]; omega), List.getElem?_append_left (by simp [bkR_len]; omega), List.getElem?_append_right (by simp)]
      simp
    · have hR : Has ((List.replicate a Rw.nm) ++ bkR (a + 1) b) (a + 1) (bkR (a + 1) b) := fun j r e => by
        rw [List.getElem?_append_right (by simp)]; simpa using e
      exact (in_bk _ b (a + 1) [] [] j _ (by omega) hR (List.getElem?_eq_getElem hl)).b
  · have ej : j = b.rows := by omega
    subst ej
    refine ⟨.partE a, ?_, .inr ⟨a, rfl⟩⟩
    rw [List.getElem?_append_left (by simp [bkR_len]; omega), List.getElem?_append_right (by simp [bkR_len]; omega)]
    simp only [List.length_append, List.length_singleton, bkR_len]
    have : 1 + b.rows - (1 + b.rows) = 0 := by omega
    rw [this]; rfl
theorem sec_plS {a at_ : Nat} {w : Tx} {b : Bk} {l : List (Tx × Bk)} {j : Nat} {r : Rw} (h : a + b.rows + 2 ≤ at_) (e : (secR (a + b.rows + 2) l)[at_ - (a + b.rows + 2) + 1 + j]? = some r) : (secR a ((w, b) :: l))[at_ - a + 1 + j]? = some r := by
  unfold secR
  rw [List.getElem?_append_right (by simp [bkR_len]; omega)]
  simp only [List.length_append, List.length_singleton, bkR_len]
  have : at_ - a + 1 + j - (1 + b.rows + 1) = at_ - (a + b.rows + 2) + 1 + j := by omega
  rw [this]; exact e
/-- a row of the parts: a part's row, one of its block, its end -/
structure InS (R : List Rw) (E H : List (DK × D)) (a : Nat) (l : List (Tx × Bk)) (k : Nat) (r : Rw) (w : Tx) (at_ n : Nat) : Prop where
  e : FE E k r
  h : FH H k r
  hk : HK R r
  ge : a ≤ at_
  le : at_ + n + 2 ≤ a + secN l
  sec : ∀ x, at_ ≤ x → x ≤ at_ + 1 + n → secOf a l x = w
  mem : w ∈ wordsS l
  hd : (w, at_) ∈ secD a l
  pl : ∀ j, j ≤ n → ∃ r, (secR a l)[at_ - a + 1 + j]? = some r ∧ (r.blk ∨ ∃ a, r = .partE a)
  cs : (k = at_ ∧ r = .part w (at_ + 1 + n)) ∨ (r.blk ∧ at_ + 1 ≤ k ∧ k < at_ + 1 + n ∧ ∀ t ∈ gos k r, at_ + 1 ≤ t ∧ t ≤ at_ + 1 + n) ∨ (k = at_ + 1 + n ∧ r = .partE at_)
theorem in_sec (R : List Rw) : ∀ (l : List (Tx × Bk)) (a : Nat) (E H : List (DK × D)) (j : Nat) (r : Rw), 1 ≤ a → Has R a (secR a l) → (secR a l)[j]? = some r → ∃ w at_ n, InS R (secE a l E) (secH a l H) a l (a + j) r w at_ n
  | [], a, E, H, j, r, ha, hh, h => by unfold secR at h; simp at h
  | (w, b) :: l, a, E, H, j, r, ha, hh, h => by
    unfold secR at hh h
    have r1 := hh.left.left.left.one
    have r2 := hh.left.left.right ha
    have r4 := hh.right ha
    simp only [List.length_append, List.length_singleton, bkR_len] at r2 r4
    have e4 : a + (1 + b.rows + 1) = a + b.rows + 2 := by omega
    rw [e4] at r4
    have hn := secN_cons (w := w) (b := b) (r := l)
    have sec : ∀ x, a ≤ x → x ≤ a + 1 + b.rows → secOf a ((w, b) :: l) x = w := fun x _ h2 => by unfold secOf; rw [if_pos h2]
    have mem : w ∈ wordsS ((w, b) :: l) := by simp [wordsS]
    have hd : (w, a) ∈ secD a ((w, b) :: l) := by unfold secD; simp
    rcases app_at h with ⟨c, h⟩ | ⟨j', e, h⟩
    · rcases app_at h with ⟨c, h⟩ | ⟨j', e, h⟩
      · rcases app_at h with ⟨c, h⟩ | ⟨j', e, h3⟩
        · obtain ⟨rfl, rfl⟩ := one_at h
          exact ⟨w, a, b.rows, trivial, trivial, trivial, Nat.le_refl _, by omega, sec, mem, hd, fun j hj => sec_pl1 hj, .inl ⟨rfl, rfl⟩⟩
        · have hl : j' < (bkR (a + 1) b).length := (List.getElem?_eq_some_iff.mp h3).1
          rw [bkR_len] at hl
          rw [List.length_singleton] at e
          subst e
          have i := in_bk R b (a + 1) E H j' r (by omega) r2 h3
          have ek : a + (1 + j') = a + 1 + j' := by omega
          rw [ek]
          refine ⟨w, a, b.rows, i.e.same ?_, i.h.same ?_, i.k, Nat.le_refl _, by omega, sec, mem, hd, fun j hj => sec_pl1 hj, .inr (.inl ⟨i.b, by omega, by omega, i.g⟩)⟩
          · unfold secE; rw [secE_out l _ _ _ (by omega), dget_i, if_neg (by omega)]
          · unfold secH; rw [secH_out l _ _ _ (by omega), dget_i, if_neg (by omega)]
      · obtain ⟨rfl, rfl⟩ := one_at h
        simp only [List.length_append, List.length_singleton, bkR_len] at e
        have ek : a + j = a + 1 + b.rows := by omega
        rw [ek]
        refine ⟨w, a, b.rows, trivial, ?_, ⟨ha, w, _, r1⟩, Nat.le_refl _, by omega, sec, mem, hd, fun j hj => sec_pl1 hj, .inr (.inr ⟨rfl, rfl⟩)⟩
        unfold FH secH
        rw [secH_out l _ _ _ (by omega), dget_i, if_pos rfl]
    · simp only [List.length_append, List.length_singleton, bkR_len] at e
      obtain ⟨w', at_, n, i⟩ := in_sec R l (a + b.rows + 2) (dput (bkE (a + 1) b E) (.i a) (.int ((a + 1 + b.rows : Nat) : Int))) (dput (bkH (a + 1) b H) (.i ((a + 1 + b.rows : Nat) : Int)) (.int a)) j' r (by omega) r4 h
      have ek : a + j = a + b.rows + 2 + j' := by omega
      rw [ek]
      have g1 := i.ge
      have g2 := i.le
      refine ⟨w', at_, n, by unfold secE; exact i.e, by unfold secH; exact i.h, i.hk, by omega, by omega, fun x h1 h2 => ?_, ?_, ?_, fun j hj => ?_, i.cs⟩
      · unfold secOf; rw [if_neg (by omega)]; exact i.sec x h1 h2
      · have := i.mem; simp [wordsS] at this ⊢; exact .inr this
      · unfold secD; exact List.mem_cons_of_mem _ i.hd
      · obtain ⟨r', p1, p2⟩ := i.pl j hj
        exact ⟨r', sec_plS g1 p1, p2⟩
end LK15
set_option Elab.async false
set_option linter.all false
set_option maxRecDepth 100000
set_option maxHeartbeats 400000
namespace LK15
open PySem PySem.Spec PyProof.Rows L2 DL
/-! walks over rows -/
def rowAt (secs : List (Tx × Bk)) (body : Bk) (k : Nat) : Option Rw := (allR secs body)[k - 1]?
def lastP (secs : List (Tx × Bk)) (body : Bk) : Nat := 3 + secN secs + body.rows
def hdOf (secs : List (Tx × Bk)) (p : Tx) : Nat := (((secD 3 secs).find? fun q => decide (q.1 = p)).map (·.2)).getD 0
def nxt (secs : List (Tx × Bk)) (k : Nat) (stk : List Nat) : Rw → List (Nat × List Nat)
  | .doo p => [(hdOf secs p + 1, stk ++ [k])]
  | .partE _ => [(stk.getLast?.getD 0 + 1, stk.dropLast)]
  | r => (gos k r).map fun t => (t, stk)
/-- callers, one behind the other -/
def Ch (secs : List (Tx × Bk)) (body : Bk) : Tx → List Nat → Tx → Prop
  | h, [], t => t = h
  | h, one :: r, t => secOf 3 secs one = h ∧ ∃ p, rowAt secs body one = some (.doo p) ∧ Ch secs body p r t
structure Inv (secs : List (Tx × Bk)) (body : Bk) (k : Nat) (stk : List Nat) : Prop where
  pl : k = lastP secs body ∨ ∃ r, rowAt secs body k = some r ∧ (r.blk ∨ ∃ a, r = .partE a)
  ge : 3 ≤ k
  ch : Ch secs body [] stk (secOf 3 secs k)
theorem hdOf_eq {secs : List (Tx × Bk)} {p : Tx} {a : Nat} (nd : (wordsS secs).Nodup) (h : (p, a) ∈ secD 3 secs) : hdOf secs p = a ∧ dget (hsD (secD 3 secs)) (.s p) = some (.int a) := by
  have h2 := hsD_get (hs := secD 3 secs) (by rw [secD_words]; exact nd) h
  refine ⟨?_, h2⟩
  have : ∀ L : List (Tx × Nat), (dget (hsD L) (.s p)) = ((L.find? fun q => decide (q.1 = p)).map (fun q : Tx × Nat => q.2)).map fun (a : Nat) => D.int (a : Int) := by
    intro L
    induction L with
    | nil => rfl
    | cons q L ih =>
      unfold dget at ih ⊢
      show Option.map _ (List.find? _ ((DK.s q.1, D.int q.2) :: hsD L)) = _
      by_cases c : q.1 = p
      · rw [List.find?_cons_of_pos (by simpa using c), List.find?_cons_of_pos (by simpa using c)]; rfl
      · rw [List.find?_cons_of_neg (by simpa using c), List.find?_cons_of_neg (by simpa using c)]; exact ih
  rw [this] at h2
  unfold hdOf
  cases e : ((secD 3 secs).find? fun q => decide (q.1 = p)).map (·.2) with
  | none => rw [e] at h2; cases h2
  | some x =>
    rw [e] at h2
    have : (D.int (x : Int)) = .int (a : Int) := by simpa using h2
    cases this; rfl
theorem secD_at : ∀ (l : List (Tx × Bk)) (a : Nat) (p : Tx), p ∈ wordsS l → ∃ at_ n, (p, at_) ∈ secD a l ∧ a ≤ at_ ∧ at_ + n + 2 ≤ a + secN l ∧ (∀ x, at_ ≤ x → x ≤ at_ + 1 + n → ((wordsS l).Nodup → secOf a l x = p)) ∧ (∀ j, j ≤ n → ∃ r, (secR a l)[at_ - a + 1 + j]? = some r ∧ (r.blk ∨ ∃ a, r = .partE a))
  | [], a, p, h => by cases h
  | (w, b) :: l, a, p, h => by
    have hn := secN_cons (w := w) (b := b) (r := l)
    by_cases c : p = w
    · subst c
      refine ⟨a, b.rows, by unfold secD; simp, Nat.le_refl _, by omega, fun x _ h2 _ => by unfold secOf; rw [if_pos h2], fun j hj => sec_pl1 hj⟩
    · have h' : p ∈ wordsS l := by
        simp [wordsS] at h ⊢
        rcases h with h | h
        · exact absurd h c
        · exact h
      obtain ⟨at_, n, h1, h2, h3, h4, h5⟩ := secD_at l (a + b.rows + 2) p h'
      refine ⟨at_, n, by unfold secD; exact List.mem_cons_of_mem _ h1, by omega, by omega, fun x x1 x2 nd => ?_, fun j hj => ?_⟩
      · unfold secOf; rw [if_neg (by omega)]; exact h4 x x1 x2 (List.nodup_cons.mp nd).2
      · obtain ⟨r, e1, e2⟩ := h5 j hj
        exact ⟨r, sec_plS h2 e1, e2⟩
mutual
theorem ok_dooI {cf : Cfg} {ah : List Tx} {p : Tx} : ∀ (i : It) (a j : Nat), i.ok cf ah → (itR a i)[j]? = some (.doo p) → p ∈ ah
  | .read l, a, j, _, h => by unfold itR at h; have := (one_at h).2; cases this
  | .copy l r, a, j, _, h => by unfold itR at h; have := (one_at h).2; cases this
  | .call l f as, a, j, _, h => by unfold itR at h; have := (one_at h).2; cases this
  | .doo q, a, j, ok, h => by unfold itR at h; have := (one_at h).2; cases this; unfold It.ok at ok; exact ok
  | .lp b, a, j, ok, h => by
    unfold It.ok at ok
    rcases lp_at h with ⟨_, e⟩ | ⟨j', _, _, h'⟩ | ⟨_, e⟩
    · cases e
    · exact ok_dooB b _ j' ok h'
    · cases e
  | .ei x y, a, j, ok, h => by
    unfold It.ok at ok
    rcases ei_at h with ⟨_, e⟩ | ⟨j', _, _, h'⟩ | ⟨_, e⟩ | ⟨j', _, _, h'⟩ | ⟨_, e⟩
    · cases e
    · exact ok_dooB x _ j' ok.1 h'
    · cases e
    · exact ok_dooB y _ j' ok.2 h'
    · cases e
theorem ok_dooB {cf : Cfg} {ah : List Tx} {p : Tx} : ∀ (b : Bk) (a j : Nat), b.ok cf ah → (bkR a b)[j]? = some (.doo p) → p ∈ ah
  | .nil, a, j, _, h => by unfold bkR at h; simp at h
  | .cons i r, a, j, ok, h => by
    unfold Bk.ok at ok
    unfold bkR at h
    rcases app_at h with ⟨_, h'⟩ | ⟨j', _, h'⟩
    · exact ok_dooI i _ j ok.1 h'
    · exact ok_dooB r _ j' ok.2 h'
end
theorem idx_lt {p w : Tx} : ∀ {L M : List Tx}, p ∈ L → w ∉ L → (L ++ w :: M).idxOf p < (L ++ w :: M).idxOf w
  | [], M, h, _ => by cases h
  | x :: L, M, h, hn => by
    have hx : x ≠ w := fun e => hn (by simp [e])
    rw [List.cons_append, List.idxOf_cons, List.idxOf_cons]
    have e2 : (x == w) = false := by simpa using hx
    rw [e2]
    by_cases c : x = p
    · have e1 : (x == p) = true := by simpa using c
      rw [e1]; simp
    · have e1 : (x == p) = false := by simpa using c
      rw [e1]
      have h' : p ∈ L := by
        rcases List.mem_cons.mp h with e | h
        · exact absurd e.symm c
        · exact h
      have := idx_lt (w := w) (M := M) h' (fun z => hn (List.mem_cons_of_mem _ z))
      simp only [cond_false]
      omega
/-- a part calls parts ahead of it -/
theorem sec_doo {cf : Cfg} {d : Nat} : ∀ (l : List (Tx × Bk)) (a : Nat) (ah : List Tx) (j : Nat) (p : Tx), SecOk cf d ah l → (secR a l)[j]? = some (.doo p) → p ∈ ah ++ wordsS l ∧ (ah ++ wordsS l).idxOf p < (ah ++ wordsS l).idxOf (secOf a l (a + j)) ∧ secOf a l (a + j) ∈ wordsS l
  | [], a, ah, j, p, _, h => by unfold secR at h; simp at h
  | (w, b) :: l, a, ah, j, p, ok, h => by
    unfold SecOk at ok
    obtain ⟨o1, o2, o3, o4⟩ := ok
    unfold secR at h
    have ew : ah ++ wordsS ((w, b) :: l) = ah ++ w :: wordsS l := rfl
    rcases app_at h with ⟨c, h⟩ | ⟨j', e, h⟩
    · simp only [List.length_append, List.length_singleton, bkR_len] at c
      have es : secOf a ((w, b) :: l) (a + j) = w := by unfold secOf; rw [if_pos (by omega)]
      have hp : p ∈ ah := by
        rcases app_at h with ⟨c, h⟩ | ⟨j', e, h⟩
        · rcases app_at h with ⟨c, h⟩ | ⟨j', e, h3⟩
          · have := (one_at h).2; cases this
          · exact ok_dooB b _ _ o2 h3
        · have := (one_at h).2; cases this
      rw [es, ew]
      exact ⟨by simp [hp], idx_lt hp o1, by simp [wordsS]⟩
    · simp only [List.length_append, List.length_singleton, bkR_len] at e
      have ih := sec_doo l (a + b.rows + 2) (ah ++ [w]) j' p o4 h
      have e2 : ah ++ [w] ++ wordsS l = ah ++ wordsS ((w, b) :: l) := by rw [List.append_assoc]; rfl
      rw [e2] at ih
      have e3 : a + b.rows + 2 + j' = a + j := by omega
      rw [e3] at ih
      have es : secOf a ((w, b) :: l) (a + j) = secOf (a + b.rows + 2) l (a + j) := by
        conv => lhs; unfold secOf
        rw [if_neg (by omega)]
      rw [es]
      exact ⟨ih.1, ih.2.1, by simp [wordsS] at ih ⊢; exact .inr ih.2.2⟩
end LK15
set_option Elab.async false
set_option linter.all false
set_option maxRecDepth 100000
set_option maxHeartbeats 400000
namespace LK15
open PySem PySem.Spec PyProof.Rows L2 DL
section
variable {cf : Cfg} {secs : List (Tx × Bk)} {body : Bk} {k : Nat} {stk : List Nat} {r : Rw}
/-- where a row is: in the body, or in a part -/
inductive Loc (secs : List (Tx × Bk)) (body : Bk) (k : Nat) (r : Rw) : Prop where
  | body (e : FE (finE secs body) k r) (h : FH (finH secs body) k r) (hk : HK (allR secs body) r) (b : r.blk) (ge : 3 + secN secs ≤ k) (lt : k < lastP secs body) (g : ∀ t ∈ gos k r, 3 + secN secs ≤ t ∧ t ≤ lastP secs body)
  | part (w : Tx) (at_ n : Nat) (i : InS (allR secs body) (finE secs body) (finH secs body) 3 secs k r w at_ n)
theorem loc_of (h : rowAt secs body k = some r) (hk : 3 ≤ k) : Loc secs body k r := by
  unfold rowAt at h
  have h2 := h
  unfold allR at h2
  rw [List.getElem?_append_right (by simp; omega)] at h2
  simp only [List.length_cons, List.length_nil] at h2
  have hs := allR_has (secs := secs) (body := body)
  rcases app_at h2 with ⟨c, h3⟩ | ⟨j', e, h3⟩
  · rw [secR_len] at c
    obtain ⟨w, at_, n, i⟩ := in_sec (allR secs body) secs 3 [] [] _ r (by omega) hs.left h3
    have ek : 3 + (k - 1 - (0 + 1 + 1)) = k := by omega
    rw [ek] at i
    have g1 := i.ge
    have g2 := i.le
    have kle : k ≤ at_ + 1 + n := by
      rcases i.cs with ⟨e, _⟩ | ⟨_, _, e, _⟩ | ⟨e, _⟩ <;> omega
    have kge : at_ ≤ k := by
      rcases i.cs with ⟨e, _⟩ | ⟨_, e, _, _⟩ | ⟨e, _⟩ <;> omega
    exact .part w at_ n ⟨i.e.same (bkE_out body _ _ _ (by omega)), i.h.same (bkH_out body _ _ _ (by omega)), i.hk, i.ge, i.le, i.sec, i.mem, i.hd, i.pl, i.cs⟩
  · rw [secR_len] at e
    have hb := hs.right (by omega)
    rw [secR_len] at hb
    have i := in_bk (allR secs body) body (3 + secN secs) (secE 3 secs []) (secH 3 secs []) j' r (by omega) hb h3
    have hl : j' < (bkR (3 + secN secs) body).length := (List.getElem?_eq_some_iff.mp h3).1
    rw [bkR_len] at hl
    have ek : 3 + secN secs + j' = k := by omega
    have i1 := i.e
    have i2 := i.h
    have i3 := i.g
    rw [ek] at i1 i2 i3
    exact .body i1 i2 i.k i.b (by omega) (by unfold lastP; omega) i3
theorem body_row {t : Nat} (h1 : 3 + secN secs ≤ t) (h2 : t ≤ lastP secs body) : t = lastP secs body ∨ ∃ r, rowAt secs body t = some r ∧ (r.blk ∨ ∃ a, r = .partE a) := by
  by_cases c : t = lastP secs body
  · exact .inl c
  · right
    unfold lastP at h2 c
    have hl : t - (3 + secN secs) < (bkR (3 + secN secs) body).length := by rw [bkR_len]; omega
    refine ⟨(bkR (3 + secN secs) body)[t - (3 + secN secs)], ?_, .inl ?_⟩
    · unfold rowAt allR
      rw [List.getElem?_append_right (by simp; omega), List.getElem?_append_right (by simp [secR_len]; omega)]
      simp only [List.length_cons, List.length_nil, secR_len]
      have e : t - 1 - (0 + 1 + 1) - secN secs = t - (3 + secN secs) := by omega
      rw [e]; exact List.getElem?_eq_getElem hl
    · have hs := allR_has (secs := secs) (body := body) |>.right (by omega)
      rw [secR_len] at hs
      exact (in_bk _ body (3 + secN secs) [] [] _ _ (by omega) hs (List.getElem?_eq_getElem hl)).b
theorem part_row {at_ n t : Nat} (ge : 3 ≤ at_) (le : at_ + n + 2 ≤ 3 + secN secs) (pl : ∀ j, j ≤ n → ∃ r, (secR 3 secs)[at_ - 3 + 1 + j]? = some r ∧ (r.blk ∨ ∃ a, r = .partE a)) (h1 : at_ + 1 ≤ t) (h2 : t ≤ at_ + 1 + n) : ∃ r, rowAt secs body t = some r ∧ (r.blk ∨ ∃ a, r = .partE a) := by
  obtain ⟨r, e1, e2⟩ := pl (t - (at_ + 1)) (by omega)
  refine ⟨r, ?_, e2⟩
  unfold rowAt allR
  rw [List.getElem?_append_right (by simp; omega), List.getElem?_append_left (by simp [secR_len]; omega)]
  simp only [List.length_cons, List.length_nil]
  have e : t - 1 - (0 + 1 + 1) = at_ - 3 + 1 + (t - (at_ + 1)) := by omega
  rw [e]; exact e1
theorem ch_snoc {p : Tx} : ∀ {stk : List Nat} {h s : Tx}, Ch secs body h stk s → secOf 3 secs k = s → rowAt secs body k = some (.doo p) → Ch secs body h (stk ++ [k]) p
  | [], h, s, c, e, hr => by
    have c : s = h := c
    exact ⟨e.trans c, p, hr, rfl⟩
  | one :: stk, h, s, c, e, hr => by
    obtain ⟨c1, q, c2, c3⟩ := c
    exact ⟨c1, q, c2, ch_snoc c3 e hr⟩
theorem ch_last1 : ∀ {stk : List Nat} {h w : Tx}, Ch secs body h stk w → stk ≠ [] → ∃ s' one, stk = s' ++ [one] ∧ rowAt secs body one = some (.doo w) ∧ Ch secs body h s' (secOf 3 secs one)
  | [], h, w, c, n => absurd rfl n
  | [one], h, w, c, n => by
    obtain ⟨c1, p, c2, c3⟩ := c
    have c3 : w = p := c3
    subst c3
    exact ⟨[], one, rfl, c2, c1⟩
  | one :: x :: xs, h, w, c, n => by
    obtain ⟨c1, p, c2, c3⟩ := c
    obtain ⟨s', o', e1, e2, e3⟩ := ch_last1 c3 (by simp)
    exact ⟨one :: s', o', by rw [e1]; rfl, e2, c1, p, c2, e3⟩
theorem ch_last {stk : List Nat} {h w : Tx} (c : Ch secs body h stk w) (n : w ≠ h) : ∃ s' one, stk = s' ++ [one] ∧ rowAt secs body one = some (.doo w) ∧ Ch secs body h s' (secOf 3 secs one) := by
  refine ch_last1 c fun e => ?_
  rw [e] at c
  exact n c
/-- a row that calls a part: the part is there, and stands ahead -/
theorem doo_part (ok : RowsOk cf secs body) {p : Tx} (h : rowAt secs body k = some (.doo p)) (hk : 3 ≤ k) : p ∈ wordsS secs ∧ (secOf 3 secs k = [] ∨ (wordsS secs).idxOf p < (wordsS secs).idxOf (secOf 3 secs k) ∧ secOf 3 secs k ∈ wordsS secs) := by
  unfold rowAt allR at h
  rw [List.getElem?_append_right (by simp; omega)] at h
  simp only [List.length_cons, List.length_nil] at h
  rcases app_at h with ⟨c, h3⟩ | ⟨j', e, h3⟩
  · have := sec_doo secs 3 [] _ p ok.so h3
    have e : 3 + (k - 1 - (0 + 1 + 1)) = k := by omega
    rw [e, List.nil_append] at this
    exact ⟨this.1, .inr this.2⟩
  · rw [secR_len] at e
    exact ⟨ok_dooB body _ _ ok.bo h3, .inl (secOf_body secs 3 k (by omega))⟩
/-- the row behind a row of a block is in the same part -/
theorem next_in (h : rowAt secs body k = some r) (hk : 3 ≤ k) (hb : r.blk) : secOf 3 secs (k + 1) = secOf 3 secs k ∧ (k + 1 = lastP secs body ∨ ∃ r, rowAt secs body (k + 1) = some r ∧ (r.blk ∨ ∃ a, r = .partE a)) := by
  rcases loc_of h hk with ⟨_, _, _, _, ge, lt, _⟩ | ⟨w, at_, n, i⟩
  · exact ⟨by rw [secOf_body secs 3 _ (by omega), secOf_body secs 3 _ (by omega)], body_row (by omega) (by omega)⟩
  · rcases i.cs with ⟨_, e⟩ | ⟨_, e1, e2, _⟩ | ⟨_, e⟩
    · rw [e] at hb; exact hb.elim
    · exact ⟨by rw [i.sec _ (by omega) (by omega), i.sec _ (by omega) (by omega)], .inr (part_row i.ge i.le i.pl (by omega) (by omega))⟩
    · rw [e] at hb; exact hb.elim
theorem inv_step (ok : RowsOk cf secs body) (I : Inv secs body k stk) (hr : rowAt secs body k = some r) (hb : r.blk ∨ ∃ a, r = .partE a) (hne : ∀ w ∈ wordsS secs, w ≠ []) : ∀ q ∈ nxt secs k stk r, Inv secs body q.1 q.2 := by
  have ge := I.ge
  have ch := I.ch
  -- rows that stay
  have stay : r.blk → ∀ t ∈ gos k r, Inv secs body t stk := fun hb t ht => by
    rcases loc_of hr ge with ⟨_, _, _, _, ge2, lt, g⟩ | ⟨w, at_, n, i⟩
    · have := g t ht
      refine ⟨body_row this.1 this.2, by omega, ?_⟩
      rw [secOf_body secs 3 t (by omega)]
      rw [secOf_body secs 3 k (by omega)] at ch
      exact ch
    · rcases i.cs with ⟨_, e⟩ | ⟨_, e1, e2, g⟩ | ⟨_, e⟩
      · rw [e] at hb; exact hb.elim
      · have := g t ht
        have g1 := i.ge
        refine ⟨.inr (part_row i.ge i.le i.pl (by omega) (by omega)), by omega, ?_⟩
        rw [i.sec t (by omega) (by omega)]
        rw [i.sec k (by omega) (by omega)] at ch
        exact ch
      · rw [e] at hb; exact hb.elim
  intro q hq
  cases r with
  | doo p =>
    have e : q = (hdOf secs p + 1, stk ++ [k]) := by simpa [nxt] using hq
    subst e
    obtain ⟨h1, _⟩ := doo_part ok hr ge
    obtain ⟨at_, n, a1, a2, a3, a4, a5⟩ := secD_at secs 3 p h1
    have e2 := (hdOf_eq ok.nd a1).1
    show Inv secs body (hdOf secs p + 1) (stk ++ [k])
    rw [e2]
    refine ⟨.inr (part_row a2 a3 a5 (by omega) (by omega)), by omega, ?_⟩
    rw [a4 _ (by omega) (by omega) ok.nd]
    exact ch_snoc ch rfl hr
  | partE a =>
    have e : q = (stk.getLast?.getD 0 + 1, stk.dropLast) := by simpa [nxt] using hq
    subst e
    rcases loc_of hr ge with ⟨_, _, _, b, _⟩ | ⟨w, at_, n, i⟩
    · exact b.elim
    · rcases i.cs with ⟨_, e⟩ | ⟨b, _⟩ | ⟨e1, _⟩
      · cases e
      · exact b.elim
      · rw [i.sec k (by omega) (by omega)] at ch
        obtain ⟨s', one, e2, e3, e4⟩ := ch_last ch (hne w i.mem)
        have hone : 3 ≤ one := by
          by_cases c : 3 ≤ one
          · exact c
          · exfalso
            unfold rowAt allR at e3
            have : one - 1 = 0 ∨ one - 1 = 1 := by omega
            rcases this with z | z <;> (rw [z] at e3; simp at e3)
        have nx := next_in e3 hone trivial
        show Inv secs body (stk.getLast?.getD 0 + 1) stk.dropLast
        rw [e2]
        simp only [List.getLast?_append, List.getLast?_singleton, Option.some_or, Option.getD_some, List.dropLast_concat]
        refine ⟨nx.2, by omega, ?_⟩
        rw [nx.1]; exact e4
  | part w e => rcases hb with hb | ⟨a, hb⟩ <;> first | exact hb.elim | cases hb
  | nm => rcases hb with hb | ⟨a, hb⟩ <;> first | exact hb.elim | cases hb
  | kp => rcases hb with hb | ⟨a, hb⟩ <;> first | exact hb.elim | cases hb
  | _ =>
    obtain ⟨t, ht, e⟩ := List.mem_map.mp hq
    subst e
    exact stay trivial t ht
/-- there are not more callers than parts -/
def rk (secs : List (Tx × Bk)) (t : Tx) : Nat := if t = [] then secs.length else (wordsS secs).idxOf t
theorem ch_len (ok : RowsOk cf secs body) (hne : ∀ w ∈ wordsS secs, w ≠ []) : ∀ {stk : List Nat} {h t : Tx}, Ch secs body h stk t → stk.length + rk secs t ≤ rk secs h
  | [], h, t, c => by
    have c : t = h := c
    subst c; simp
  | one :: stk, h, t, c => by
    obtain ⟨c1, p, c2, c3⟩ := c
    have ih := ch_len ok hne c3
    have hone : 3 ≤ one := by
      by_cases c : 3 ≤ one
      · exact c
      · exfalso
        unfold rowAt allR at c2
        have : one - 1 = 0 ∨ one - 1 = 1 := by omega
        rcases this with z | z <;> (rw [z] at c2; simp at c2)
    obtain ⟨h1, h2⟩ := doo_part ok c2 hone
    have hp : rk secs p < rk secs h := by
      unfold rk
      rw [if_neg (hne p h1)]
      rw [c1] at h2
      rcases h2 with h2 | ⟨h2, h3⟩
      · rw [if_pos h2]
        have := List.idxOf_lt_length_of_mem h1
        simpa [wordsS] using this
      · rw [if_neg (hne h h3)]; exact h2
    rw [List.length_cons]; omega
theorem inv_first (ok : RowsOk cf secs body) : Inv secs body (3 + secN secs) [] :=
  ⟨body_row (Nat.le_refl _) (by unfold lastP; omega), by omega, secOf_body secs 3 _ (Nat.le_refl _)⟩
end
end LK15
set_option Elab.async false
set_option linter.all false
set_option maxRecDepth 100000
set_option maxHeartbeats 400000
namespace DL
open PySem PySem.Spec PyProof.Rows L2
section
variable {T : Tb} {P : Pg} {G : Gam} {ds : Slt} {hd : Hd} {Q : EV → Hd → Prop}
theorem e_make {sl : Bool} {c f : Nat} {es : IEs} (h : P.ini c = some f) : wpE T P G (.make sl c es) ds hd Q = wpEs T P G es ds hd fun l hd1 => ∀ p, hd1 p = none → G f (.ref p :: l) (put hd1 p (.ins c [])) fun ev hd2 => match ev with
      | .v .non => match sl with
        | false => Q (.v (.ref p)) hd2
        | true => match hd2 p with
          | some (.ins c' fs) => Q (.no c' (shutF (del hd2 p) fs).1) (shutF (del hd2 p) fs).2
          | _ => False
      | _ => False := by
  refine propext ?_
  have e : wpE T P G (.make sl c es) ds hd Q = wpEs T P G es ds hd fun l hd1 => match P.ini c with
    | some f => ∀ p, hd1 p = none → G f (.ref p :: l) (put hd1 p (.ins c [])) fun ev hd2 => match ev with
      | .v .non => match sl with
        | false => Q (.v (.ref p)) hd2
        | true => match hd2 p with
          | some (.ins c' fs) => Q (.no c' (shutF (del hd2 p) fs).1) (shutF (del hd2 p) fs).2
          | _ => False
      | _ => False
    | none => False := propext Iff.rfl
  rw [e, h]
theorem mem_joinT {c : Nat} {y : Tx} : ∀ {xs : List Tx}, c ∈ joinT y xs → c ∈ y ∨ ∃ x ∈ xs, c ∈ x
  | [], h => by cases h
  | [x], h => .inr ⟨x, by simp, h⟩
  | x :: z :: r, h => by
    have h : c ∈ x ++ y ++ joinT y (z :: r) := h
    rcases List.mem_append.mp h with h | h
    · rcases List.mem_append.mp h with h | h
      · exact .inr ⟨x, by simp, h⟩
      · exact .inl h
    · rcases mem_joinT h with h | ⟨w, h1, h2⟩
      · exact .inl h
      · exact .inr ⟨w, by simp at h1 ⊢; exact .inr h1, h2⟩
end
end DL
namespace LK15
open PySem PySem.Spec PyProof.Rows L2 DL
section
variable {K : PySem.W.Frag}
theorem p8 : M.pg.fn 8 = some f8 := by kernel_rfl
theorem p18 : M.pg.fn 18 = some f18 := by kernel_rfl
abbrev tNames : Tx := [110, 97, 109, 101, 115]
abbrev tKeep : Tx := [107, 101, 101, 112]
/-- the lines of a program -/
def allT (ls sv : List Tx) (secs : List (Tx × Bk)) (body : Bk) : List Tx := [tNames ++ [32] ++ joinT [32] ls, tKeep ++ [32] ++ joinT [32] sv] ++ (secR 3 secs ++ bkR (3 + secN secs) body).map Rw.ln
structure PTok (cf : Cfg) (cs : List (Tx × Nat)) (ls sv : List Tx) (secs : List (Tx × Bk)) (body : Bk) : Prop where
  hls : ∀ w ∈ ls, isW w = true
  ndl : ls.Nodup
  l1 : 1 ≤ ls.length
  l2 : ls.length ≤ 16
  s0 : sv ≠ []
  sf : ls.filter (fun w => sv.contains w) = sv
  rows : RowsOk cf secs body
  fine : ∀ r ∈ secR 3 secs ++ bkR (3 + secN secs) body, r.fine ls
  wfa : ∀ r ∈ allR secs body, r.wfa cs
  fn : fun1 cs
theorem w_noc {w : Tx} (h : isW w = true) : 10 ∉ w := w_no h (by decide)
theorem ln_no {ls : List Tx} (hw : ∀ w ∈ ls, isW w = true) {r : Rw} (h : r.fine ls) : 10 ∉ r.ln ∧ r.ln.length ≤ 200 := by
  cases r with
  | asg i =>
    refine ⟨?_, line_len hw h⟩
    cases i with
    | read l => have := w_noc (hw l h); simp [Rw.ln, lineT, this]
    | copy l r => have := w_noc (hw l h.1); have := w_noc (hw r h.2); simp [Rw.ln, lineT, *]
    | call l f as =>
      obtain ⟨h1, h2, h3, h4⟩ := h
      have a1 := w_noc (hw l h1)
      have a2 := w_noc h2
      have a3 : 10 ∉ joinT [44, 32] as := fun z => by
        rcases mem_joinT z with z | ⟨x, hx, z⟩
        · revert z; decide
        · exact w_noc (hw x (h4 x hx)) z
      simp [Rw.ln, lineT, a1, a2, a3]
    | _ => exact h.elim
  | doo p => have a1 := w_noc h; have := w_len h; simp [Rw.ln, a1]; omega
  | part p e => have a1 := w_noc h; have := w_len h; simp [Rw.ln, a1]; omega
  | nm => exact h.elim
  | kp => exact h.elim
  | _ => simp [Rw.ln]
theorem join_len9 {ws : List Tx} (hw : ∀ w ∈ ws, isW w = true) : (joinT [32] ws).length ≤ 10 * ws.length := by
  have h12 := joinT_len (y := [32]) ws
  have h13 : (ws.map List.length).sum ≤ 9 * ws.length := by
    clear h12
    induction ws with
    | nil => simp
    | cons a as ih =>
      have := ih (fun x hx => hw x (by simp [hx]))
      have := w_len (hw a (by simp))
      simp; omega
  simp at h12
  omega
section
variable {cf : Cfg} {cs : List (Tx × Nat)} {ls sv : List Tx} {secs : List (Tx × Bk)} {body : Bk}
theorem PTok.svw (h : PTok cf cs ls sv secs body) : (∀ w ∈ sv, isW w = true) ∧ sv.Nodup ∧ sv.length ≤ 16 := by
  have e := h.sf
  refine ⟨fun w hw => ?_, ?_, ?_⟩
  · rw [← e] at hw; exact h.hls w (List.mem_filter.mp hw).1
  · rw [← e]; exact h.ndl.filter _
  · have : (ls.filter fun w => sv.contains w).length ≤ ls.length := List.length_filter_le _ _
    rw [e] at this
    have := h.l2; omega
theorem PTok.lines (h : PTok cf cs ls sv secs body) : (∀ l ∈ allT ls sv secs body, 10 ∉ l ∧ l.length ≤ 200) ∧ (allT ls sv secs body).length = (allR secs body).length := by
  obtain ⟨s1, s2, s3⟩ := h.svw
  have l2 := h.l2
  have jn : ∀ ws : List Tx, (∀ w ∈ ws, isW w = true) → 10 ∉ joinT [32] ws := fun ws hw z => by
    rcases mem_joinT z with z | ⟨x, hx, z⟩
    · revert z; decide
    · exact w_noc (hw x hx) z
  have b1 := join_len9 h.hls
  have b2 := join_len9 s1
  refine ⟨fun l hl => ?_, ?_⟩
  · unfold allT at hl
    rcases List.mem_append.mp hl with hl | hl
    · simp only [List.mem_cons, List.not_mem_nil, or_false] at hl
      rcases hl with rfl | rfl
      · have := jn ls h.hls; simp [this]; omega
      · have := jn sv s1; simp [this]; omega
    · obtain ⟨r, hr, rfl⟩ := List.mem_map.mp hl
      exact ln_no h.hls (h.fine r hr)
  · unfold allT allR; simp
/-- the text -/
abbrev txtP (ls sv : List Tx) (secs : List (Tx × Bk)) (body : Bk) : Tx := joinT [10] (allT ls sv secs body)
theorem PTok.text (h : PTok cf cs ls sv secs body) : splitT [10] (txtP ls sv secs body) = allT ls sv secs body ∧ (txtP ls sv secs body).length ≤ 20000 := by
  obtain ⟨h1, h2⟩ := h.lines
  refine ⟨split_join (by unfold allT; simp) fun x hx => (h1 x hx).1, ?_⟩
  have h3 := joinT_len (y := [10]) (allT ls sv secs body)
  have h4 : ((allT ls sv secs body).map List.length).sum ≤ 200 * (allT ls sv secs body).length := by
    have : ∀ L : List Tx, (∀ l ∈ L, l.length ≤ 200) → (L.map List.length).sum ≤ 200 * L.length := by
      intro L
      induction L with
      | nil => simp
      | cons a as ih =>
        intro hL
        have := ih (fun x hx => hL x (by simp [hx]))
        have := hL a (by simp)
        simp; omega
    exact this _ fun l hl => (h1 l hl).2
  have h5 := allR_len (secs := secs) (body := body)
  have h6 := h.rows.len
  unfold txtP
  simp at h3
  omega
end
end
end LK15
set_option Elab.async false
set_option linter.all false
set_option maxRecDepth 100000
set_option maxHeartbeats 400000
namespace LK15
open PySem PySem.Spec PyProof.Rows L2 DL
section
variable {K : PySem.W.Frag}
variable {cf : Cfg} {cs : List (Tx × Nat)} {ls sv : List Tx} {secs : List (Tx × Bk)} {body : Bk}
theorem so10 : sepOk [10] = true := by decide
theorem tr_strs {hd : Hd} {ws : List Tx} (h : ws ≠ []) : truth hd (.lst (ws.map .str)) = some true := by
  cases ws with
  | nil => exact absurd rfl h
  | cons w ws => rfl
theorem o_idic0 {hd : Hd} {Q : EV → Hd → Prop} : oDic0 hd [] Q = Q (.nd []) hd := propext Iff.rfl
theorem vins {hd : Hd} {p : Addr} {c : Nat} {fs : List (Nat × D)} : view (put hd p (.ins c fs)) (.ref p) = .obj c fs := by rw [v_ref, put_same]
/-- the fields of a plan that is made -/
def plZ (ls sv : List Tx) (secs : List (Tx × Bk)) (body : Bk) (e h d : D) : List (Nat × D) := plF (allT ls sv secs body) ls sv (allR secs body) e h d (3 + secN secs) ++ [(0, .bl true)]
theorem init_ok {n : Nat} {hd : Hd} {p : Addr} {Q : EV → Hd → Prop} (ok : PTok cf cs ls sv secs body) (hp : hd p = some (.ins 0 []))
    (k : ∀ (hd2 : Hd) (eA hA dA : Addr), hd2 p = some (.ins 0 (plZ ls sv secs body (.ref eA) (.ref hA) (.ref dA))) → hd2 eA = some (.dic (finE secs body)) → hd2 hA = some (.dic (finH secs body)) → hd2 dA = some (.dic (hsD (secD 3 secs))) → eA ≠ hA → eA ≠ dA → hA ≠ dA → p ≠ eA → p ≠ hA → p ≠ dA → hd eA = none → hd hA = none → hd dA = none → (∀ x, x ≠ p → x ≠ eA → x ≠ hA → x ≠ dA → hd2 x = hd x) → Q (.v .non) hd2) :
    gam (M.tb K) M.pg (n + 6) 8 [.ref p, .str (txtP ls sv secs body), .int 16, .int 80, .int 9] hd Q := by
  refine gam_at p8 rfl ?_
  unfold f8
  obtain ⟨t1, t2⟩ := ok.text
  obtain ⟨s1, s2, s3⟩ := ok.svw
  have hlen := ok.lines.2
  have hl2 := allR_len (secs := secs) (body := body)
  have hl3 := ok.rows.len
  have bn := ok.rows.bn
  have hb : 1 ≤ body.rows := by
    cases body with
    | nil => exact absurd rfl bn
    | cons i r => have := itR_len i 0; unfold Bk.rows; cases i <;> simp [It.rows] <;> omega
  have n1 : ls ≠ [] := fun e => by have := ok.l1; rw [e] at this; simp at this
  generalize txtP ls sv secs body = text at t1 t2
  simp [-s_ife, o_split, so10, t1]
  refine ⟨by omega, ?_⟩
  rw [set_at_ hp]
  refine ⟨rfl, by simp, ?_⟩
  have f0 : fput [] 9 (.lst ((allT ls sv secs body).map .str)) = [(9, .lst ((allT ls sv secs body).map .str))] := rfl
  rw [f0, o_attr vins na9 (d := .lst ((allT ls sv secs body).map .str)) rfl]
  have g0 : atI ((allT ls sv secs body).map D.str) 0 = some (.str (tNames ++ [32] ++ joinT [32] ls)) := at_get (n := 0) rfl
  have g1 : atI ((allT ls sv secs body).map D.str) 1 = some (.str (tKeep ++ [32] ++ joinT [32] sv)) := at_get (n := 1) rfl
  simp only [d_v, ix_lit, g0]
  refine rdwords_ok (by decide) (by decide) ok.hls (by have := ok.l2; omega) n1 ok.ndl ?_
  simp only [d_nl, tr_strs n1]
  rw [set_at_ put_same]
  refine ⟨rfl, by simp, ?_⟩
  rw [put_put]
  have f1 : fput [(9, D.lst ((allT ls sv secs body).map .str))] 10 (.lst (ls.map .str)) = [(9, .lst ((allT ls sv secs body).map .str)), (10, .lst (ls.map .str))] := rfl
  rw [f1, o_attr vins na9 (d := .lst ((allT ls sv secs body).map .str)) rfl]
  have l1 : decide ((1 : Int) < ((allT ls sv secs body).map D.str).length) = true := by rw [List.length_map, hlen]; simp; omega
  simp only [d_v, o_lenL, o_cmp, l1]
  rw [o_attr vins na9 (d := .lst ((allT ls sv secs body).map .str)) rfl]
  simp only [d_v, ix_lit, g1]
  refine rdwords_ok (by decide) (by decide) s1 (by omega) ok.s0 s2 ?_
  simp only [d_nl, tr_strs ok.s0, d_v]
  rw [set_at_ put_same]
  refine ⟨rfl, by simp, ?_⟩
  rw [put_put]
  have f2 : fput [(9, D.lst ((allT ls sv secs body).map .str)), (10, .lst (ls.map .str))] 11 (.lst (sv.map .str)) = [(9, .lst ((allT ls sv secs body).map .str)), (10, .lst (ls.map .str)), (11, .lst (sv.map .str))] := rfl
  rw [f2, o_attr vins na9 (d := .lst ((allT ls sv secs body).map .str)) rfl]
  have c2 : DL.cutD ((allT ls sv secs body).map D.str) (some 2) none = ((secR 3 secs ++ bkR (3 + secN secs) body).map Rw.ln).map .str := cutD_from (n := 2)
  simp only [d_v, o_slL1, c2, d_nl, walkD, v_lst]
  rw [List.map_map]
  have lr : (secR 3 secs ++ bkR (3 + secN secs) body).length ≤ 78 := by rw [List.length_append, secR_len, bkR_len]; exact hl3
  refine ⟨by rw [List.length_map]; omega, ?_⟩
  refine turns_fm (gd := none) (hd := put hd p (.ins 0 [(9, .lst ((allT ls sv secs body).map .str)), (10, .lst (ls.map .str)), (11, .lst (sv.map .str))])) (D.str ∘ Rw.ln) (fun r => some r.act) trivial _ [] (fun r hr K hK => ?_) ?_
  · rw [o_attr vins na10 (d := .lst (ls.map .str)) rfl]
    exact rdrow_ok (n := n + 1) ok.hls (ok.fine r hr) hK
  · have e1 : ∀ L : List Rw, L.filterMap (fun r => some r.act) = L.map Rw.act := fun L => by simp
    rw [e1, List.nil_append]
    have e2 : [D.tup [.str tNames], D.tup [.str tKeep]] ++ (secR 3 secs ++ bkR (3 + secN secs) body).map Rw.act = (allR secs body).map Rw.act := rfl
    rw [oadd_lst (a := [D.tup [.str tNames], D.tup [.str tKeep]]) (b := (secR 3 secs ++ bkR (3 + secN secs) body).map Rw.act) rfl rfl, e2]
    refine ⟨by simp at lr ⊢; omega, ?_⟩
    simp only [d_nl]
    rw [set_at_ put_same]
    refine ⟨rfl, by simp, ?_⟩
    rw [put_put]
    have f3 : fput [(9, D.lst ((allT ls sv secs body).map .str)), (10, .lst (ls.map .str)), (11, .lst (sv.map .str))] 8 (.lst ((allR secs body).map Rw.act)) = [(9, .lst ((allT ls sv secs body).map .str)), (10, .lst (ls.map .str)), (11, .lst (sv.map .str)), (8, .lst ((allR secs body).map Rw.act))] := rfl
    rw [f3]
    simp [-s_ife, o_idic0]
    intro eA hA' hA hB dA hC
    have pe : p ≠ eA := fun e => by rw [e, put_same] at hA'; cases hA'
    have eh : eA ≠ hA := fun e => by rw [e, put_same] at hB; cases hB
    have ph : p ≠ hA := fun e => by rw [put_ne (fun z => eh z.symm), ← e, put_same] at hB; cases hB
    have hd' : hA ≠ dA := fun e => by rw [e, put_same] at hC; cases hC
    have ed : eA ≠ dA := fun e => by rw [put_ne (fun z => hd' z.symm), ← e, put_same] at hC; cases hC
    have pd : p ≠ dA := fun e => by rw [put_ne (fun z => hd' z.symm), put_ne (fun z => ed z.symm), ← e, put_same] at hC; cases hC
    have n2 : ∀ x, put hd p (.ins 0 [(9, .lst ((allT ls sv secs body).map .str)), (10, .lst (ls.map .str)), (11, .lst (sv.map .str)), (8, .lst ((allR secs body).map Rw.act))]) x = none → x ≠ p → hd x = none := fun x h c => by rw [put_ne c] at h; exact h
    have z1 := n2 eA hA' (fun z => pe z.symm)
    have z2 := n2 hA (by rw [put_ne (fun z => eh z.symm)] at hB; exact hB) (fun z => ph z.symm)
    have z3 := n2 dA (by rw [put_ne (fun z => hd' z.symm), put_ne (fun z => ed z.symm)] at hC; exact hC) (fun z => pd z.symm)
    have q0 : put (put (put (put hd p (.ins 0 [(9, .lst ((allT ls sv secs body).map .str)), (10, .lst (ls.map .str)), (11, .lst (sv.map .str)), (8, .lst ((allR secs body).map Rw.act))])) eA (.dic [])) hA (.dic [])) dA (.dic []) p = some (.ins 0 [(9, .lst ((allT ls sv secs body).map .str)), (10, .lst (ls.map .str)), (11, .lst (sv.map .str)), (8, .lst ((allR secs body).map Rw.act))]) := by
      rw [put_ne pd, put_ne ph, put_ne pe, put_same]
    have q1 : put (put (put (put hd p (.ins 0 [(9, .lst ((allT ls sv secs body).map .str)), (10, .lst (ls.map .str)), (11, .lst (sv.map .str)), (8, .lst ((allR secs body).map Rw.act))])) eA (.dic [])) hA (.dic [])) dA (.dic []) eA = some (.dic []) := by
      rw [put_ne ed, put_ne eh, put_same]
    have q2 : put (put (put (put hd p (.ins 0 [(9, .lst ((allT ls sv secs body).map .str)), (10, .lst (ls.map .str)), (11, .lst (sv.map .str)), (8, .lst ((allR secs body).map Rw.act))])) eA (.dic [])) hA (.dic [])) dA (.dic []) hA = some (.dic []) := by
      rw [put_ne hd', put_same]
    have q3 : put (put (put (put hd p (.ins 0 [(9, .lst ((allT ls sv secs body).map .str)), (10, .lst (ls.map .str)), (11, .lst (sv.map .str)), (8, .lst ((allR secs body).map Rw.act))])) eA (.dic [])) hA (.dic [])) dA (.dic []) dA = some (.dic []) := put_same
    have q4 : ∀ x, x ≠ p → x ≠ eA → x ≠ hA → x ≠ dA → put (put (put (put hd p (.ins 0 [(9, .lst ((allT ls sv secs body).map .str)), (10, .lst (ls.map .str)), (11, .lst (sv.map .str)), (8, .lst ((allR secs body).map Rw.act))])) eA (.dic [])) hA (.dic [])) dA (.dic []) x = hd x := fun x x1 x2 x3 x4 => by
      rw [put_ne x4, put_ne x3, put_ne x2, put_ne x1]
    generalize put (put (put (put hd p (.ins 0 [(9, .lst ((allT ls sv secs body).map .str)), (10, .lst (ls.map .str)), (11, .lst (sv.map .str)), (8, .lst ((allR secs body).map Rw.act))])) eA (.dic [])) hA (.dic [])) dA (.dic []) = H at q0 q1 q2 q3 q4
    rw [set_at_ q0]
    refine ⟨rfl, by simp, ?_⟩
    rw [set_at_ put_same]
    refine ⟨rfl, by simp [fput], ?_⟩
    rw [set_at_ put_same]
    refine ⟨rfl, by simp [fput], ?_⟩
    rw [set_at_ put_same]
    refine ⟨rfl, by simp [fput], ?_⟩
    rw [put_put, put_put, put_put]
    have f4 : fput (fput (fput (fput [(9, D.lst ((allT ls sv secs body).map .str)), (10, .lst (ls.map .str)), (11, .lst (sv.map .str)), (8, .lst ((allR secs body).map Rw.act))] 4 (.ref eA)) 5 (.ref hA)) 6 (.ref dA)) 7 (.int 0) = plF (allT ls sv secs body) ls sv (allR secs body) (.ref eA) (.ref hA) (.ref dA) 0 := rfl
    rw [f4]
    have pr : Pre (put H p (.ins 0 (plF (allT ls sv secs body) ls sv (allR secs body) (.ref eA) (.ref hA) (.ref dA) 0))) p eA hA dA (allT ls sv secs body) ls sv (allR secs body) [] [] [] 0 :=
      ⟨put_same, (put_ne (fun z => pe z.symm)).trans q1, (put_ne (fun z => ph z.symm)).trans q2, (put_ne (fun z => pd z.symm)).trans q3⟩
    have mk : ∀ (hd1 : Hd) (f : Nat), hd1 p = some (.ins 0 (plF (allT ls sv secs body) ls sv (allR secs body) (.ref eA) (.ref hA) (.ref dA) f)) → PlA hd1 (.ref p) (plF (allT ls sv secs body) ls sv (allR secs body) (.ref eA) (.ref hA) (.ref dA) f) cs (allR secs body) := fun hd1 f h1 =>
      ⟨by rw [v_ref, h1], rfl, ok.wfa, by omega, fun m hm => by
        simp only [List.mem_cons, List.not_mem_nil, or_false] at hm
        rcases hm with rfl | rfl | rfl | rfl | rfl | rfl | rfl | rfl | rfl <;> rfl⟩
    have me1 : M.pg.me 0 1 = some 9 := rfl
    have me2 : M.pg.me 0 2 = some 10 := rfl
    have me3 : M.pg.me 0 3 = some 13 := rfl
    rw [vins]
    simp only [me1]
    refine ⟨rfl, headed_ok (ls := ls) (sv := sv) (lines := allT ls sv secs body) (mk _ 0 put_same) rfl rfl rfl ok.l1 ok.l2 (by omega) (by omega) ok.s0 ok.sf ?_⟩
    simp only [d_v, tr_bl, vins, me2]
    refine ⟨rfl, laid_ok (n := n + 2) pr eh ed hd' pe ph pd ok.wfa hlen ok.rows fun hd2 p2 fr2 => ?_⟩
    have v2 : view hd2 (.ref p) = .obj 0 (plF (allT ls sv secs body) ls sv (allR secs body) (.ref eA) (.ref hA) (.ref dA) (3 + secN secs)) := by rw [v_ref, p2.s_]
    simp only [d_v, tr_bl, v2, me3]
    refine ⟨rfl, rcalls_ok (n := n + 1) ok.fn (mk _ _ p2.s_) ?_⟩
    simp only [d_v]
    rw [set_at_ p2.s_]
    refine ⟨rfl, by simp [plF], _, Sub.refl _, k _ eA hA dA put_same ((put_ne (fun z => pe z.symm)).trans p2.e_) ((put_ne (fun z => ph z.symm)).trans p2.h_) ((put_ne (fun z => pd z.symm)).trans p2.d_) eh ed hd' pe ph pd z1 z2 z3 fun x x1 x2 x3 x4 => ?_⟩
    rw [put_ne x1, fr2 x x1 x2 x3 x4, put_ne x1]
    exact q4 x x1 x2 x3 x4
/-- the plan that stands still -/
def planO (ls sv : List Tx) (secs : List (Tx × Bk)) (body : Bk) : D := .obj 0 (plZ ls sv secs body (.dic (finE secs body)) (.dic (finH secs body)) (.dic (hsD (secD 3 secs))))
theorem shut_pl {h : Hd} {eA hA dA : Addr} {lines ls sv : List Tx} {R : List Rw} {kE kH kD : List (DK × D)} {f : Nat} (h1 : h eA = some (.dic kE)) (h2 : h hA = some (.dic kH)) (h3 : h dA = some (.dic kD)) (n1 : eA ≠ hA) (n2 : eA ≠ dA) (n3 : hA ≠ dA) :
    shutF h (plF lines ls sv R (.ref eA) (.ref hA) (.ref dA) f ++ [(0, .bl true)]) = (plF lines ls sv R (.dic kE) (.dic kH) (.dic kD) f ++ [(0, .bl true)], del (del (del h eA) hA) dA) := by
  have e2 : del h eA hA = some (.dic kH) := (del_nq (fun z => n1 z.symm)).trans h2
  have e3 : del (del h eA) hA dA = some (.dic kD) := (del_nq (fun z => n3 z.symm)).trans ((del_nq (fun z => n2 z.symm)).trans h3)
  simp [plF, shutF, h1, e2, e3]
def progO (ls sv : List Tx) (secs : List (Tx × Bk)) (body : Bk) : List (Nat × D) := [(18, planO ls sv secs body), (17, .str (txtP ls sv secs body))]
theorem ini0 : M.pg.ini 0 = some 8 := rfl
theorem ini1 : M.pg.ini 1 = some 18 := rfl
theorem na18 : (M.tb K).na 1 18 = true := rfl
theorem na17 : (M.tb K).na 1 17 = true := rfl
theorem na0 : (M.tb K).na 0 0 = true := rfl
theorem prog_ok {n : Nat} {hd : Hd} {p : Addr} {Q : EV → Hd → Prop} (ok : PTok cf cs ls sv secs body) (hp : hd p = none)
    (k : Q (.v .non) (put hd p (.ins 1 (progO ls sv secs body)))) :
    gam (M.tb K) M.pg (n + 7) 18 [.ref p, .str (txtP ls sv secs body)] (put hd p (.ins 1 [])) Q := by
  refine gam_at p18 rfl ?_
  unfold f18
  simp [-s_ife]
  rw [s_ife]
  simp
  rw [isin_at (t := .str) (b := true) rfl rfl]
  simp
  rw [e_make ini0]
  simp [g2, g8, g9]
  intro q hq
  have qp : q ≠ p := fun e => by rw [e, put_same] at hq; cases hq
  refine init_ok ok put_same fun hd2 eA hA dA a1 a2 a3 a4 b1 b2 b3 c1 c2 c3 y1 y2 y3 fr => ?_
  simp only [a1]
  have e1 : del hd2 q eA = some (.dic (finE secs body)) := (del_nq (fun z => c1 z.symm)).trans a2
  have e2 : del hd2 q hA = some (.dic (finH secs body)) := (del_nq (fun z => c2 z.symm)).trans a3
  have e3 : del hd2 q dA = some (.dic (hsD (secD 3 secs))) := (del_nq (fun z => c3 z.symm)).trans a4
  unfold plZ
  rw [shut_pl e1 e2 e3 b1 b2 b3]
  have hh : del (del (del (del hd2 q) eA) hA) dA = put hd p (.ins 1 []) := by
    funext x
    by_cases x4 : x = dA
    · rw [x4, del_sq]
      rw [put_ne (fun z => c3 z.symm)] at y3
      exact y3.symm
    · rw [del_nq x4]
      by_cases x3 : x = hA
      · rw [x3, del_sq]
        rw [put_ne (fun z => c2 z.symm)] at y2
        exact y2.symm
      · rw [del_nq x3]
        by_cases x2 : x = eA
        · rw [x2, del_sq]
          rw [put_ne (fun z => c1 z.symm)] at y1
          exact y1.symm
        · rw [del_nq x2]
          by_cases x1 : x = q
          · rw [x1, del_sq]; exact hq.symm
          · rw [del_nq x1, fr x x1 x2 x3 x4, put_ne x1]
  rw [hh]
  simp only [d_no]
  rw [set_at_ put_same]
  refine ⟨rfl, by simp, ?_⟩
  rw [put_put]
  rw [o_attr vins na18 (d := planO ls sv secs body) rfl]
  have vp : ∀ hd : Hd, view hd (planO ls sv secs body) = .obj 0 (plZ ls sv secs body (.dic (finE secs body)) (.dic (finH secs body)) (.dic (hsD (secD 3 secs)))) := fun _ => rfl
  simp only [d_v]
  rw [o_attr (vp _) na0 (d := .bl true) rfl]
  simp only [d_v, tr_bl, Bool.not_true]
  rw [set_at_ put_same]
  refine ⟨rfl, by simp [fput], ?_⟩
  rw [put_put]
  exact ⟨_, Sub.refl _, k⟩
/-- Program(text) -/
theorem make_ok {n : Nat} {hd : Hd} {ds : Slt} {e : IE} {Q : EV → Hd → Prop} (ok : PTok cf cs ls sv secs body) (he : ∀ U : EV → Hd → Prop, U (.v (.str (txtP ls sv secs body))) hd → wpE (M.tb K) M.pg (gam (M.tb K) M.pg (n + 7)) e ds hd U)
    (k : Q (.no 1 (progO ls sv secs body)) hd) : wpE (M.tb K) M.pg (gam (M.tb K) M.pg (n + 7)) (.make true 1 (.cons false e .nil)) ds hd Q := by
  rw [e_make ini1, es_f]
  refine he _ ?_
  intro p hp
  refine prog_ok ok hp ?_
  simp only [put_same]
  have h1 : shutF (del (put hd p (.ins 1 (progO ls sv secs body))) p) (progO ls sv secs body) = (progO ls sv secs body, del (put hd p (.ins 1 (progO ls sv secs body))) p) := rfl
  rw [h1]
  have h2 : del (put hd p (.ins 1 (progO ls sv secs body))) p = hd := by
    funext x
    by_cases c : x = p
    · rw [c, del_sq, hp]
    · rw [del_nq c, put_ne c]
  rw [h2]
  exact k
end
end LK15
set_option Elab.async false
set_option linter.all false
set_option maxRecDepth 100000
set_option maxHeartbeats 400000
namespace DL
open PySem PySem.Spec PyProof.Rows L2
section
variable {T : Tb} {P : Pg} {G : Gam} {ds : Slt} {hd : Hd} {Q : EV → Hd → Prop} {U : List D → Hd → Prop}
@[simp] theorem e_star {l : Bool} {es : ISt} : wpE T P G (.star l es) ds hd Q = wpSt T P G es ds hd fun xs hd1 => xs.length ≤ 16777216 ∧ match l with
    | true => Q (.nl xs) hd1
    | false => Q (.v (.tup xs)) hd1 := propext Iff.rfl
@[simp] theorem st_nil : wpSt T P G .nil ds hd U = U [] hd := propext Iff.rfl
@[simp] theorem st_one {e : IE} {r : ISt} : wpSt T P G (.one e r) ds hd U = wpE T P G e ds hd fun ev hd1 => wpSt T P G r ds hd1 fun l hd2 => U (ev.d :: l) hd2 := propext Iff.rfl
@[simp] theorem st_all {e : IE} {r : ISt} : wpSt T P G (.all e r) ds hd U = wpE T P G e ds hd fun ev hd1 => match view hd1 ev.d with
    | .lst xs => wpSt T P G r ds hd1 fun l hd2 => U (xs ++ l) hd2
    | .tup xs => wpSt T P G r ds hd1 fun l hd2 => U (xs ++ l) hd2
    | _ => False := propext Iff.rfl
end
end DL
namespace LK15
open PySem PySem.Spec PyProof.Rows L2 DL
section
variable {K : PySem.W.Frag}
variable {cf : Cfg} {cs : List (Tx × Nat)} {ls sv : List Tx} {secs : List (Tx × Bk)} {body : Bk}
theorem p15 : M.pg.fn 15 = some f15 := by kernel_rfl
theorem p16 : M.pg.fn 16 = some f16 := by kernel_rfl
theorem p17 : M.pg.fn 17 = some f17 := by kernel_rfl
theorem p19 : M.pg.fn 19 = some f19 := by kernel_rfl
theorem p20 : M.pg.fn 20 = some f20 := by kernel_rfl
theorem p21 : M.pg.fn 21 = some f21 := by kernel_rfl
theorem p22 : M.pg.fn 22 = some f22 := by kernel_rfl
theorem p23 : M.pg.fn 23 = some f23 := by kernel_rfl
def prD (q : Nat × List Nat) : D := .tup [.int q.1, .tup (nsD q.2)]
abbrev plZd (ls sv : List Tx) (secs : List (Tx × Bk)) (body : Bk) : List (Nat × D) := plZ ls sv secs body (.dic (finE secs body)) (.dic (finH secs body)) (.dic (hsD (secD 3 secs)))
theorem vpl {hd : Hd} : view hd (planO ls sv secs body) = .obj 0 (plZd ls sv secs body) := rfl
theorem lastp_ok {n : Nat} {hd : Hd} {Q : EV → Hd → Prop} (ok : PTok cf cs ls sv secs body) (k : Q (.v (.int (lastP secs body))) hd) : gam (M.tb K) M.pg (n + 1) 15 [planO ls sv secs body] hd Q := by
  refine gam_at p15 rfl ?_
  unfold f15
  simp
  rw [o_attr vpl na9 (d := .lst ((allT ls sv secs body).map .str)) rfl]
  have e := ok.lines.2
  have e2 := allR_len (secs := secs) (body := body)
  have e3 : (((allT ls sv secs body).length : Int) + 1) = (lastP secs body : Nat) := by rw [e, e2]; unfold lastP; omega
  simp [e3]
  exact ⟨hd, Sub.refl _, k⟩
theorem row_lt (h : rowAt secs body k = some r) (hk : 3 ≤ k) : k < lastP secs body := by
  unfold rowAt at h
  have := (List.getElem?_eq_some_iff.mp h).1
  rw [allR_len] at this
  unfold lastP; omega
theorem row_act {k : Nat} {r : Rw} (h : rowAt secs body k = some r) : atI ((allR secs body).map Rw.act) ((k - 1 : Nat) : Int) = some r.act := at_get (by
  unfold rowAt at h
  rw [List.getElem?_map, h]; rfl)
theorem row_wfa (ok : PTok cf cs ls sv secs body) {k : Nat} {r : Rw} (h : rowAt secs body k = some r) : r.wfa cs := ok.wfa r (List.mem_of_getElem? h)
theorem aend_ok {n k h : Nat} {stk : List Nat} {r rh : Rw} {hd : Hd} {Q : EV → Hd → Prop} (ok : PTok cf cs ls sv secs body) (hk : 3 ≤ k) (hr : rowAt secs body k = some r) (hh : dget (finH secs body) (.i k) = some (.int h)) (h1 : 1 ≤ h) (hrh : (allR secs body)[h - 1]? = some rh) (hc : r = .lpE h ∧ rh.kd = tLoop ∨ r = .eiE h ∧ rh.kd = tOr ∨ r = .partE h ∧ rh.kd = tPart ∧ stk ≠ [])
    (kk : Q (.nl ((nxt secs k stk r).map prD)) hd) : gam (M.tb K) M.pg (n + 1) 17 [planO ls sv secs body, .int k, .tup (nsD stk)] hd Q := by
  refine gam_at p17 rfl ?_
  unfold f17
  simp [-s_ife]
  have vH : view hd (.dic (finH secs body)) = .dic (finH secs body) := rfl
  rw [o_attr vpl na5 (d := .dic (finH secs body)) rfl]
  simp only [d_v]
  rw [ix_dicI vH hh]
  simp only [d_v]
  rw [o_attr vpl na8 (d := .lst ((allR secs body).map Rw.act)) rfl]
  have e5 : ((h : Int) - 1) = ((h - 1 : Nat) : Int) := by omega
  have e6 : ((allR secs body).map Rw.act)[h - 1]? = some rh.act := by rw [List.getElem?_map, hrh]; rfl
  simp [-s_ife, cAll]
  rw [e5, at_get e6]
  simp [-s_ife]
  rw [at_kd (ok.wfa rh (List.mem_of_getElem? hrh))]
  rcases hc with ⟨rfl, e⟩ | ⟨rfl, e⟩ | ⟨rfl, e, hs⟩
  · rw [e]
    simp [oeq_str]
    exact ⟨hd, Sub.refl _, kk⟩
  · rw [e]
    simp [oeq_str]
    exact ⟨hd, Sub.refl _, kk⟩
  · rw [e]
    simp [oeq_str]
    obtain ⟨s', one, e2⟩ : ∃ s' one, stk = s' ++ [one] := by
      rcases List.eq_nil_or_concat stk with e | ⟨s', one, e⟩
      · exact absurd e hs
      · exact ⟨s', one, by rw [e, List.concat_eq_append]⟩
    subst e2
    have e3 : nsD (s' ++ [one]) = nsD s' ++ [.int one] := by simp [nsD]
    rw [e3, at_last, cutD_init]
    simp
    refine ⟨hd, Sub.refl _, ?_⟩
    simpa [nxt, prD] using kk
theorem after_ok {n k : Nat} {stk : List Nat} {r : Rw} {hd : Hd} {Q : EV → Hd → Prop} (ok : PTok cf cs ls sv secs body) (hk : 3 ≤ k) (hr : rowAt secs body k = some r) (hb : r.blk ∨ ∃ a, r = .partE a) (hs : (∃ a, r = .partE a) → stk ≠ []) (hl : stk.length ≤ 1000)
    (kk : Q (.nl ((nxt secs k stk r).map prD)) hd) : gam (M.tb K) M.pg (n + 2) 16 [planO ls sv secs body, .int k, .tup (nsD stk)] hd Q := by
  refine gam_at p16 rfl ?_
  unfold f16
  have me16 : M.pg.me 0 16 = some 15 := rfl
  have me15 : M.pg.me 0 15 = some 17 := rfl
  have lt := row_lt hr hk
  have e0 : ((k : Int) == (lastP secs body : Nat)) = false := by simp; omega
  have e5 : ((k : Int) - 1) = ((k - 1 : Nat) : Int) := by omega
  have wf := row_wfa ok hr
  have akd : ∀ hd (Q : EV → Hd → Prop), oIdxA hd [r.act, .int 0] Q = Q (.v (.str r.kd)) hd := fun hd Q => at_kd wf
  have vE : view hd (.dic (finE secs body)) = .dic (finE secs body) := rfl
  have loc := loc_of hr hk
  have fe : FE (finE secs body) k r := by
    rcases loc with ⟨e, _⟩ | ⟨w, a, n, i⟩
    · exact e
    · exact i.e
  have fh : FH (finH secs body) k r := by
    rcases loc with ⟨_, e, _⟩ | ⟨w, a, n, i⟩
    · exact e
    · exact i.h
  have hkk : HK (allR secs body) r := by
    rcases loc with ⟨_, _, e, _⟩ | ⟨w, a, n, i⟩
    · exact e
    · exact i.hk
  simp [-s_ife]
  rw [s_ife]
  simp only [t_op, es_f, e_var, e_ucall, es_nil, List.getElem?_cons_zero, List.getElem?_cons_succ, d_v, vpl, me16]
  refine ⟨rfl, lastp_ok (n := n) ok ?_⟩
  simp [-s_ife, oeq_int, e0]
  rw [o_attr vpl na8 (d := .lst ((allR secs body).map Rw.act)) rfl]
  simp [-s_ife, cAll]
  rw [e5, row_act hr]
  simp [-s_ife]
  cases r with
  | asg i =>
    have e1 : (Rw.asg i).kd ∉ [tEither, tOr, tLoop, tDo, tEnd] := by
      cases i with
      | read l => show tRead ∉ _; decide
      | copy l r => show tCopy ∉ _; decide
      | call l f as => show tCallN ∉ _; decide
      | _ => exact wf.elim
    simp at e1
    simp [akd, oeq_str, e1]
    exact ⟨hd, Sub.refl _, kk⟩
  | doo p =>
    obtain ⟨h1, _⟩ := doo_part ok.rows hr hk
    obtain ⟨at_, m, a1, a2, a3, a4, a5⟩ := secD_at secs 3 p h1
    obtain ⟨e2, e3⟩ := hdOf_eq ok.rows.nd a1
    simp [akd, Rw.kd, oeq_str]
    rw [o_attr vpl na6 (d := .dic (hsD (secD 3 secs))) rfl]
    simp [Rw.act, atI, ixN]
    have vD : view hd (.dic (hsD (secD 3 secs))) = .dic (hsD (secD 3 secs)) := rfl
    rw [ix_dicS vD e3]
    simp
    refine ⟨by simp [nsD]; omega, hd, Sub.refl _, ?_⟩
    have e4 : nsD stk ++ [D.int (k : Int)] = nsD (stk ++ [k]) := by simp [nsD]
    simpa [nxt, prD, e2, e4] using kk
  | lp e =>
    have fe : dget (finE secs body) (.i k) = some (.int e) := fe
    simp [akd, Rw.kd, oeq_str]
    rw [o_attr vpl na4 (d := .dic (finE secs body)) rfl]
    simp only [d_v]
    rw [ix_dicI vE fe]
    simp
    exact ⟨hd, Sub.refl _, kk⟩
  | ei e =>
    have fe : dget (finE secs body) (.i k) = some (.int e) := fe
    simp [akd, Rw.kd, oeq_str]
    rw [o_attr vpl na4 (d := .dic (finE secs body)) rfl]
    simp only [d_v]
    rw [ix_dicI vE fe]
    simp
    exact ⟨hd, Sub.refl _, kk⟩
  | orr h e =>
    have fe : dget (finE secs body) (.i k) = some (.int e) := fe
    simp [akd, Rw.kd, oeq_str]
    rw [o_attr vpl na4 (d := .dic (finE secs body)) rfl]
    simp only [d_v]
    rw [ix_dicI vE fe]
    simp
    exact ⟨hd, Sub.refl _, kk⟩
  | lpE h =>
    obtain ⟨h1, e, h2⟩ := hkk
    simp [akd, Rw.kd, oeq_str, vpl, me15]
    refine ⟨rfl, aend_ok ok hk hr fh h1 h2 (.inl ⟨rfl, rfl⟩) ?_⟩
    exact ⟨hd, Sub.refl _, kk⟩
  | eiE h =>
    obtain ⟨h1, e, f, h2⟩ := hkk
    simp [akd, Rw.kd, oeq_str, vpl, me15]
    refine ⟨rfl, aend_ok ok hk hr fh h1 h2 (.inr (.inl ⟨rfl, rfl⟩)) ?_⟩
    exact ⟨hd, Sub.refl _, kk⟩
  | partE h =>
    obtain ⟨h1, w, e, h2⟩ := hkk
    simp [akd, Rw.kd, oeq_str, vpl, me15]
    refine ⟨rfl, aend_ok ok hk hr fh h1 h2 (.inr (.inr ⟨rfl, rfl, hs ⟨h, rfl⟩⟩)) ?_⟩
    exact ⟨hd, Sub.refl _, kk⟩
  | part w e => rcases hb with hb | ⟨a, hb⟩ <;> first | exact hb.elim | cases hb
  | nm => rcases hb with hb | ⟨a, hb⟩ <;> first | exact hb.elim | cases hb
  | kp => rcases hb with hb | ⟨a, hb⟩ <;> first | exact hb.elim | cases hb
theorem after_last {n : Nat} {stk : List Nat} {hd : Hd} {Q : EV → Hd → Prop} (ok : PTok cf cs ls sv secs body) (kk : Q (.nl []) hd) : gam (M.tb K) M.pg (n + 2) 16 [planO ls sv secs body, .int (lastP secs body), .tup (nsD stk)] hd Q := by
  refine gam_at p16 rfl ?_
  unfold f16
  have me16 : M.pg.me 0 16 = some 15 := rfl
  simp [-s_ife]
  rw [s_ife]
  simp only [t_op, es_f, e_var, e_ucall, es_nil, List.getElem?_cons_zero, List.getElem?_cons_succ, d_v, vpl, me16]
  refine ⟨rfl, lastp_ok (n := n) ok ?_⟩
  simp [-s_ife, oeq_int]
  exact ⟨hd, Sub.refl _, kk⟩
end
end LK15
set_option Elab.async false
set_option linter.all false
set_option maxRecDepth 100000
set_option maxHeartbeats 400000
namespace LK15
open PySem PySem.Spec PyProof.Rows L2 DL
section
variable {K : PySem.W.Frag}
variable {cf : Cfg} {cs : List (Tx × Nat)} {ls sv : List Tx} {secs : List (Tx × Bk)} {body : Bk}
/-- a walk: where it is, with its callers -/
structure Wlk (secs : List (Tx × Bk)) (body : Bk) (W : List (Nat × List Nat)) : Prop where
  fst : W[0]? = some (3 + secN secs, [])
  stp : ∀ i q', W[i + 1]? = some q' → ∃ q r, W[i]? = some q ∧ rowAt secs body q.1 = some r ∧ q' ∈ nxt secs q.1 q.2 r
theorem Wlk.inv {W : List (Nat × List Nat)} (w : Wlk secs body W) (ok : RowsOk cf secs body) (hne : ∀ w ∈ wordsS secs, w ≠ []) : ∀ (i : Nat) (q : Nat × List Nat), W[i]? = some q → Inv secs body q.1 q.2
  | 0, q, h => by rw [w.fst] at h; cases h; exact inv_first ok
  | i + 1, q', h => by
    obtain ⟨q, r, h1, h2, h3⟩ := w.stp i q' h
    have I := w.inv ok hne i q h1
    rcases I.pl with e | ⟨r', e1, e2⟩
    · have := row_lt h2 I.ge; omega
    · rw [h2] at e1; cases e1
      exact inv_step ok I h2 e2 hne q' h3
theorem nxt_snd {k : Nat} {stk : List Nat} {r : Rw} {q q' : Nat × List Nat} (h : q ∈ nxt secs k stk r) (h' : q' ∈ nxt secs k stk r) : q.2 = q'.2 := by
  cases r <;> simp [nxt, gos] at h h' <;> rcases h with rfl | h <;> rcases h' with rfl | h' <;> simp_all
theorem inv_part (I : Inv secs body k stk) (hr : rowAt secs body k = some r) (hne : ∀ w ∈ wordsS secs, w ≠ []) : (∃ a, r = .partE a) → stk ≠ [] := by
  rintro ⟨a, rfl⟩ e
  have ch := I.ch
  rcases loc_of hr I.ge with ⟨_, _, _, b, _⟩ | ⟨w, at_, n, i⟩
  · exact b.elim
  · rcases i.cs with ⟨_, z⟩ | ⟨b, _⟩ | ⟨e1, _⟩
    · cases z
    · exact b.elim
    · rw [i.sec k (by omega) (by omega), e] at ch
      exact hne w i.mem ch
theorem tup_nil {hd : Hd} {ns : List Nat} {neg : Bool} {Q : EV → Hd → Prop} : oEq neg hd [.tup (nsD ns), .tup []] Q = Q (.v (.bl (xor neg ns.isEmpty))) hd := by
  unfold oEq
  have h1 : shD 60 (.tup (nsD ns)) = true := ints_sh (m := 59)
  have h2 : shD 60 (.tup []) = true := rfl
  have h3 : deq (.tup (nsD ns)) (.tup []) = ns.isEmpty := by cases ns <;> rfl
  simp [h1, h2, h3]
theorem prD_nil {hd : Hd} {L : List (Nat × List Nat)} {neg : Bool} {Q : EV → Hd → Prop} : oEq neg hd [.lst (L.map prD), .lst []] Q = Q (.v (.bl (xor neg L.isEmpty))) hd := by
  unfold oEq
  have h1 : shD 60 (.lst (L.map prD)) = true := by
    show (L.map prD).all (shD 59) = true
    rw [List.all_map, List.all_eq_true]
    intro q _
    show ([D.int q.1, .tup (nsD q.2)].all (shD 58)) = true
    have := ints_sh (ns := q.2) (m := 57)
    simp only [List.all_cons, List.all_nil, Bool.and_true]
    show (shD 58 (.int q.1) && (nsD q.2).all (shD 57)) = true
    rw [this]; rfl
  have h2 : shD 60 (.lst []) = true := rfl
  have h3 : deq (.lst (L.map prD)) (.lst []) = L.isEmpty := by cases L <;> rfl
  simp [h1, h2, h3]
theorem pr0 {p : Nat × List Nat} {hd : Hd} {Q : EV → Hd → Prop} : oIdxA hd [prD p, .int 0] Q = Q (.v (.int p.1)) hd := by unfold prD; simp [atI, ixN]
theorem pr1 {p : Nat × List Nat} {hd : Hd} {Q : EV → Hd → Prop} : oIdxA hd [prD p, .int 1] Q = Q (.v (.tup (nsD p.2))) hd := by unfold prD; simp [atI, ixN]
theorem filt_fm {t : Nat} : ∀ L : List (Nat × List Nat), (L.filterMap fun p => if p.1 = t then some (prD p) else none) = (L.filter fun p => decide (p.1 = t)).map prD
  | [] => rfl
  | p :: L => by
    by_cases c : p.1 = t
    · rw [List.filterMap_cons_some (by rw [if_pos c]), List.filter_cons_of_pos (by simpa using c), filt_fm L]; rfl
    · rw [List.filterMap_cons_none (by rw [if_neg c]), List.filter_cons_of_neg (by simpa using c), filt_fm L]
abbrev caBody : ISs := match f20.body with
  | .cons _ (.cons _ (.cons _ (.cons (.for_ _ _ b) _))) => b
  | _ => .nil
theorem nsD_get {ns : List Nat} {i n : Nat} (h : ns[i]? = some n) : atI (nsD ns) (i : Int) = some (.int n) := at_get (by unfold nsD; rw [List.getElem?_map, h]; rfl)
theorem ca_loop {n : Nat} {W : List (Nat × List Nat)} {hd : Hd} {E : DEn} (ok : PTok cf cs ls sv secs body) (w : Wlk secs body W) (hne : ∀ w ∈ wordsS secs, w ≠ []) (hs : secs.length ≤ 1000)
    (kE : ∀ q y, W[W.length - 1]? = some q → E.nx ([some (planO ls sv secs body), some (.tup (nsD (W.map (·.1)))), some (.tup (nsD q.2))] ++ y) hd) :
    ∀ (m i : Nat) (q : Nat × List Nat) (y : List (Option D)), y.length = 4 → 1 ≤ i → i + m = W.length → W[i - 1]? = some q →
      loop (.nm 3) none E (wpSs (M.tb K) M.pg (gam (M.tb K) M.pg (n + 2)) caBody) (rngD i m) ([some (planO ls sv secs body), some (.tup (nsD (W.map (·.1)))), some (.tup (nsD q.2))] ++ y) hd
  | 0, i, q, y, hy, hi, hm, hq => ⟨trivial, kE q y (by have : W.length - 1 = i - 1 := by omega
                                                       rw [this]; exact hq)⟩
  | m + 1, i, q, y, hy, hi, hm, hq => by
    match y, hy with
    | [y0, y1, y2, y3], _ =>
    rw [rngD_succ]
    refine ⟨trivial, ?_⟩
    have hil : i < W.length := by omega
    have hq' : W[i]? = some W[i] := List.getElem?_eq_getElem hil
    generalize W[i] = q' at hq'
    have ei : i - 1 + 1 = i := by omega
    obtain ⟨q0, r, s1, s2, s3⟩ := w.stp (i - 1) q' (by rw [ei]; exact hq')
    rw [hq] at s1
    cases s1
    have I := w.inv ok.rows hne (i - 1) q hq
    have hb : r.blk ∨ ∃ a, r = .partE a := by
      rcases I.pl with e | ⟨r', e1, e2⟩
      · have := row_lt s2 I.ge; omega
      · rw [s2] at e1; cases e1; exact e2
    have hsl : q.2.length ≤ 1000 := by
      have := ch_len ok.rows hne I.ch
      have e : rk secs [] = secs.length := by unfold rk; rw [if_pos rfl]
      rw [e] at this; omega
    have e5 : ((i : Int) - 1) = ((i - 1 : Nat) : Int) := by omega
    have g1 : atI (nsD (W.map (·.1))) ((i - 1 : Nat) : Int) = some (.int q.1) := nsD_get (by rw [List.getElem?_map, hq]; rfl)
    have g2 : atI (nsD (W.map (·.1))) (i : Int) = some (.int q'.1) := nsD_get (by rw [List.getElem?_map, hq']; rfl)
    have me19 : M.pg.me 0 19 = some 16 := rfl
    simp [-s_ife, caBody, f20, vpl, me19]
    refine ⟨rfl, ?_⟩
    simp [-s_ife, cAll]
    rw [e5, g1]
    simp [-s_ife]
    refine after_ok (n := n) ok I.ge s2 hb (inv_part I s2 hne) hsl ?_
    simp [-s_ife, walkD]
    have hnl : (nxt secs q.1 q.2 r).length ≤ 2 := by cases r <;> simp [nxt, gos]
    refine ⟨by omega, ?_⟩
    refine turns_fm (gd := none) (hd := hd) prD (fun p => if p.1 = q'.1 then some (prD p) else none) trivial (nxt secs q.1 q.2 r) [] (fun p hp K hK => ?_) ?_
    · rw [pr0]
      simp only [d_v, ix_litT, g2, oeq_int]
      by_cases c : p.1 = q'.1
      · have e : ((p.1 : Int) == (q'.1 : Int)) = true := by simp [c]
        rw [e]; rw [if_pos c] at hK
        exact hK
      · have e : ((p.1 : Int) == (q'.1 : Int)) = false := by simp; omega
        rw [e]; rw [if_neg c] at hK
        exact hK
    · rw [filt_fm, List.nil_append]
      generalize hL : ((nxt secs q.1 q.2 r).filter fun p => decide (p.1 = q'.1)) = L'
      simp [prD_nil]
      cases L' with
      | nil =>
        have : q' ∈ (nxt secs q.1 q.2 r).filter fun p => decide (p.1 = q'.1) := List.mem_filter.mpr ⟨s3, by simp⟩
        rw [hL] at this; cases this
      | cons f L =>
        have hf : f ∈ (nxt secs q.1 q.2 r).filter fun p => decide (p.1 = q'.1) := by rw [hL]; simp
        have hf2 := nxt_snd (List.mem_filter.mp hf).1 s3
        simp [atI, ixN]
        rw [pr1]
        rw [hf2]
        have e1 : ((i : Int) + 1) = ((i + 1 : Nat) : Int) := by omega
        rw [e1]
        exact ca_loop ok w hne hs kE m (i + 1) q' [some (.int i), some (.lst ((f :: L).map prD)), y2, y3] rfl (by omega) (by omega) (by simpa using hq')
theorem asBls_true {n : Nat} {hd : Hd} {Q : EV → Hd → Prop} (k : Q (.v (.bl true)) hd) : oAll hd [.lst (List.replicate n (.bl true))] Q := by
  have e : List.replicate n (D.bl true) = (List.replicate n true).map .bl := by simp
  rw [e, all_bls]
  have e2 : (List.replicate n true).all id = true := by simp
  rw [e2]; exact k
theorem cal_ok {n : Nat} {W : List (Nat × List Nat)} {q : Nat × List Nat} {hd : Hd} {Q : EV → Hd → Prop} (ok : PTok cf cs ls sv secs body) (w : Wlk secs body W) (hne : ∀ w ∈ wordsS secs, w ≠ []) (hs : secs.length ≤ 1000) (hW : W.length ≤ 1000) (hq : W[W.length - 1]? = some q)
    (kk : Q (.v (.tup (nsD q.2))) hd) : gam (M.tb K) M.pg (n + 3) 20 [planO ls sv secs body, .tup (nsD (W.map (·.1)))] hd Q := by
  refine gam_at p20 rfl ?_
  have hW1 : W ≠ [] := fun e => by have := w.fst; rw [e] at this; cases this
  have eb : f20.body = .cons (.ife (.or (.not (.val (.op (.isin .tup) (.cons false (.var 1) .nil)))) (.or (.op .eq (.cons false (.var 1) (.cons false (.op .tup .nil) .nil))) (.not (.val (.op .all (.cons false (.comp (.call 0 (.cons false (.var 6) .nil)) (.nm 6) (.val (.var 1)) [6]) .nil)))))) (.cons (.ret false (.lit .non)) .nil) .nil)
      (.cons (.ife (.op .ne (.cons false (.op .idx (.cons false (.var 1) (.cons false (.lit (.int 0)) .nil))) (.cons false (.op (.attr 7) (.cons false (.var 0) .nil)) .nil))) (.cons (.ret false (.lit .non)) .nil) .nil)
      (.cons (.asg false (.nm 2) (.op .tup .nil)) (.cons (.for_ (.nm 3) (.rng2 (.lit (.int 1)) (.op .len (.cons false (.var 1) .nil))) caBody) (.cons (.ret false (.var 2)) .nil)))) := rfl
  rw [eb]
  simp [-s_ife]
  rw [s_ife]
  simp
  rw [isin_at (t := .tup) (b := true) rfl rfl]
  have e1 : (W.map (·.1)).isEmpty = false := by cases W with
    | nil => exact absurd rfl hW1
    | cons => rfl
  simp [tup_nil, e1, walkD]
  refine ⟨by simp [nsD]; omega, ?_⟩
  have e2 : ∀ L : List (Nat × List Nat), ((nsD (L.map (·.1))).map fun _ => D.bl true) = List.replicate L.length (.bl true) := by
    intro L
    induction L with
    | nil => rfl
    | cons a L ih => unfold nsD at ih ⊢; simp [List.replicate_succ] at ih ⊢; exact ih
  refine turns_map (gd := none) (hd := hd) (fun x => .bl true) trivial (fun x hx K hK => ?_) ?_
  · obtain ⟨m, hm, rfl⟩ := List.mem_map.mp hx
    exact int_ok hK
  · rw [e2]
    refine asBls_true ?_
    simp [-s_ife]
    have g0 : atI (nsD (W.map (·.1))) ((0 : Nat) : Int) = some (.int (3 + secN secs : Nat)) := nsD_get (by rw [List.getElem?_map, w.fst]; rfl)
    have g0' : atI (nsD (W.map (·.1))) 0 = some (.int (3 + secN secs : Nat)) := g0
    rw [g0']
    simp only []
    rw [o_attr vpl na7 (d := .int (3 + secN secs : Nat)) rfl]
    simp [-s_ife, oeq_int, rng2D]
    have e3 : (((nsD (W.map (·.1))).length : Int)) = (W.length : Nat) := by simp [nsD]
    rw [e3]
    refine ⟨by omega, ?_⟩
    have hl1 : 1 ≤ W.length := by cases W with
      | nil => exact absurd rfl hW1
      | cons => simp
    have e4 : (nsD (W.map (·.1))).length - 1 = W.length - 1 := by simp [nsD]
    rw [e4]
    refine ca_loop (n := n) ok w hne hs (fun q' y hq' => ?_) (W.length - 1) 1 (3 + secN secs, []) [none, none, none, none] rfl (Nat.le_refl _) (by omega) w.fst
    rw [hq] at hq'
    cases hq'
    simp
    exact ⟨hd, Sub.refl _, kk⟩
theorem ckp_ok {n : Nat} {hd : Hd} {Q : EV → Hd → Prop} {fs : List (Nat × D)} (k : Q (.v .non) hd) : gam (M.tb K) M.pg (n + 1) 19 [.obj 1 fs] hd Q := by
  refine gam_at p19 rfl ?_
  unfold f19
  simp
  rw [isin_at (x := .obj 1 fs) (t := .cls 1) (b := true) rfl rfl]
  simp
  exact ⟨hd, Sub.refl _, k⟩
section
variable {n : Nat} {W : List (Nat × List Nat)} {q : Nat × List Nat} {hd : Hd} {Q : EV → Hd → Prop}
abbrev prg (ls sv : List Tx) (secs : List (Tx × Bk)) (body : Bk) : D := .obj 1 (progO ls sv secs body)
theorem vpr : view hd (prg ls sv secs body) = .obj 1 (progO ls sv secs body) := rfl
theorem cw_ok (ok : PTok cf cs ls sv secs body) (w : Wlk secs body W) (hne : ∀ w ∈ wordsS secs, w ≠ []) (hs : secs.length ≤ 1000) (hW : W.length ≤ 1000) (hq : W[W.length - 1]? = some q)
    (kk : Q (.v (.tup (nsD q.2))) hd) : gam (M.tb K) M.pg (n + 4) 21 [prg ls sv secs body, .tup (nsD (W.map (·.1)))] hd Q := by
  refine gam_at p21 rfl ?_
  unfold f21
  simp
  refine ckp_ok ?_
  rw [o_attr vpr na18 (d := planO ls sv secs body) rfl]
  refine cal_ok ok w hne hs hW hq ?_
  simp [DL.isNon]
  exact ⟨hd, Sub.refl _, kk⟩
theorem callers_ok (ok : PTok cf cs ls sv secs body) (w : Wlk secs body W) (hne : ∀ w ∈ wordsS secs, w ≠ []) (hs : secs.length ≤ 1000) (hW : W.length ≤ 1000) (hq : W[W.length - 1]? = some q)
    (kk : Q (.v (.tup (nsD q.2))) hd) : gam (M.tb K) M.pg (n + 5) 22 [prg ls sv secs body, .tup (nsD (W.map (·.1)))] hd Q := by
  refine gam_at p22 rfl ?_
  unfold f22
  simp
  refine cw_ok ok w hne hs hW hq ?_
  exact ⟨hd, Sub.refl _, kk⟩
/-- where a walk can go on -/
def tgts (secs : List (Tx × Bk)) (body : Bk) (q : Nat × List Nat) : List Nat := match rowAt secs body q.1 with
  | some r => if q.1 = lastP secs body then [] else (nxt secs q.1 q.2 r).map (·.1)
  | none => []
theorem steps_ok (ok : PTok cf cs ls sv secs body) (w : Wlk secs body W) (hne : ∀ w ∈ wordsS secs, w ≠ []) (hs : secs.length ≤ 1000) (hW : W.length ≤ 1000) (hq : W[W.length - 1]? = some q)
    (kk : ∀ ns : List Int, ns.Perm ((tgts secs body q).map fun (t : Nat) => (t : Int)) → Q (.v (.tup (ns.map .int))) hd) : gam (M.tb K) M.pg (n + 5) 23 [prg ls sv secs body, .tup (nsD (W.map (·.1)))] hd Q := by
  refine gam_at p23 rfl ?_
  unfold f23
  simp
  refine cw_ok ok w hne hs hW hq ?_
  have I := w.inv ok.rows hne _ q hq
  have hsl : q.2.length ≤ 1000 := by
    have := ch_len ok.rows hne I.ch
    have e : rk secs [] = secs.length := by unfold rk; rw [if_pos rfl]
    rw [e] at this; omega
  have hW1 : W ≠ [] := fun e => by have := w.fst; rw [e] at this; cases this
  obtain ⟨W', e1⟩ : ∃ W', W = W' ++ [q] := by
    rcases List.eq_nil_or_concat W with e | ⟨W', q', e⟩
    · exact absurd e hW1
    · rw [List.concat_eq_append] at e
      refine ⟨W', ?_⟩
      rw [e] at hq ⊢
      have : q' = q := by simpa using hq
      rw [this]
  have e2 : nsD (W.map (·.1)) = nsD (W'.map (·.1)) ++ [.int q.1] := by rw [e1]; simp [nsD]
  simp
  rw [o_attr vpr na18 (d := planO ls sv secs body) rfl]
  have me19 : M.pg.me 0 19 = some 16 := rfl
  simp [vpl, me19]
  rw [e2, at_last]
  simp only []
  have fin : ∀ L : List (Nat × List Nat), L.length ≤ 100 → L.map (·.1) = tgts secs body q → walkD hd (.lst (L.map prD)) fun xs g => xs.length ≤ 16777216 ∧ turns (fun x hd' K => oIdxA hd' [x, .int 0] fun ev hd'' => K (some ev.d) hd'') g xs [] hd fun l hd2 => oSortI hd2 [.lst l] fun ev hd1 => oTupOf hd1 [ev.d] fun ev hd' => ∃ h2, DL.Sub h2 hd' ∧ Q ev h2 := fun L hL hT => by
    simp [walkD]
    refine ⟨by omega, ?_⟩
    refine turns_fm (gd := none) (hd := hd) prD (fun p => some (.int p.1)) trivial L [] (fun p hp K hK => ?_) ?_
    · rw [pr0]; exact hK
    · have e3 : (L.filterMap fun p => some (D.int (p.1 : Int))) = ((L.map (·.1)).map fun (t : Nat) => (t : Int)).map .int := by
        rw [List.filterMap_eq_map', List.map_map, List.map_map]; rfl
      rw [e3, List.nil_append, hT]
      have e4 : ∀ L : List Int, asInts (L.map .int) = some L := by
        intro L
        induction L with
        | nil => rfl
        | cons a L ih => rw [List.map_cons]; unfold asInts; rw [ih]; rfl
      simp only [oSortI, v_lst, e4]
      intro ns hp _
      simp [oTupOf]
      exact ⟨hd, Sub.refl _, kk ns hp⟩
  by_cases hlast : q.1 = lastP secs body
  · refine ⟨rfl, ?_⟩
    have e5 : (q.1 : Int) = (lastP secs body : Nat) := by omega
    rw [e5]
    refine after_last (n := n + 2) ok ?_
    refine fin [] (by simp) ?_
    unfold tgts
    cases rowAt secs body q.1 <;> simp [hlast]
  · rcases I.pl with e | ⟨r, h1, h2⟩
    · exact absurd e hlast
    · refine ⟨rfl, after_ok (n := n + 2) ok I.ge h1 h2 (inv_part I h1 hne) hsl ?_⟩
      refine fin _ (by cases r <;> simp [nxt, gos]) ?_
      unfold tgts
      rw [h1]
      simp only [if_neg hlast]
end
end
end LK15
set_option Elab.async false
set_option linter.all false
set_option maxRecDepth 100000
set_option maxHeartbeats 400000
namespace DL
open PySem PySem.Spec PyProof.Rows L2
@[simp] theorem b_tpl {ds : Slt} {is : List Nat} {xs : List D} {K : Slt → Prop} : bindG (.tp is) (.lst xs) ds K = (xs.length = is.length ∧ K ((is.zip xs).foldl (fun a p => a.set p.1 (some p.2)) ds)) := propext Iff.rfl
end DL
namespace LK15
open PySem PySem.Spec PyProof.Rows L2 DL
mutual
theorem itT_R : ∀ (i : It) (a : Nat), (itR a i).map Rw.ln = itT i
  | .read l, a => by unfold itR itT; rfl
  | .copy l r, a => by unfold itR itT; rfl
  | .call l f as, a => by unfold itR itT; rfl
  | .doo p, a => by unfold itR itT; rfl
  | .lp b, a => by unfold itR itT; rw [List.map_append, List.map_append, bkT_R b]; rfl
  | .ei x y, a => by unfold itR itT; simp only [List.map_append, bkT_R x, bkT_R y]; rfl
theorem bkT_R : ∀ (b : Bk) (a : Nat), (bkR a b).map Rw.ln = bkT b
  | .nil, a => by unfold bkR bkT; rfl
  | .cons i r, a => by unfold bkR bkT; rw [List.map_append, itT_R i, bkT_R r]
end
/-- the parts as they stand: each with its rows -/
def SecAt (hd : Hd) : List (Tx × D) → List (Tx × Bk) → Prop
  | [], [] => True
  | p :: ss, q :: secs => p.1 = q.1 ∧ view hd p.2 = .lst (bkL q.2) ∧ SecAt hd ss secs
  | _, _ => False
def secV (ss : List (Tx × D)) : List D := ss.map fun p => .tup [.str p.1, p.2]
abbrev planV (ls sv : List Tx) (ss : List (Tx × D)) (bd : D) : D := .lst [.lst (ls.map .str), .lst (sv.map .str), .lst (secV ss), bd]
theorem SecAt.len {hd : Hd} : ∀ {ss : List (Tx × D)} {secs : List (Tx × Bk)}, SecAt hd ss secs → ss.length = secs.length
  | [], [], _ => rfl
  | [], _ :: _, h => h.elim
  | _ :: _, [], h => h.elim
  | p :: ss, q :: secs, h => by rw [List.length_cons, List.length_cons, h.2.2.len]
/-- blocks small enough for the law's own loops -/
def SmS (d : Nat) (secs : List (Tx × Bk)) (body : Bk) : Prop := (∀ p ∈ secs, p.2.dep d ∧ p.2.sml ∧ p.1.length ≤ 9) ∧ body.dep d ∧ body.sml ∧ secN secs + body.rows ≤ 900
def secT : List (Tx × Bk) → List Tx
  | [] => []
  | (w, b) :: r => ([112, 97, 114, 116, 32] ++ w) :: (bkT b ++ [tEnd]) ++ secT r
theorem secT_R : ∀ (l : List (Tx × Bk)) (a : Nat), (secR a l).map Rw.ln = secT l
  | [], a => rfl
  | (w, b) :: r, a => by unfold secR secT; simp [secT_R r, bkT_R, Rw.ln]
theorem allT_eq {ls sv : List Tx} {secs : List (Tx × Bk)} {body : Bk} : allT ls sv secs body = [tNames ++ [32] ++ joinT [32] ls, tKeep ++ [32] ++ joinT [32] sv] ++ secT secs ++ bkT body := by
  unfold allT; rw [List.map_append, secT_R, bkT_R, ← List.append_assoc]
theorem secT_len : ∀ l : List (Tx × Bk), (secT l).length = secN l
  | [] => rfl
  | (w, b) :: r => by unfold secT secN; simp [secT_len r, bkT_len]; omega
section
variable {K : PySem.W.Frag}
theorem p34 : M.pg.fn 34 = some f34 := by kernel_rfl
abbrev alBody : ISs := match f34.body with
  | .cons _ (.cons (.for_ _ _ b) _) => b
  | _ => .nil
theorem sec_walk {hd : Hd} {ss : List (Tx × D)} {U : List D → Gd → Prop} (h : U (secV ss) none) : walkD hd (.lst (secV ss)) U := h
theorem al_loop {n d : Nat} {hd : Hd} {E : DEn} {x0 : D} : ∀ (ss : List (Tx × D)) (secs : List (Tx × Bk)) (acc : List Tx) (y : Option D), SecAt hd ss secs → (∀ p ∈ secs, p.2.dep d ∧ p.2.sml ∧ p.1.length ≤ 9) → acc.length + secN secs ≤ 1000 →
    (∀ y', E.nx [some x0, some (.lst ((acc ++ secT secs).map .str)), y'] hd) →
    loop (.nm 2) none E (wpSs (M.tb K) M.pg (gam (M.tb K) M.pg (n + d + 2)) alBody) (secV ss) [some x0, some (.lst (acc.map .str)), y] hd
  | [], [], acc, y, h, hs, hl, k => ⟨trivial, by simpa [secT] using k y⟩
  | [], _ :: _, acc, y, h, hs, hl, k => h.elim
  | _ :: _, [], acc, y, h, hs, hl, k => h.elim
  | p :: ss, q :: secs, acc, y, h, hs, hl, k => by
    obtain ⟨h1, h2, h3⟩ := h
    obtain ⟨s1, s2, s3⟩ := hs q (by simp)
    obtain ⟨w, b⟩ := q
    rw [secN_cons] at hl
    refine ⟨trivial, ?_⟩
    have v1 : ∀ l : List Tx, view hd (.lst (l.map D.str)) = .lst (l.map .str) := fun _ => rfl
    have hw : p.1 = w := h1
    have bl := bkT_len b
    simp [alBody, f34, atI, ixN]
    refine ⟨by rw [hw]; simp at s3; omega, ?_⟩
    rw [oadd_lst (a := acc.map .str) (b := [D.str (112 :: 97 :: 114 :: 116 :: 32 :: p.1)]) rfl rfl]
    refine ⟨by simp; omega, ?_⟩
    refine lines_ok n d b _ _ _ h2 s1 s2 (by omega) ?_
    rw [d_nl, d_nl, oadd_lst (a := acc.map .str ++ [D.str (112 :: 97 :: 114 :: 116 :: 32 :: p.1)]) (b := (bkT b).map .str) rfl rfl]
    refine ⟨by simp; omega, ?_⟩
    rw [d_nl, oadd_lst (a := acc.map .str ++ [D.str (112 :: 97 :: 114 :: 116 :: 32 :: p.1)] ++ (bkT b).map .str) (b := [D.str [101, 110, 100]]) rfl rfl]
    refine ⟨by simp; omega, ?_⟩
    have e : acc.map D.str ++ [D.str (112 :: 97 :: 114 :: 116 :: 32 :: p.1)] ++ (bkT b).map .str ++ [D.str [101, 110, 100]] = (acc ++ (([112, 97, 114, 116, 32] ++ w) :: (bkT b ++ [tEnd]))).map .str := by simp [hw]
    rw [d_nl, e]
    refine al_loop ss secs _ _ h3 (fun p hp => hs p (by simp [hp])) (by simp; omega) fun y' => ?_
    have e2 := k y'
    unfold secT at e2
    simpa using e2
theorem all_ok {n d : Nat} {hd : Hd} {ls sv : List Tx} {ss : List (Tx × D)} {secs : List (Tx × Bk)} {body : Bk} {bd : D} {Q : EV → Hd → Prop} (hs : SecAt hd ss secs) (hb : view hd bd = .lst (bkL body)) (sm : SmS d secs body) (hls : ∀ w ∈ ls, isW w = true) (hsv : ∀ w ∈ sv, isW w = true) (l1 : ls.length ≤ 100) (l2 : sv.length ≤ 100)
    (k : Q (.nl ((allT ls sv secs body).map .str)) hd) : gam (M.tb K) M.pg (n + d + 3) 34 [planV ls sv ss bd] hd Q := by
  refine gam_at p34 rfl ?_
  have eb : f34.body = .cons (.asg false (.nm 1) (.op .lst (.cons false (.op .add (.cons false (.lit (.str [110, 97, 109, 101, 115, 32])) (.cons false (.meth .str .join (.lit (.str [32])) (.cons false (.op .idx (.cons false (.var 0) (.cons false (.lit (.int 0)) .nil))) .nil)) .nil))) (.cons false (.op .add (.cons false (.lit (.str [107, 101, 101, 112, 32])) (.cons false (.meth .str .join (.lit (.str [32])) (.cons false (.op .idx (.cons false (.var 0) (.cons false (.lit (.int 1)) .nil))) .nil)) .nil))) .nil))))
      (.cons (.for_ (.nm 2) (.val (.op .idx (.cons false (.var 0) (.cons false (.lit (.int 2)) .nil)))) alBody) (.cons (.ret false (.op .add (.cons false (.var 1) (.cons false (.call 33 (.cons false (.op .idx (.cons false (.var 0) (.cons false (.lit (.int 3)) .nil))) .nil)) .nil)))) .nil)) := rfl
  rw [eb]
  have b1 := join_len9 hls
  have b2 := join_len9 hsv
  have q1 : (ls.map List.length).sum ≤ 9 * ls.length := by
    clear b1 l1 k
    induction ls with
    | nil => simp
    | cons a as ih =>
      have := ih (fun x hx => hls x (by simp [hx]))
      have := w_len (hls a (by simp))
      simp; omega
  have q2 : (sv.map List.length).sum ≤ 9 * sv.length := by
    clear b2 l2 k
    induction sv with
    | nil => simp
    | cons a as ih =>
      have := ih (fun x hx => hsv x (by simp [hx]))
      have := w_len (hsv a (by simp))
      simp; omega
  simp [-s_for, atI, ixN, oJoin, asStrs_map]
  refine ⟨by omega, by omega, by omega, by omega, ?_⟩
  simp [atI, ixN]
  refine sec_walk ?_
  have e0 : [D.str (110 :: 97 :: 109 :: 101 :: 115 :: 32 :: joinT [32] ls), D.str (107 :: 101 :: 101 :: 112 :: 32 :: joinT [32] sv)] = ([tNames ++ [32] ++ joinT [32] ls, tKeep ++ [32] ++ joinT [32] sv] : List Tx).map .str := by simp
  rw [e0]
  have hN := sm.2.2.2
  refine al_loop ss secs _ _ hs sm.1 (by simp; omega) fun y' => ?_
  simp [atI, ixN]
  refine lines_ok n d body _ _ _ hb sm.2.1 sm.2.2.1 (by omega) ?_
  have bl := bkT_len body
  have sl := secT_len secs
  have e3 : D.str (110 :: 97 :: 109 :: 101 :: 115 :: 32 :: joinT [32] ls) :: D.str (107 :: 101 :: 101 :: 112 :: 32 :: joinT [32] sv) :: (secT secs).map D.str = ([tNames ++ [32] ++ joinT [32] ls, tKeep ++ [32] ++ joinT [32] sv] ++ secT secs).map D.str := by simp
  rw [d_nl, e3, oadd_lst (a := ([tNames ++ [32] ++ joinT [32] ls, tKeep ++ [32] ++ joinT [32] sv] ++ secT secs).map D.str) (b := (bkT body).map .str) rfl rfl]
  refine ⟨by simp; omega, hd, Sub.refl _, ?_⟩
  rw [← List.map_append, ← allT_eq]
  exact k
end
end LK15
set_option Elab.async false
set_option linter.all false
set_option maxRecDepth 100000
set_option maxHeartbeats 400000
namespace LK15
open PySem PySem.Spec PyProof.Rows L2 DL
/-- what the law notes for a row -/
def mvD (k : Nat) : Rw → D
  | .asg i => .tup [.str [115, 101, 116], itD i]
  | .doo p => .tup [.str tDo, .str p]
  | .partE _ => .tup [.str [98, 97, 99, 107]]
  | r => .tup [.str [103, 111], .lst ((gos k r).map fun (t : Nat) => .int (t : Int))]
/-- the notes of rows -/
def Mv (kvs' kvs : List (DK × D)) (a n : Nat) (L : List Rw) : Prop := (∀ j r, L[j]? = some r → dget kvs' (.i ((a + j : Nat) : Int)) = some (mvD (a + j) r)) ∧ (∀ j : Nat, j < a ∨ a + n ≤ j → dget kvs' (.i j) = dget kvs (.i j)) ∧ kvs'.length ≤ kvs.length + n
section
variable {K : PySem.W.Frag}
theorem p35 : M.pg.fn 35 = some f35 := by kernel_rfl
theorem p36 : M.pg.fn 36 = some f36 := by kernel_rfl
def MovesOk (K : PySem.W.Frag) (n d : Nat) : Prop := ∀ (bk : Bk) (hd : Hd) (x : D) (a : Nat) (q : Addr) (kvs : List (DK × D)) (Q : EV → Hd → Prop), view hd x = .lst (bkL bk) → bk.dep d → hd q = some (.dic kvs) → kvs.length + bk.rows ≤ 2000 →
  (∀ kvs', Mv kvs' kvs a bk.rows (bkR a bk) → Q (.v (.int ((a + bk.rows : Nat) : Int))) (put hd q (.dic kvs'))) → gam (M.tb K) M.pg n 35 [x, .int a, .ref q] hd Q
abbrev mvBody : ISs := match f35.body with
  | .cons (.for_ _ _ b) _ => b
  | _ => .nil
theorem mv_body {n d : Nat} {x0 : D} {hd : Hd} {q : Addr} {a : Nat} {kvs : List (DK × D)} {i : It} {y4 y5 : Option D} {E : DEn} (hrec : ∀ d', d = d' + 1 → MovesOk K n d') (hq : hd q = some (.dic kvs)) (dp : i.dep d) (hl : kvs.length + i.rows ≤ 2000)
    (k : ∀ kvs' y4' y5', Mv kvs' kvs a i.rows (itR a i) → E.nx [some x0, some (.int ((a + i.rows : Nat) : Int)), some (.ref q), some (itD i), y4', y5'] (put hd q (.dic kvs'))) :
    wpSs (M.tb K) M.pg (gam (M.tb K) M.pg n) mvBody E [some x0, some (.int a), some (.ref q), some (itD i), y4, y5] hd := by
  have one : ∀ (v : D) (r : Rw), itR a i = [r] → i.rows = 1 → mvD a r = v → kvs.length < 16777216 ∧ E.nx [some x0, some (.int ((a : Int) + 1)), some (.ref q), some (itD i), y4, y5] (put hd q (.dic (dput kvs (.i a) v))) := fun v r h1 h2 h3 => by
    refine ⟨by omega, ?_⟩
    have e : ((a : Int) + 1) = ((a + i.rows : Nat) : Int) := by rw [h2]; omega
    rw [e]
    refine k _ _ _ ⟨fun j r' h => ?_, fun j h => ?_, by have := dput_len (kvs := kvs) (k := .i a) (v := v); omega⟩
    · rw [h1] at h
      obtain ⟨rfl, rfl⟩ := one_at h
      show dget (dput kvs (.i a) v) (.i (a : Nat)) = some (mvD a _)
      rw [dget_i, if_pos rfl, h3]
    · rw [dget_i, if_neg (by omega)]
  cases i with
  | doo p =>
    have := one (.tup [.str tDo, .str p]) (.doo p) (by rw [itR]) rfl rfl
    simp [-s_ife, mvBody, f35, itD] at this ⊢
    simp [oeq_str, atI, ixN]
    rw [set_dicI hq]
    exact this
  | read l =>
    have := one (.tup [.str [115, 101, 116], itD (.read l)]) (.asg (.read l)) (by rw [itR]) rfl rfl
    simp [-s_ife, mvBody, f35, itD] at this ⊢
    simp [oeq_str, atI, ixN]
    rw [set_dicI hq]
    exact this
  | copy l r =>
    have := one (.tup [.str [115, 101, 116], itD (.copy l r)]) (.asg (.copy l r)) (by rw [itR]) rfl rfl
    simp [-s_ife, mvBody, f35, itD] at this ⊢
    simp [oeq_str, atI, ixN]
    rw [set_dicI hq]
    exact this
  | call l f as =>
    have := one (.tup [.str [115, 101, 116], itD (.call l f as)]) (.asg (.call l f as)) (by rw [itR]) rfl rfl
    simp [-s_ife, mvBody, f35, itD] at this ⊢
    simp [oeq_str, atI, ixN]
    rw [set_dicI hq]
    exact this
  | lp b =>
    unfold It.dep at dp
    have hr : (It.lp b).rows = b.rows + 2 := by rw [It.rows]
    rw [hr] at hl
    obtain ⟨d', rfl⟩ : ∃ d', d = d' + 1 := ⟨d - 1, by omega⟩
    simp [-s_ife, mvBody, f35, itD]
    simp [oeq_str, atI, ixN]
    have e1 : ((a : Int) + 1) = ((a + 1 : Nat) : Int) := by omega
    rw [e1]
    refine hrec d' rfl b hd (.lst (bkL b)) (a + 1) q kvs _ rfl dp.2 hq (by omega) fun kvs1 m1 => ?_
    obtain ⟨m1, m2, m3⟩ := m1
    simp
    rw [set_dicI put_same]
    refine ⟨by omega, ?_⟩
    rw [put_put, set_dicI put_same]
    have l1 := dput_len (kvs := kvs1) (k := .i (a : Nat)) (v := mvD a (.lp (a + 1 + b.rows)))
    have v1 : D.tup [.str [103, 111], .lst [.int ((a : Int) + 1), .int ((a : Int) + 1 + b.rows + 1)]] = mvD a (.lp (a + 1 + b.rows)) := by simp [mvD, gos]
    have v2 : D.tup [.str [103, 111], .lst [.int ((a : Int) + 1), .int ((a : Int) + 1 + b.rows + 1)]] = mvD (a + 1 + b.rows) (.lpE a) := by simp [mvD, gos]
    rw [v1] at *
    have e3 : ((a : Int) + 1 + b.rows) = ((a + 1 + b.rows : Nat) : Int) := by omega
    have e2 : ((a + (It.lp b).rows : Nat) : Int) = (a : Int) + 1 + b.rows + 1 := by rw [hr]; omega
    have fin := k (dput (dput kvs1 (.i (a : Nat)) (mvD a (.lp (a + 1 + b.rows)))) (.i ((a + 1 + b.rows : Nat) : Int)) (mvD a (.lp (a + 1 + b.rows)))) y4 (some (.int ((a : Int) + 1 + b.rows))) ⟨fun j r h => ?_, fun j h => ?_, ?_⟩
    · rw [e2] at fin
      refine ⟨by omega, ?_⟩
      rw [put_put, e3]
      rw [e3] at fin
      exact fin
    · rcases lp_at h with ⟨rfl, rfl⟩ | ⟨j', hj, rfl, h'⟩ | ⟨rfl, rfl⟩
      · rw [dget_i, if_neg (by omega), dget_i, if_pos (by omega)]; rfl
      · have := m1 j' r h'
        have ej : a + (1 + j') = a + 1 + j' := by omega
        rw [ej, dget_i, if_neg (by omega), dget_i, if_neg (by omega)]
        exact this
      · have ej : a + (1 + b.rows) = a + 1 + b.rows := by omega
        rw [ej, dget_i, if_pos rfl, ← v2, v1]
    · rw [hr] at h
      rw [dget_i, if_neg (by omega), dget_i, if_neg (by omega)]
      exact m2 j (by omega)
    · have l2 := dput_len (kvs := dput kvs1 (.i (a : Nat)) (mvD a (.lp (a + 1 + b.rows)))) (k := .i ((a + 1 + b.rows : Nat) : Int)) (v := mvD a (.lp (a + 1 + b.rows)))
      rw [hr]; omega
  | ei x y =>
    unfold It.dep at dp
    have hr : (It.ei x y).rows = x.rows + y.rows + 3 := by rw [It.rows]
    rw [hr] at hl
    obtain ⟨d', rfl⟩ : ∃ d', d = d' + 1 := ⟨d - 1, by omega⟩
    simp [-s_ife, mvBody, f35, itD]
    simp [oeq_str, atI, ixN]
    have e1 : ((a : Int) + 1) = ((a + 1 : Nat) : Int) := by omega
    rw [e1]
    refine hrec d' rfl x hd (.lst (bkL x)) (a + 1) q kvs _ rfl dp.2.1 hq (by omega) fun kvs1 m1 => ?_
    obtain ⟨m1, m2, m3⟩ := m1
    have e4 : (((a + 1 + x.rows : Nat) : Int) + 1) = ((a + 1 + x.rows + 1 : Nat) : Int) := by omega
    simp only [d_v, List.getElem?_set, List.getElem?_cons_succ, List.getElem?_cons_zero, List.set_cons_succ, List.set_cons_zero]
    rw [o_addI]
    simp only [d_v]
    rw [e4]
    refine hrec d' rfl y _ (.lst (bkL y)) (a + 1 + x.rows + 1) q kvs1 _ rfl dp.2.2 put_same (by omega) fun kvs2 n1 => ?_
    obtain ⟨n1, n2, n3⟩ := n1
    simp
    rw [set_dicI put_same]
    have v1 : D.tup [.str [103, 111], .lst [.int ((a : Int) + 1), .int ((a : Int) + 1 + x.rows + 1)]] = mvD a (.ei (a + 1 + x.rows)) := by simp [mvD, gos]
    have v2 : ∀ k, D.tup [.str [103, 111], .lst [.int ((a : Int) + 1 + x.rows + 1 + y.rows + 1)]] = mvD k (.orr a (a + 1 + x.rows + 1 + y.rows)) := fun k => by simp [mvD, gos]
    have v3 : mvD (a + 1 + x.rows) (.orr a (a + 1 + x.rows + 1 + y.rows)) = mvD (a + 1 + x.rows + 1 + y.rows) (.eiE (a + 1 + x.rows)) := by simp [mvD, gos]
    rw [v1, v2 (a + 1 + x.rows)]
    have l1 := dput_len (kvs := kvs2) (k := .i (a : Nat)) (v := mvD a (.ei (a + 1 + x.rows)))
    refine ⟨by omega, ?_⟩
    rw [put_put, set_dicI put_same]
    refine ⟨by omega, ?_⟩
    rw [put_put, set_dicI put_same]
    have e2 : ((a : Int) + 1 + x.rows) = ((a + 1 + x.rows : Nat) : Int) := by omega
    have e3 : ((a + 1 + x.rows : Nat) : Int) + 1 + y.rows = ((a + 1 + x.rows + 1 + y.rows : Nat) : Int) := by omega
    rw [e2, e3]
    have l2 := dput_len (kvs := dput kvs2 (.i (a : Nat)) (mvD a (.ei (a + 1 + x.rows)))) (k := .i ((a + 1 + x.rows : Nat) : Int)) (v := mvD (a + 1 + x.rows) (.orr a (a + 1 + x.rows + 1 + y.rows)))
    refine ⟨by omega, ?_⟩
    rw [put_put]
    have l3 := dput_len (kvs := dput (dput kvs2 (.i (a : Nat)) (mvD a (.ei (a + 1 + x.rows)))) (.i ((a + 1 + x.rows : Nat) : Int)) (mvD (a + 1 + x.rows) (.orr a (a + 1 + x.rows + 1 + y.rows)))) (k := .i ((a + 1 + x.rows + 1 + y.rows : Nat) : Int)) (v := mvD (a + 1 + x.rows) (.orr a (a + 1 + x.rows + 1 + y.rows)))
    have e5 : ((a + (It.ei x y).rows : Nat) : Int) = ((a + 1 + x.rows + 1 + y.rows : Nat) : Int) + 1 := by rw [hr]; omega
    have fin := k (dput (dput (dput kvs2 (.i (a : Nat)) (mvD a (.ei (a + 1 + x.rows)))) (.i ((a + 1 + x.rows : Nat) : Int)) (mvD (a + 1 + x.rows) (.orr a (a + 1 + x.rows + 1 + y.rows)))) (.i ((a + 1 + x.rows + 1 + y.rows : Nat) : Int)) (mvD (a + 1 + x.rows) (.orr a (a + 1 + x.rows + 1 + y.rows)))) (some (.int ((a + 1 + x.rows : Nat) : Int))) (some (.int ((a + 1 + x.rows + 1 + y.rows : Nat) : Int))) ⟨fun j r h => ?_, fun j h => ?_, ?_⟩
    · rw [e5] at fin
      exact fin
    · rcases ei_at h with ⟨rfl, rfl⟩ | ⟨j', hj, rfl, h'⟩ | ⟨rfl, rfl⟩ | ⟨j', hj, rfl, h'⟩ | ⟨rfl, rfl⟩
      · rw [dget_i, if_neg (by omega), dget_i, if_neg (by omega), dget_i, if_pos (by omega)]; rfl
      · have := m1 j' r h'
        have ej : a + (1 + j') = a + 1 + j' := by omega
        rw [ej, dget_i, if_neg (by omega), dget_i, if_neg (by omega), dget_i, if_neg (by omega), n2 _ (by omega)]
        exact this
      · have ej : a + (1 + x.rows) = a + 1 + x.rows := by omega
        rw [ej, dget_i, if_neg (by omega), dget_i, if_pos rfl]
      · have := n1 j' r h'
        have ej : a + (1 + x.rows + 1 + j') = a + 1 + x.rows + 1 + j' := by omega
        rw [ej, dget_i, if_neg (by omega), dget_i, if_neg (by omega), dget_i, if_neg (by omega)]
        exact this
      · have ej : a + (1 + x.rows + 1 + y.rows) = a + 1 + x.rows + 1 + y.rows := by omega
        rw [ej, dget_i, if_pos rfl, v3]
    · rw [hr] at h
      rw [dget_i, if_neg (by omega), dget_i, if_neg (by omega), dget_i, if_neg (by omega), n2 j (by omega)]
      exact m2 j (by omega)
    · rw [hr]; omega
theorem Mv.cons {k1 k2 k0 : List (DK × D)} {a : Nat} {i : It} {r : Bk} (h1 : Mv k1 k0 a i.rows (itR a i)) (h2 : Mv k2 k1 (a + i.rows) r.rows (bkR (a + i.rows) r)) : Mv k2 k0 a (Bk.cons i r).rows (bkR a (.cons i r)) := by
  obtain ⟨a1, a2, a3⟩ := h1
  obtain ⟨b1, b2, b3⟩ := h2
  have hr : (Bk.cons i r).rows = i.rows + r.rows := by rw [Bk.rows]
  refine ⟨fun j x h => ?_, fun j h => ?_, by omega⟩
  · unfold bkR at h
    rcases app_at h with ⟨c, h⟩ | ⟨j', e, h⟩
    · rw [itR_len] at c
      rw [b2 _ (by omega)]
      exact a1 j x h
    · rw [itR_len] at e
      have ej : a + j = a + i.rows + j' := by omega
      rw [ej]
      exact b1 j' x h
  · rw [hr] at h
    rw [b2 j (by omega), a2 j (by omega)]
theorem mv_loop {n d : Nat} {E : DEn} {gd : Gd} {x0 : D} {hd : Hd} {q : Addr} (hrec : ∀ d', d = d' + 1 → MovesOk K n d') (hg : ∀ kvs, gdOk gd (put hd q (.dic kvs))) :
    ∀ (r : Bk) (a : Nat) (kvs : List (DK × D)) (y3 y4 y5 : Option D), r.dep d → kvs.length + r.rows ≤ 2000 →
      (∀ kvs' y3' y4' y5', Mv kvs' kvs a r.rows (bkR a r) → E.nx [some x0, some (.int ((a + r.rows : Nat) : Int)), some (.ref q), y3', y4', y5'] (put hd q (.dic kvs'))) →
      loop (.nm 3) gd E (wpSs (M.tb K) M.pg (gam (M.tb K) M.pg n) mvBody) (bkL r) [some x0, some (.int a), some (.ref q), y3, y4, y5] (put hd q (.dic kvs))
  | .nil, a, kvs, y3, y4, y5, dp, hl, k => ⟨hg kvs, k kvs y3 y4 y5 ⟨fun j r h => by unfold bkR at h; simp at h, fun _ _ => rfl, by omega⟩⟩
  | .cons i r, a, kvs, y3, y4, y5, dp, hl, k => by
    unfold Bk.dep at dp
    have hr : (Bk.cons i r).rows = i.rows + r.rows := by rw [Bk.rows]
    refine ⟨hg kvs, ?_⟩
    refine mv_body hrec put_same dp.1 (by omega) fun kvs1 y4' y5' m1 => ?_
    rw [put_put]
    have l1 := m1.2.2
    refine mv_loop hrec hg r (a + i.rows) kvs1 _ _ _ dp.2 (by omega) fun kvs2 z3 z4 z5 m2 => ?_
    have := k kvs2 z3 z4 z5 (m1.cons m2)
    have e : a + i.rows + r.rows = a + (Bk.cons i r).rows := by omega
    rw [e]
    exact this
theorem moves_main {n d : Nat} (hrec : ∀ d', d = d' + 1 → MovesOk K n d') : MovesOk K (n + 1) d := by
  intro bk hd x a q kvs Q hx dp hq hl k
  refine gam_at p35 rfl ?_
  have eb : f35.body = .cons (.for_ (.nm 3) (.val (.var 0)) mvBody) (.cons (.ret false (.var 1)) .nil) := rfl
  rw [eb]
  simp [walk_lst hx]
  have hg : ∀ kvs, gdOk (gdOf x (bkL bk)) (put hd q (.dic kvs)) := fun kvs => by
    cases x with
    | ref p =>
      rw [v_ref] at hx
      show put hd q (.dic kvs) p = _
      have ne : p ≠ q := fun e => by rw [e, hq] at hx; cases hx
      rw [put_ne ne]
      cases ha : hd p with
      | none => rw [ha] at hx; cases hx
      | some o =>
        rw [ha] at hx
        cases o with
        | lst xs => simp at hx; rw [hx]
        | _ => cases hx
    | _ => trivial
  have e : hd = put hd q (.dic kvs) := by
    funext z
    by_cases c : z = q
    · rw [c, put_same, hq]
    · rw [put_ne c]
  have lp := mv_loop (E := { nx := wpSs (M.tb K) M.pg (gam (M.tb K) M.pg n) (.cons (.ret false (.var 1)) .nil) { nx := fun _ hd' => ∃ h2, DL.Sub h2 hd' ∧ Q (.v .non) h2, rt := fun ev hd' => ∃ h2, DL.Sub h2 hd' ∧ Q ev h2, bk := fun _ _ => False, ct := fun _ _ => False }, rt := fun ev hd' => ∃ h2, DL.Sub h2 hd' ∧ Q ev h2, bk := fun _ _ => False, ct := fun _ _ => False }) (x0 := x) (hd := hd) (q := q) hrec hg bk a kvs none none none dp hl (fun kvs' y3 y4 y5 m => by
    simp
    have := k kvs' m
    exact ⟨_, Sub.refl _, by simpa using this⟩)
  rw [← e] at lp
  exact lp
theorem moves_ok (n : Nat) : ∀ d, MovesOk K (n + d + 1) d := by
  intro d
  induction d with
  | zero =>
    intro bk hd x a q kvs Q
    exact moves_main (n := n) (d := 0) (fun d' e => by omega) bk hd x a q kvs Q
  | succ d ih =>
    intro bk hd x a q kvs Q
    exact moves_main (n := n + d + 1) (d := d + 1) (fun d' e => by
      obtain rfl : d' = d := by omega
      exact ih) bk hd x a q kvs Q
end
end LK15
set_option Elab.async false
set_option linter.all false
set_option maxRecDepth 100000
set_option maxHeartbeats 400000
namespace LK15
open PySem PySem.Spec PyProof.Rows L2 DL
theorem SecAt.sub {hd hd' : Hd} (sb : Sub hd hd') : ∀ {ss : List (Tx × D)} {secs : List (Tx × Bk)}, SecAt hd ss secs → SecAt hd' ss secs
  | [], [], _ => trivial
  | [], _ :: _, h => h.elim
  | _ :: _, [], h => h.elim
  | p :: ss, q :: secs, h => ⟨h.1, view_none (fun _ => by simp) h.2.1 sb, h.2.2.sub sb⟩
/-- the notes of the parts' rows -/
def MvS (kvs' kvs : List (DK × D)) (a : Nat) (l : List (Tx × Bk)) : Prop := (∀ j r, (secR a l)[j]? = some r → (r.blk ∨ ∃ a, r = .partE a) → dget kvs' (.i ((a + j : Nat) : Int)) = some (mvD (a + j) r)) ∧ (∀ j : Nat, j < a ∨ a + secN l ≤ j → dget kvs' (.i j) = dget kvs (.i j)) ∧ kvs'.length ≤ kvs.length + secN l
theorem MvS.cons {k0 k1 k2 : List (DK × D)} {a : Nat} {w : Tx} {b : Bk} {l : List (Tx × Bk)} (h1 : Mv k1 k0 (a + 1) b.rows (bkR (a + 1) b)) (h2 : MvS k2 (dput k1 (.i ((a + 1 + b.rows : Nat) : Int)) (.tup [.str [98, 97, 99, 107]])) (a + b.rows + 2) l) : MvS k2 k0 a ((w, b) :: l) := by
  obtain ⟨a1, a2, a3⟩ := h1
  obtain ⟨b1, b2, b3⟩ := h2
  have hn := secN_cons (w := w) (b := b) (r := l)
  have l1 := dput_len (kvs := k1) (k := .i ((a + 1 + b.rows : Nat) : Int)) (v := .tup [.str [98, 97, 99, 107]])
  refine ⟨fun j r h hb => ?_, fun j h => ?_, by omega⟩
  · unfold secR at h
    rcases app_at h with ⟨c, h⟩ | ⟨j', e, h⟩
    · rcases app_at h with ⟨c, h⟩ | ⟨j', e, h⟩
      · rcases app_at h with ⟨c, h⟩ | ⟨j', e, h3⟩
        · obtain ⟨rfl, rfl⟩ := one_at h
          rcases hb with hb | ⟨_, hb⟩
          · exact hb.elim
          · cases hb
        · have hl : j' < (bkR (a + 1) b).length := (List.getElem?_eq_some_iff.mp h3).1
          rw [bkR_len] at hl
          rw [List.length_singleton] at e
          have ej : a + j = a + 1 + j' := by omega
          rw [ej, b2 _ (by omega), dget_i, if_neg (by omega)]
          exact a1 j' r h3
      · obtain ⟨rfl, rfl⟩ := one_at h
        simp only [List.length_append, List.length_singleton, bkR_len] at e
        have ej : a + j = a + 1 + b.rows := by omega
        rw [ej, b2 _ (by omega), dget_i, if_pos rfl]; rfl
    · simp only [List.length_append, List.length_singleton, bkR_len] at e
      have ej : a + j = a + b.rows + 2 + j' := by omega
      rw [ej]
      exact b1 j' r h hb
  · rw [hn] at h
    rw [b2 j (by omega), dget_i, if_neg (by omega), a2 j (by omega)]
section
variable {K : PySem.W.Frag}
abbrev liBody : ISs := match f36.body with
  | .cons _ (.cons (.for_ _ _ b) _) => b
  | _ => .nil
theorem hsD_put {hs : List (Tx × Nat)} {w : Tx} {a : Nat} (h : w ∉ hs.map (·.1)) : dput (hsD hs) (.s w) (.int a) = hsD (hs ++ [(w, a)]) := by
  rw [dput_new]
  · simp
  · intro q hq z
    obtain ⟨p, hp, rfl⟩ := List.mem_map.mp hq
    exact h (List.mem_map.mpr ⟨p, hp, by cases z; rfl⟩)
theorem li_loop {n d : Nat} {hd : Hd} {E : DEn} {x0 : D} {q q2 : Addr} (hq : hd q = none) (hq2 : hd q2 = none) (hne : q ≠ q2) : ∀ (ss : List (Tx × D)) (secs : List (Tx × Bk)) (a : Nat) (kvs : List (DK × D)) (hs : List (Tx × Nat)) (hd1 : Hd) (y : Option D), SecAt hd ss secs → (∀ p ∈ secs, p.2.dep d) → (hs.map (·.1) ++ wordsS secs).Nodup → Sub hd hd1 → hd1 q = some (.dic kvs) → hd1 q2 = some (.dic (hsD hs)) → kvs.length + secN secs ≤ 2000 → hs.length + secs.length ≤ 1000 →
    (∀ kvs' hd2 y', MvS kvs' kvs a secs → Sub hd hd2 → hd2 q = some (.dic kvs') → hd2 q2 = some (.dic (hsD (hs ++ secD a secs))) → E.nx [some x0, y', none, some (.ref q), some (.ref q2), some (.int ((a + secN secs : Nat) : Int))] hd2) →
    loop (.nm 1) none E (wpSs (M.tb K) M.pg (gam (M.tb K) M.pg (n + d + 1)) liBody) (secV ss) [some x0, y, none, some (.ref q), some (.ref q2), some (.int a)] hd1
  | [], [], a, kvs, hs, hd1, y, h, hdp, nd, sb, e1, e2, hl, hl2, k => ⟨trivial, k kvs hd1 y ⟨fun j r h => by unfold secR at h; simp at h, fun _ _ => rfl, by omega⟩ sb e1 (by unfold secD; simpa using e2)⟩
  | [], _ :: _, a, kvs, hs, hd1, y, h, hdp, nd, sb, e1, e2, hl, hl2, k => h.elim
  | _ :: _, [], a, kvs, hs, hd1, y, h, hdp, nd, sb, e1, e2, hl, hl2, k => h.elim
  | p :: ss, (w, b) :: secs, a, kvs, hs, hd1, y, h, hdp, nd, sb, e1, e2, hl, hl2, k => by
    obtain ⟨h1, h2, h3⟩ := h
    have h1 : p.1 = w := h1
    have hn := secN_cons (w := w) (b := b) (r := secs)
    have hw : w ∉ hs.map (·.1) := fun z => by
      rw [List.nodup_append] at nd
      exact nd.2.2 w z w (by simp [wordsS]) rfl
    rw [List.length_cons] at hl2
    refine ⟨trivial, ?_⟩
    simp [liBody, f36, atI, ixN]
    rw [h1, set_dicS e2, hsD_put hw]
    refine ⟨by rw [List.length_map]; omega, ?_⟩
    have sb2 : Sub hd (put hd1 q2 (.dic (hsD (hs ++ [(w, a)])))) := fun x o z => by
      have ne : x ≠ q2 := fun e => by rw [e, hq2] at z; cases z
      rw [put_ne ne]; exact sb x o z
    have e4 : ((a : Int) + 1) = ((a + 1 : Nat) : Int) := by omega
    rw [e4]
    refine moves_ok (n := n) d b _ p.2 (a + 1) q kvs _ (view_none (fun _ => by simp) h2 sb2) (hdp (w, b) (by simp)) ((put_ne hne).trans e1) (by omega) fun kvs1 m1 => ?_
    have m3 := m1.2.2
    simp
    have e5 : ((a : Int) + 1 + b.rows) = ((a + 1 + b.rows : Nat) : Int) := by omega
    rw [set_dicI put_same, e5]
    refine ⟨by omega, ?_⟩
    rw [put_put]
    have e6 : ((a + 1 + b.rows : Nat) : Int) + 1 = ((a + b.rows + 2 : Nat) : Int) := by omega
    rw [e6]
    have l1 := dput_len (kvs := kvs1) (k := .i ((a + 1 + b.rows : Nat) : Int)) (v := .tup [.str [98, 97, 99, 107]])
    refine li_loop hq hq2 hne ss secs (a + b.rows + 2) _ (hs ++ [(w, a)]) _ _ h3 (fun p hp => hdp p (by simp [hp])) (by
      rw [List.map_append, List.append_assoc]; exact nd) (fun x o z => ?_) put_same ((put_ne (Ne.symm hne)).trans (by simp)) (by omega) (by rw [List.length_append, List.length_singleton]; omega) fun kvs' hd2 y' m2 s2 f1 f2 => ?_
    · have ne : x ≠ q := fun e => by rw [e, hq] at z; cases z
      rw [put_ne ne]; exact (by simpa using sb2 x o z)
    · have e7 : a + b.rows + 2 + secN secs = a + secN ((w, b) :: secs) := by omega
      rw [e7]
      refine k kvs' hd2 y' (MvS.cons m1 m2) s2 f1 ?_
      unfold secD
      rw [List.append_assoc] at f2
      exact f2
/-- all notes -/
def MvAll (kvs : List (DK × D)) (secs : List (Tx × Bk)) (body : Bk) : Prop := ∀ k r, rowAt secs body k = some r → 3 ≤ k → (r.blk ∨ ∃ a, r = .partE a) → dget kvs (.i k) = some (mvD k r)
abbrev laidV (mv : List (DK × D)) (secs : List (Tx × Bk)) (body : Bk) : D := .lst [.dic mv, .dic (hsD (secD 3 secs)), .int ((3 + secN secs : Nat) : Int), .int (lastP secs body)]
theorem laid2_ok {n d : Nat} {hd : Hd} {ls sv : List Tx} {ss : List (Tx × D)} {secs : List (Tx × Bk)} {body : Bk} {bd : D} {Q : EV → Hd → Prop} (hs : SecAt hd ss secs) (hb : view hd bd = .lst (bkL body)) (sm : SmS d secs body) (nd : (wordsS secs).Nodup)
    (k : ∀ mv, MvAll mv secs body → Q (.nl [.dic mv, .dic (hsD (secD 3 secs)), .int ((3 + secN secs : Nat) : Int), .int (lastP secs body)]) hd) : gam (M.tb K) M.pg (n + d + 2) 36 [planV ls sv ss bd] hd Q := by
  refine gam_at p36 rfl ?_
  have eb : f36.body = .cons (.par [3, 4, 5] (.cons true (.op .dic0 .nil) (.cons true (.op .dic0 .nil) (.cons false (.lit (.int 3)) .nil)))) (.cons (.for_ (.nm 1) (.val (.op .idx (.cons false (.var 0) (.cons false (.lit (.int 2)) .nil)))) liBody) (.cons (.asg false (.nm 2) (.call 35 (.cons false (.op .idx (.cons false (.var 0) (.cons false (.lit (.int 3)) .nil))) (.cons false (.var 5) (.cons true (.var 3) .nil))))) (.cons (.ret false (.op .lst (.cons false (.rel (.var 3)) (.cons false (.rel (.var 4)) (.cons false (.var 5) (.cons false (.var 2) .nil)))))) .nil))) := rfl
  rw [eb]
  simp [-s_for, o_idic0]
  intro q hq q2 hq2
  have hne : q ≠ q2 := fun e => by rw [e, put_same] at hq2; cases hq2
  have hq2' : hd q2 = none := by rw [put_ne (Ne.symm hne)] at hq2; exact hq2
  simp [atI, ixN]
  refine sec_walk ?_
  obtain ⟨sm1, sm2, sm3, sm4⟩ := sm
  have hN : secs.length ≤ secN secs := by
    have : ∀ l : List (Tx × Bk), l.length ≤ secN l := by
      intro l
      induction l with
      | nil => simp
      | cons p l ih => obtain ⟨w, b⟩ := p; rw [secN_cons, List.length_cons]; omega
    exact this secs
  refine li_loop (n := n) (d := d) hq hq2' hne ss secs 3 [] [] _ none hs (fun p hp => (sm1 p hp).1) (by simpa using nd) (((Sub.refl hd).put hq).put hq2') ((put_ne hne).trans put_same) put_same (by simp; omega) (by simp; omega) fun mv hd2 y' m s2 f1 f2 => ?_
  have l1 := m.2.2
  simp [atI, ixN]
  refine moves_ok (n := n) d body hd2 bd (3 + secN secs) q mv _ (view_none (fun _ => by simp) hb s2) sm2 f1 (by simp at l1; omega) fun mv2 m2 => ?_
  simp
  have f2' : put hd2 q (.dic mv2) q2 = some (.dic (hsD (secD 3 secs))) := (put_ne (Ne.symm hne)).trans (by simpa using f2)
  have r1 : ∀ Q, rel true (.v (.ref q)) (put hd2 q (.dic mv2)) Q = Q (.nd mv2) (del (put hd2 q (.dic mv2)) q) := fun Q => by unfold rel; simp
  rw [r1]
  have f3 : del (put hd2 q (.dic mv2)) q q2 = some (.dic (hsD (secD 3 secs))) := (del_nq (Ne.symm hne)).trans f2'
  have r2 : ∀ Q, rel true (.v (.ref q2)) (del (put hd2 q (.dic mv2)) q) Q = Q (.nd (hsD (secD 3 secs))) (del (del (put hd2 q (.dic mv2)) q) q2) := fun Q => by unfold rel; simp only [f3]
  simp only [d_nd]
  rw [r2]
  refine ⟨hd, fun x o z => ?_, ?_⟩
  · have n1 : x ≠ q := fun e => by rw [e, hq] at z; cases z
    have n2 : x ≠ q2 := fun e => by rw [e, hq2'] at z; cases z
    rw [del_nq n2, del_nq n1, put_ne n1]; exact s2 x o z
  · have := k mv2 fun j r h1 h2 h3 => by
      unfold rowAt allR at h1
      rw [List.getElem?_append_right (by simp; omega)] at h1
      simp only [List.length_cons, List.length_nil] at h1
      rcases app_at h1 with ⟨c, h4⟩ | ⟨j', e, h4⟩
      · rw [secR_len] at c
        have ej : 3 + (j - 1 - (0 + 1 + 1)) = j := by omega
        have := m.1 _ r h4 h3
        rw [ej] at this
        rw [m2.2.1 j (by omega)]
        exact this
      · rw [secR_len] at e
        have ej : 3 + secN secs + j' = j := by omega
        have := m2.1 j' r h4
        rw [ej] at this
        exact this
    have e9 : lastP secs body = 3 + secN secs + body.rows := rfl
    rw [e9] at this
    simpa using this
end
end LK15
set_option Elab.async false
set_option linter.all false
set_option maxRecDepth 100000
set_option maxHeartbeats 400000
namespace LK15
open PySem PySem.Spec PyProof.Rows L2 DL
section
variable {K : PySem.W.Frag}
variable {cf : Cfg} {cs : List (Tx × Nat)} {ls sv : List Tx} {secs : List (Tx × Bk)} {body : Bk}
theorem p37 : M.pg.fn 37 = some f37 := by kernel_rfl
theorem p38 : M.pg.fn 38 = some f38 := by kernel_rfl
theorem next_last {n : Nat} {mv : List (DK × D)} {stk : List Nat} {hd : Hd} {Q : EV → Hd → Prop} (kk : Q (.nl []) hd) : gam (M.tb K) M.pg (n + 1) 37 [laidV mv secs body, .int (lastP secs body), .tup (nsD stk)] hd Q := by
  refine gam_at p37 rfl ?_
  unfold f37
  simp [atI, ixN, oeq_int]
  exact ⟨hd, Sub.refl _, kk⟩
theorem next_ok {n k : Nat} {mv : List (DK × D)} {stk : List Nat} {r : Rw} {hd : Hd} {Q : EV → Hd → Prop} (ok : RowsOk cf secs body) (hm : MvAll mv secs body) (hk : 3 ≤ k) (hr : rowAt secs body k = some r) (hb : r.blk ∨ ∃ a, r = .partE a) (hs : (∃ a, r = .partE a) → stk ≠ []) (hl : stk.length ≤ 1000)
    (kk : Q (.nl ((nxt secs k stk r).map prD)) hd) : gam (M.tb K) M.pg (n + 1) 37 [laidV mv secs body, .int k, .tup (nsD stk)] hd Q := by
  refine gam_at p37 rfl ?_
  unfold f37
  have lt := row_lt hr hk
  have e0 : ((k : Int) == (lastP secs body : Nat)) = false := by simp; omega
  have g := hm k r hr hk hb
  have i0 : ∀ Q, oIdxA hd [laidV mv secs body, .int 0] Q = Q (.v (.dic mv)) hd := fun Q => by simp [atI, ixN]
  have i1 : ∀ Q, oIdxA hd [laidV mv secs body, .int 1] Q = Q (.v (.dic (hsD (secD 3 secs)))) hd := fun Q => by simp [atI, ixN]
  have i3 : ∀ Q, oIdxA hd [laidV mv secs body, .int 3] Q = Q (.v (.int (lastP secs body))) hd := fun Q => by simp [atI, ixN]
  have im : ∀ Q, oIdxA hd [.dic mv, .int k] Q = Q (.v (mvD k r)) hd := fun Q => ix_dicI rfl g
  have goes : ∀ L : List Nat, L.length ≤ 100 → nxt secs k stk r = L.map (fun t => (t, stk)) → mvD k r = .tup [.str [103, 111], .lst (L.map fun (t : Nat) => .int (t : Int))] → wpSs (M.tb K) M.pg (gam (M.tb K) M.pg n) f37.body { nx := fun _ hd' => ∃ h2, DL.Sub h2 hd' ∧ Q (.v .non) h2, rt := fun ev hd' => ∃ h2, DL.Sub h2 hd' ∧ Q ev h2, bk := fun _ _ => False, ct := fun _ _ => False } [some (laidV mv secs body), some (.int k), some (.tup (nsD stk)), none, none] hd := fun L hL h1 h2 => by
    unfold f37
    simp [-laidV, -ix_lit]
    simp only [i3, i0, d_v, oeq_int, e0, im, h2]
    simp [atI, ixN, oeq_str, walkD]
    refine ⟨by omega, ?_⟩
    refine turns_fm (gd := none) (hd := hd) (fun (t : Nat) => .int (t : Int)) (fun t => some (prD (t, stk))) trivial L [] (fun t ht K hK => hK) ?_
    refine ⟨hd, Sub.refl _, ?_⟩
    rw [h1] at kk
    have e : (L.filterMap fun t => some (prD (t, stk))) = (L.map fun t => (t, stk)).map prD := by rw [List.filterMap_eq_map', List.map_map]; rfl
    rw [List.nil_append, e]; exact kk
  cases r with
  | asg i =>
    simp [-laidV, -ix_lit]
    simp only [i3, i0, d_v, oeq_int, e0, im]
    simp [mvD, atI, ixN, oeq_str]
    exact ⟨hd, Sub.refl _, kk⟩
  | doo p =>
    obtain ⟨h1, _⟩ := doo_part ok hr hk
    obtain ⟨at_, m, a1, a2, a3, a4, a5⟩ := secD_at secs 3 p h1
    obtain ⟨e2, e3⟩ := hdOf_eq ok.nd a1
    have ih : ∀ Q, oIdxA hd [.dic (hsD (secD 3 secs)), .str p] Q = Q (.v (.int at_)) hd := fun Q => ix_dicS rfl e3
    simp [-laidV, -ix_lit]
    simp only [i3, i0, d_v, oeq_int, e0, im]
    simp [-laidV, mvD, atI, ixN, oeq_str]
    rw [ih]
    simp [oAdd, nsD]
    refine ⟨by omega, hd, Sub.refl _, ?_⟩
    simpa [nxt, prD, e2, nsD] using kk
  | partE a =>
    obtain ⟨s', one, e2⟩ : ∃ s' one, stk = s' ++ [one] := by
      rcases List.eq_nil_or_concat stk with e | ⟨s', one, e⟩
      · exact absurd e (hs ⟨a, rfl⟩)
      · exact ⟨s', one, by rw [e, List.concat_eq_append]⟩
    subst e2
    have e3 : nsD (s' ++ [one]) = nsD s' ++ [.int one] := by simp [nsD]
    simp [-laidV, -ix_lit]
    simp only [i3, i0, d_v, oeq_int, e0, im]
    simp [-laidV, mvD, oeq_str]
    have x0 : ∀ w : Tx, atI [D.str w] 0 = some (.str w) := fun w => rfl
    rw [x0, e3, at_last, cutD_init]
    simp [oeq_str]
    refine ⟨hd, Sub.refl _, ?_⟩
    simpa [nxt, prD] using kk
  | part w e => rcases hb with hb | ⟨a, hb⟩ <;> first | exact hb.elim | cases hb
  | nm => rcases hb with hb | ⟨a, hb⟩ <;> first | exact hb.elim | cases hb
  | kp => rcases hb with hb | ⟨a, hb⟩ <;> first | exact hb.elim | cases hb
  | _ => exact goes _ (by simp [gos]) rfl rfl
end
end LK15
set_option Elab.async false
set_option linter.all false
set_option maxRecDepth 100000
set_option maxHeartbeats 400000
namespace LK15
open PySem PySem.Spec PyProof.Rows L2 DL
section
variable {K : PySem.W.Frag}
variable {cf : Cfg} {cs : List (Tx × Nat)} {ls sv : List Tx} {secs : List (Tx × Bk)} {body : Bk}
def stkD (W : List (Nat × List Nat)) : List D := W.map fun q => .tup (nsD q.2)
theorem Wlk.snoc {W : List (Nat × List Nat)} {q q' : Nat × List Nat} {r : Rw} (w : Wlk secs body W) (hq : W[W.length - 1]? = some q) (hr : rowAt secs body q.1 = some r) (hn : q' ∈ nxt secs q.1 q.2 r) : Wlk secs body (W ++ [q']) := by
  have hl : 1 ≤ W.length := by
    cases W with
    | nil => have := w.fst; cases this
    | cons => simp
  refine ⟨by rw [List.getElem?_append_left (by omega)]; exact w.fst, fun i p h => ?_⟩
  by_cases c : i + 1 < W.length
  · rw [List.getElem?_append_left c] at h
    obtain ⟨p0, r0, h1, h2, h3⟩ := w.stp i p h
    exact ⟨p0, r0, by rw [List.getElem?_append_left (by omega)]; exact h1, h2, h3⟩
  · have e : i + 1 = W.length := by
      have := (List.getElem?_eq_some_iff.mp h).1
      rw [List.length_append, List.length_singleton] at this
      omega
    rw [e, List.getElem?_append_right (Nat.le_refl _)] at h
    have : q' = p := by simpa using h
    subst this
    have e2 : W.length - 1 = i := by omega
    rw [e2] at hq
    exact ⟨q, r, by rw [List.getElem?_append_left (by omega)]; exact hq, hr, hn⟩
abbrev wkBody : ISs := match f38.body with
  | .cons _ (.cons _ (.cons (.for_ _ _ b) _)) => b
  | _ => .nil
theorem wk_loop {n : Nat} {mv : List (DK × D)} {E : DEn} {many : D} {p t u : Addr} {hd0 : Hd} (ok : RowsOk cf secs body) (hm : MvAll mv secs body) (hne : ∀ w ∈ wordsS secs, w ≠ []) (hs : secs.length ≤ 1000) (d1 : t ≠ p) (d2 : u ≠ p) (d3 : t ≠ u)
    (kE : ∀ (W : List (Nat × List Nat)) (q : Nat × List Nat) (hd : Hd) (b : Int) (y : List (Option D)), Wlk secs body W → W.length ≤ 100 → hd t = some (.lst (nsD (W.map (·.1)))) → hd u = some (.lst (stkD W)) → PB hd p b → b ≤ 10000000 → (∀ x, x ≠ p → x ≠ t → x ≠ u → hd x = hd0 x) → y.length = 3 →
      E.nx (some (.ref p) :: some (laidV mv secs body) :: some many :: (y[0]?.getD none) :: some (.int q.1) :: some (.tup (nsD q.2)) :: some (.ref t) :: some (.ref u) :: (y[1]?.getD none) :: []) hd) :
    ∀ (m i : Nat) (W : List (Nat × List Nat)) (q : Nat × List Nat) (hd : Hd) (b : Int) (y3 y8 : Option D), Wlk secs body W → W[W.length - 1]? = some q → W.length + m ≤ 100 → hd t = some (.lst (nsD (W.map (·.1)))) → hd u = some (.lst (stkD W)) → PB hd p b → b + m ≤ 10000000 → (∀ x, x ≠ p → x ≠ t → x ≠ u → hd x = hd0 x) →
      loop (.nm 3) none E (wpSs (M.tb K) M.pg (gam (M.tb K) M.pg (n + 1)) wkBody) (rngD i m) [some (.ref p), some (laidV mv secs body), some many, y3, some (.int q.1), some (.tup (nsD q.2)), some (.ref t), some (.ref u), y8] hd
  | 0, i, W, q, hd, b, y3, y8, w, hq, hl, ht, hu, hp, hb, fr => ⟨trivial, kE W q hd b [y3, y8, none] w (by omega) ht hu hp (by omega) fr rfl⟩
  | m + 1, i, W, q, hd, b, y3, y8, w, hq, hl, ht, hu, hp, hb, fr => by
    rw [rngD_succ]
    refine ⟨trivial, ?_⟩
    have I := w.inv ok hne _ q hq
    have hsl : q.2.length ≤ 1000 := by
      have := ch_len ok hne I.ch
      have e : rk secs [] = secs.length := by unfold rk; rw [if_pos rfl]
      rw [e] at this; omega
    simp [wkBody, f38]
    by_cases hlast : q.1 = lastP secs body
    · have e5 : (q.1 : Int) = (lastP secs body : Nat) := by omega
      rw [e5]
      refine next_last ?_
      simp
      have e6 : ∀ hd, ∀ Q : EV → Hd → Prop, oEq false hd [.lst [], .lst []] Q = Q (.v (.bl true)) hd := fun hd Q => prD_nil (L := [])
      rw [e6]
      simp
      have := kE W q hd b [some (.int i), some (.lst []), none] w (by omega) ht hu hp (by omega) fr rfl
      rw [e5] at this
      exact this
    · rcases I.pl with e | ⟨r, h1, h2⟩
      · exact absurd e hlast
      · refine next_ok ok hm I.ge h1 h2 (inv_part I h1 hne) hsl ?_
        simp [prD_nil]
        have hn1 : (nxt secs q.1 q.2 r).isEmpty = false := by
          cases r <;> first | rfl | (rcases h2 with h2 | ⟨_, h2⟩ <;> first | exact h2.elim | cases h2)
        have hn2 : 1 ≤ (nxt secs q.1 q.2 r).length ∧ (nxt secs q.1 q.2 r).length ≤ 2 := by
          refine ⟨?_, by cases r <;> simp [nxt, gos]⟩
          cases hL : nxt secs q.1 q.2 r with
          | nil => rw [hL] at hn1; cases hn1
          | cons => simp
        rw [hn1]
        simp
        refine take_ok hp (by omega) (by omega) (by omega) fun v hd1 hp1 fr1 v0 v1 => ?_
        obtain ⟨q', hq', hv⟩ : ∃ q' ∈ nxt secs q.1 q.2 r, atI ((nxt secs q.1 q.2 r).map prD) v = some (prD q') := by
          obtain ⟨x, e1, e2⟩ := at_nat (xs := (nxt secs q.1 q.2 r).map prD) v0 (by rw [List.length_map]; exact v1)
          obtain ⟨q', h3, rfl⟩ := List.mem_map.mp e2
          exact ⟨q', h3, e1⟩
        simp only [d_v, ix_lit, hv]
        have ht1 : hd1 t = some (.lst (nsD (W.map (·.1)))) := (fr1 t d1).trans ht
        have hu1 : hd1 u = some (.lst (stkD W)) := (fr1 u d2).trans hu
        simp [prD]
        refine ⟨tg_lst (by rw [v_ref, ht1]), ?_⟩
        rw [app_put ht1, nsD_snoc]
        refine ⟨by simp [nsD]; omega, ?_⟩
        have hu2 : put hd1 t (.lst (nsD (W.map (·.1) ++ [q'.1]))) u = some (.lst (stkD W)) := (put_ne (Ne.symm d3)).trans hu1
        refine ⟨tg_lst (by rw [v_ref, hu2]), ?_⟩
        rw [app_put hu2]
        refine ⟨by simp [stkD]; omega, ?_⟩
        have e1 : ((i : Int) + 1) = ((i + 1 : Nat) : Int) := by omega
        rw [e1]
        refine wk_loop ok hm hne hs d1 d2 d3 kE m (i + 1) (W ++ [q']) q' _ (b + 1) _ _ (w.snoc hq h1 hq') (by simp) (by rw [List.length_append, List.length_singleton]; omega) ((put_ne d3).trans (by rw [put_same]; simp)) (by rw [put_same]; simp [stkD]) ?_ (by omega) fun x x1 x2 x3 => ?_
        · obtain ⟨s, f, c, z0, z⟩ := hp1
          exact ⟨s, f, c, (put_ne (Ne.symm d2)).trans ((put_ne (Ne.symm d1)).trans z0), z⟩
        · rw [put_ne x3, put_ne x2, fr1 x x1]; exact fr x x1 x2 x3
theorem walk_ok {n : Nat} {mv : List (DK × D)} {p : Addr} {hd : Hd} {b : Int} {m : Nat} {Q : EV → Hd → Prop} (ok : RowsOk cf secs body) (hm : MvAll mv secs body) (hne : ∀ w ∈ wordsS secs, w ≠ []) (hs : secs.length ≤ 1000) (hp : PB hd p b) (hb : b ≤ 9900000) (hmn : m ≤ 60)
    (k : ∀ (W : List (Nat × List Nat)) (hd' : Hd) (b' : Int), Wlk secs body W → W.length ≤ 100 → PB hd' p b' → b' ≤ 10000000 → Fr hd hd' p → Q (.nl [.tup (nsD (W.map (·.1))), .lst (stkD W)]) hd') :
    gam (M.tb K) M.pg (n + 2) 38 [.ref p, laidV mv secs body, .int m] hd Q := by
  refine gam_at p38 rfl ?_
  have eb : f38.body = .cons (.par [4, 5] (.cons false (.op .idx (.cons false (.var 1) (.cons false (.lit (.int 2)) .nil))) (.cons false (.op .tup .nil) .nil))) (.cons (.par [6, 7] (.cons true (.op .lst (.cons false (.var 4) .nil)) (.cons true (.op .lst (.cons false (.var 5) .nil)) .nil))) (.cons (.for_ (.nm 3) (.rng1 (.var 2)) wkBody) (.cons (.ret false (.op .lst (.cons false (.op .tupof (.cons false (.var 6) .nil)) (.cons false (.rel (.var 7)) .nil)))) .nil))) := rfl
  rw [eb]
  have i2 : ∀ hd Q, oIdxA hd [laidV mv secs body, .int 2] Q = Q (.v (.int ((3 + secN secs : Nat) : Int))) hd := fun hd Q => by simp [atI, ixN]
  simp [-s_for, -laidV, -ix_lit]
  rw [i2]
  simp [-s_for]
  intro t ht u hu
  have pp : hd p ≠ none := by obtain ⟨s, f, c, z0, z⟩ := hp; rw [z0]; simp
  have d3 : t ≠ u := fun e => by rw [e, put_same] at hu; cases hu
  have hu' : hd u = none := by rw [put_ne (Ne.symm d3)] at hu; exact hu
  have d1 : t ≠ p := fun e => pp (e ▸ ht)
  have d2 : u ≠ p := fun e => pp (e ▸ hu')
  rw [s_for]
  simp
  refine ⟨by omega, ?_⟩
  have w0 : Wlk secs body [(3 + secN secs, [])] := ⟨rfl, fun i q' h => by simp at h⟩
  have e1 : ((3 : Int) + secN secs) = ((3 + secN secs : Nat) : Int) := by omega
  rw [e1]
  refine wk_loop (n := n) (hd0 := hd) ok hm hne hs d1 d2 d3 (fun W q hd2 b2 y w hl h1 h2 hp2 hb2 fr hy => ?_) m 0 [(3 + secN secs, [])] (3 + secN secs, []) _ b none none w0 rfl (by simp; omega) ((put_ne d3).trans put_same) put_same ?_ (by omega) fun x x1 x2 x3 => by rw [put_ne x3, put_ne x2]
  · match y, hy with
    | [y0, y1, y2], _ =>
    have v1 : view hd2 (.ref t) = .lst (nsD (W.map (·.1))) := by rw [v_ref, h1]
    simp [oTupOf, v1, rel_lst h2]
    refine ⟨del (del hd2 u) t, fun x o z => ?_, k W _ b2 w hl ?_ hb2 fun x hx => ?_⟩
    · by_cases c : x = t
      · rw [c, del_sq] at z; cases z
      · rw [del_nq c] at z; exact z
    · obtain ⟨s, f, c, z0, z⟩ := hp2
      exact ⟨s, f, c, (del_nq (Ne.symm d1)).trans ((del_nq (Ne.symm d2)).trans z0), z⟩
    · by_cases c : x = t
      · rw [c, del_sq, ht]
      · rw [del_nq c]
        by_cases c2 : x = u
        · rw [c2, del_sq, hu']
        · rw [del_nq c2]; exact fr x hx c c2
  · obtain ⟨s, f, c, z0, z⟩ := hp
    exact ⟨s, f, c, (put_ne (Ne.symm d2)).trans ((put_ne (Ne.symm d1)).trans z0), z⟩
end
end LK15
set_option Elab.async false
set_option linter.all false
set_option maxRecDepth 100000
set_option maxHeartbeats 400000
namespace LK15
open PySem PySem.Spec PyProof.Rows L2 DL
def Bk.app : Bk → Bk → Bk
  | .nil, c => c
  | .cons i r, c => .cons i (r.app c)
def Bk.ins : Bk → Nat → It → Bk
  | b, 0, i => .cons i b
  | .nil, _ + 1, i => .cons i .nil
  | .cons j r, n + 1, i => .cons j (r.ins n i)
theorem app_L : ∀ (b c : Bk), bkL (b.app c) = bkL b ++ bkL c
  | .nil, c => by simp [Bk.app, bkL]
  | .cons i r, c => by simp [Bk.app, bkL, app_L r c]
theorem app_C : ∀ (b c : Bk), bkC (b.app c) = bkC b ++ bkC c
  | .nil, c => by simp [Bk.app, bkC]
  | .cons i r, c => by simp [Bk.app, bkC, app_C r c]
theorem app_rows : ∀ (b c : Bk), (b.app c).rows = b.rows + c.rows
  | .nil, c => by simp [Bk.app, Bk.rows]
  | .cons i r, c => by simp only [Bk.app, Bk.rows, app_rows r c]; omega
theorem app_dep {d : Nat} : ∀ {b c : Bk}, b.dep d → c.dep d → (b.app c).dep d
  | .nil, c, _, h => h
  | .cons i r, c, h, h2 => by unfold Bk.dep at h; unfold Bk.app Bk.dep; exact ⟨h.1, app_dep h.2 h2⟩
theorem ins_L : ∀ (b : Bk) (n : Nat) (i : It), bkL (b.ins n i) = (bkL b).take n ++ [itD i] ++ (bkL b).drop n
  | b, 0, i => by cases b <;> simp [Bk.ins, bkL]
  | .nil, n + 1, i => by simp [Bk.ins, bkL]
  | .cons j r, n + 1, i => by simp [Bk.ins, bkL, ins_L r n i]
theorem ins_rows : ∀ (b : Bk) (n : Nat) (i : It), (b.ins n i).rows = b.rows + i.rows
  | b, 0, i => by cases b <;> simp [Bk.ins, Bk.rows] <;> omega
  | .nil, n + 1, i => by simp [Bk.ins, Bk.rows]
  | .cons j r, n + 1, i => by simp only [Bk.ins, Bk.rows, ins_rows r n i]; omega
theorem ins_dep {d : Nat} {i : It} (hi : i.dep d) : ∀ {b : Bk} {n : Nat}, b.dep d → (b.ins n i).dep d
  | b, 0, h => by cases b <;> (unfold Bk.ins Bk.dep; exact ⟨hi, h⟩)
  | .nil, n + 1, h => by unfold Bk.ins Bk.dep; exact ⟨hi, by unfold Bk.dep; trivial⟩
  | .cons j r, n + 1, h => by unfold Bk.dep at h; unfold Bk.ins Bk.dep; exact ⟨h.1, ins_dep hi h.2⟩
theorem ins_ok {c : Cfg} {ah : List Tx} {i : It} (hi : i.ok c ah) : ∀ {b : Bk} {n : Nat}, b.ok c ah → (b.ins n i).ok c ah
  | b, 0, h => by cases b <;> (unfold Bk.ins Bk.ok; exact ⟨hi, h⟩)
  | .nil, n + 1, h => by unfold Bk.ins Bk.ok; exact ⟨hi, by unfold Bk.ok; trivial⟩
  | .cons j r, n + 1, h => by unfold Bk.ok at h; unfold Bk.ins Bk.ok; exact ⟨h.1, ins_ok hi h.2⟩
theorem ins_C {w : Tx} {i : It} : ∀ {b : Bk} {n : Nat}, w ∈ bkC b ∨ w ∈ itC i → w ∈ bkC (b.ins n i)
  | b, 0, h => by cases b <;> (unfold Bk.ins; rw [bkC]; rcases h with h | h <;> simp [h])
  | .nil, n + 1, h => by
    unfold Bk.ins
    rw [bkC]
    rcases h with h | h
    · unfold bkC at h; cases h
    · exact List.mem_append.mpr (.inl h)
  | .cons j r, n + 1, h => by
    unfold Bk.ins
    rw [bkC] at h ⊢
    rcases h with h | h
    · rcases List.mem_append.mp h with h | h
      · simp [h]
      · exact List.mem_append.mpr (.inr (ins_C (.inl h)))
    · exact List.mem_append.mpr (.inr (ins_C (.inr h)))
theorem ins_ne {b : Bk} {n : Nat} {i : It} : b.ins n i ≠ .nil := by
  cases b <;> cases n <;> simp [Bk.ins]
mutual
theorem dos_it : ∀ (i : It) (a : Nat), dosR (itR a i) = itC i
  | .read l, a => by unfold itR itC; rfl
  | .copy l r, a => by unfold itR itC; rfl
  | .call l f as, a => by unfold itR itC; rfl
  | .doo p, a => by unfold itR itC; rfl
  | .lp b, a => by unfold itR itC; rw [dos_app, dos_app, dos_bk b]; simp [dosR]
  | .ei x y, a => by unfold itR itC; rw [dos_app, dos_app, dos_app, dos_app, dos_bk x, dos_bk y]; simp [dosR]
theorem dos_bk : ∀ (b : Bk) (a : Nat), dosR (bkR a b) = bkC b
  | .nil, a => by unfold bkR bkC; rfl
  | .cons i r, a => by unfold bkR bkC; rw [dos_app, dos_it i, dos_bk r]
theorem dos_app : ∀ (L L' : List Rw), dosR (L ++ L') = dosR L ++ dosR L'
  | [], L' => rfl
  | r :: L, L' => by cases r <;> simp [dosR, dos_app L L']
end
mutual
theorem dep_monoI {d e : Nat} (h : d ≤ e) : ∀ (i : It), i.dep d → i.dep e
  | .lp b, q => by unfold It.dep at q ⊢; exact ⟨by omega, dep_monoB (by omega) b q.2⟩
  | .ei x y, q => by unfold It.dep at q ⊢; exact ⟨by omega, dep_monoB (by omega) x q.2.1, dep_monoB (by omega) y q.2.2⟩
  | .doo p, _ => by unfold It.dep; trivial
  | .read l, _ => by unfold It.dep; trivial
  | .copy l r, _ => by unfold It.dep; trivial
  | .call l f as, _ => by unfold It.dep; trivial
theorem dep_monoB {d e : Nat} (h : d ≤ e) : ∀ (b : Bk), b.dep d → b.dep e
  | .nil, _ => by unfold Bk.dep; trivial
  | .cons i r, q => by unfold Bk.dep at q ⊢; exact ⟨dep_monoI h i q.1, dep_monoB h r q.2⟩
end
/-- names and functions that are words -/
structure CfOk (c : Cfg) : Prop where
  ls : ∀ w ∈ c.ls, isW w = true
  cs : ∀ p ∈ c.cs, isW p.1 = true ∧ p.2 ≤ 3
  fn : fun1 c.cs
mutual
theorem smlI {c : Cfg} {ah : List Tx} (h : CfOk c) (ha : ∀ w ∈ ah, isW w = true) : ∀ (i : It), i.ok c ah → i.sml
  | .lp b, q => by unfold It.ok at q; unfold It.sml; exact smlB h ha b q
  | .ei x y, q => by unfold It.ok at q; unfold It.sml; exact ⟨smlB h ha x q.1, smlB h ha y q.2⟩
  | .doo p, q => by unfold It.ok at q; unfold It.sml; exact w_len (ha p q)
  | .read l, q => by unfold It.ok at q; unfold It.sml; exact w_len (h.ls l q)
  | .copy l r, q => by unfold It.ok at q; unfold It.sml; exact ⟨w_len (h.ls l q.1), w_len (h.ls r q.2)⟩
  | .call l f as, q => by unfold It.ok at q; unfold It.sml; exact ⟨w_len (h.ls l q.1), w_len (h.cs _ q.2.1).1, (h.cs _ q.2.1).2, fun a ha => w_len (h.ls a (q.2.2 a ha))⟩
theorem smlB {c : Cfg} {ah : List Tx} (h : CfOk c) (ha : ∀ w ∈ ah, isW w = true) : ∀ (b : Bk), b.ok c ah → b.sml
  | .nil, _ => by unfold Bk.sml; trivial
  | .cons i r, q => by unfold Bk.ok at q; unfold Bk.sml; exact ⟨smlI h ha i q.1, smlB h ha r q.2⟩
end
/-- what is asked of each row -/
def Rw.good (c : Cfg) (r : Rw) : Prop := r.fine c.ls ∧ r.wfa c.cs
theorem good_one {c : Cfg} {r x : Rw} (hr : r ∈ [x]) (h : x.good c) : r.good c := by rw [List.mem_singleton.mp hr]; exact h
mutual
theorem goodI {c : Cfg} {ah : List Tx} (h : CfOk c) (ha : ∀ w ∈ ah, isW w = true) : ∀ (i : It) (a : Nat), i.ok c ah → ∀ r ∈ itR a i, r.good c
  | .read l, a, q, r, hr => by unfold It.ok at q; unfold itR at hr; exact good_one hr ⟨q, trivial⟩
  | .copy l x, a, q, r, hr => by unfold It.ok at q; unfold itR at hr; exact good_one hr ⟨q, trivial⟩
  | .call l f as, a, q, r, hr => by unfold It.ok at q; unfold itR at hr; exact good_one hr ⟨⟨q.1, (h.cs _ q.2.1).1, (h.cs _ q.2.1).2, q.2.2⟩, q.2.1⟩
  | .doo p, a, q, r, hr => by unfold It.ok at q; unfold itR at hr; exact good_one hr ⟨ha p q, trivial⟩
  | .lp b, a, q, r, hr => by
    unfold It.ok at q; unfold itR at hr
    rcases List.mem_append.mp hr with hr | hr
    · rcases List.mem_append.mp hr with hr | hr
      · exact good_one hr ⟨trivial, trivial⟩
      · exact goodB h ha b _ q r hr
    · exact good_one hr ⟨trivial, trivial⟩
  | .ei x y, a, q, r, hr => by
    unfold It.ok at q; unfold itR at hr
    rcases List.mem_append.mp hr with hr | hr
    · rcases List.mem_append.mp hr with hr | hr
      · rcases List.mem_append.mp hr with hr | hr
        · rcases List.mem_append.mp hr with hr | hr
          · exact good_one hr ⟨trivial, trivial⟩
          · exact goodB h ha x _ q.1 r hr
        · exact good_one hr ⟨trivial, trivial⟩
      · exact goodB h ha y _ q.2 r hr
    · exact good_one hr ⟨trivial, trivial⟩
theorem goodB {c : Cfg} {ah : List Tx} (h : CfOk c) (ha : ∀ w ∈ ah, isW w = true) : ∀ (b : Bk) (a : Nat), b.ok c ah → ∀ r ∈ bkR a b, r.good c
  | .nil, a, q, r, hr => by unfold bkR at hr; cases hr
  | .cons i x, a, q, r, hr => by
    unfold Bk.ok at q; unfold bkR at hr
    rcases List.mem_append.mp hr with hr | hr
    · exact goodI h ha i _ q.1 r hr
    · exact goodB h ha x _ q.2 r hr
end
theorem goodS {c : Cfg} {d : Nat} (h : CfOk c) : ∀ (l : List (Tx × Bk)) (a : Nat) (ah : List Tx), (∀ w ∈ ah, isW w = true) → (∀ w ∈ wordsS l, isW w = true) → SecOk c d ah l → ∀ r ∈ secR a l, r.good c
  | [], a, ah, _, _, _, r, hr => by unfold secR at hr; cases hr
  | (w, b) :: l, a, ah, h1, h2, q, r, hr => by
    unfold SecOk at q
    unfold secR at hr
    have hw : isW w = true := h2 w (by simp [wordsS])
    rcases List.mem_append.mp hr with hr | hr
    · rcases List.mem_append.mp hr with hr | hr
      · rcases List.mem_append.mp hr with hr | hr
        · exact good_one hr ⟨hw, trivial⟩
        · exact goodB h h1 b _ q.2.1 r hr
      · exact good_one hr ⟨trivial, trivial⟩
    · refine goodS h l _ (ah ++ [w]) (fun x hx => ?_) (fun x hx => h2 x (by simp [wordsS] at hx ⊢; exact .inr hx)) q.2.2.2 r hr
      rcases List.mem_append.mp hx with hx | hx
      · exact h1 x hx
      · rw [List.mem_singleton.mp hx]; exact hw
end LK15
set_option Elab.async false
set_option linter.all false
set_option maxRecDepth 100000
set_option maxHeartbeats 400000
namespace LK15
open PySem PySem.Spec PyProof.Rows L2 DL
/-- the parts, each with its rows at an address -/
def SecR (hd : Hd) : List (Tx × Addr) → List (Tx × Bk) → Prop
  | [], [] => True
  | p :: sa, q :: secs => p.1 = q.1 ∧ hd p.2 = some (.lst (bkL q.2)) ∧ SecR hd sa secs
  | _, _ => False
def rf (sa : List (Tx × Addr)) : List (Tx × D) := sa.map fun p => (p.1, .ref p.2)
theorem SecR.at_ {hd : Hd} : ∀ {sa : List (Tx × Addr)} {secs : List (Tx × Bk)}, SecR hd sa secs → SecAt hd (rf sa) secs
  | [], [], _ => trivial
  | [], _ :: _, h => h.elim
  | _ :: _, [], h => h.elim
  | p :: sa, q :: secs, h => ⟨h.1, by show view hd (.ref p.2) = _; rw [v_ref, h.2.1], h.2.2.at_⟩
theorem SecR.keep {hd hd' : Hd} : ∀ {sa : List (Tx × Addr)} {secs : List (Tx × Bk)}, (∀ q ∈ sa, hd' q.2 = hd q.2) → SecR hd sa secs → SecR hd' sa secs
  | [], [], _, _ => trivial
  | [], _ :: _, _, h => h.elim
  | _ :: _, [], _, h => h.elim
  | p :: sa, q :: secs, k, h => ⟨h.1, (k p (by simp)).trans h.2.1, h.2.2.keep fun q hq => k q (by simp [hq])⟩
theorem SecR.snoc {hd : Hd} {w : Tx} {b : Bk} {a : Addr} (e : hd a = some (.lst (bkL b))) : ∀ {sa : List (Tx × Addr)} {secs : List (Tx × Bk)}, SecR hd sa secs → SecR hd (sa ++ [(w, a)]) (secs ++ [(w, b)])
  | [], [], _ => ⟨rfl, e, trivial⟩
  | [], _ :: _, h => h.elim
  | _ :: _, [], h => h.elim
  | p :: sa, q :: secs, h => ⟨h.1, h.2.1, h.2.2.snoc e⟩
theorem SecR.some {hd : Hd} : ∀ {sa : List (Tx × Addr)} {secs : List (Tx × Bk)}, SecR hd sa secs → ∀ q ∈ sa, hd q.2 ≠ none
  | [], [], _, q, hq => by cases hq
  | [], _ :: _, h, _, _ => h.elim
  | _ :: _, [], h, _, _ => h.elim
  | p :: sa, q :: secs, h, x, hx => by
    rcases List.mem_cons.mp hx with rfl | hx
    · rw [h.2.1]; simp
    · exact h.2.2.some x hx
theorem SecR.len {hd : Hd} : ∀ {sa : List (Tx × Addr)} {secs : List (Tx × Bk)}, SecR hd sa secs → sa.length = secs.length
  | [], [], _ => rfl
  | [], _ :: _, h => h.elim
  | _ :: _, [], h => h.elim
  | p :: sa, q :: secs, h => by rw [List.length_cons, List.length_cons, h.2.2.len]
theorem secok_snoc {c : Cfg} {d : Nat} {w : Tx} {b : Bk} : ∀ {l : List (Tx × Bk)} {ah : List Tx}, SecOk c d ah l → w ∉ ah ++ wordsS l → b.ok c (ah ++ wordsS l) → b.dep d → SecOk c d ah (l ++ [(w, b)])
  | [], ah, _, h1, h2, h3 => by
    simp only [wordsS, List.map_nil, List.append_nil] at h1 h2
    exact ⟨h1, h2, h3, trivial⟩
  | (v, b') :: l, ah, h, h1, h2, h3 => by
    unfold SecOk at h
    have e : ah ++ wordsS ((v, b') :: l) = (ah ++ [v]) ++ wordsS l := by simp [wordsS]
    rw [e] at h1 h2
    exact ⟨h.1, h.2.1, h.2.2.1, secok_snoc h.2.2.2 h1 h2 h3⟩
section
variable {K : PySem.W.Frag}
theorem p45 : M.pg.fn 45 = some f45 := by kernel_rfl
theorem PB.put {hd : Hd} {p a : Addr} {b : Int} {o : DO} (h : PB hd p b) (n : a ≠ p) : PB (put hd a o) p b := by
  obtain ⟨s, f, c, z0, z⟩ := h
  exact ⟨s, f, c, (put_ne (Ne.symm n)).trans z0, z⟩
theorem PB.nn {hd : Hd} {p : Addr} {b : Int} (h : PB hd p b) : hd p ≠ none := by
  obtain ⟨s, f, c, z0, z⟩ := h
  rw [z0]; simp
/-- the heap while a plan is made -/
structure Ph (hd0 hd : Hd) (p t r : Addr) (sa : List (Tx × Addr)) (secs : List (Tx × Bk)) (R : Nat) (b : Int) : Prop where
  pb : PB hd p b
  t_ : hd t = some (.lst (secV (rf sa)))
  r_ : hd r = some (.lst [.int R])
  sr : SecR hd sa secs
  an : ∀ q ∈ sa, q.2 ≠ p ∧ q.2 ≠ t ∧ q.2 ≠ r ∧ hd0 q.2 = none
  nd : (sa.map (·.2)).Nodup
  fr : ∀ x, hd0 x ≠ none → x ≠ p → hd x = hd0 x
structure Dp (hd0 : Hd) (p t r : Addr) : Prop where
  tp : t ≠ p
  rp : r ≠ p
  tr : t ≠ r
  t0 : hd0 t = none
  r0 : hd0 r = none
  p0 : hd0 p ≠ none
abbrev plSt (p : Addr) (c : Cfg) (many deep most : D) (heads : List Tx) (t r : Addr) (y6 y7 y8 y9 y13 y14 y15 : Option D) : Slt :=
  [some (.ref p), some (.lst (c.ls.map .str)), some (.lst (csD c.cs)), some many, some deep, some most, y6, y7, y8, y9, some (.lst (heads.map .str)), some (.ref t), some (.ref r), y13, y14, y15]
abbrev pl1Body : ISs := match f45.body with
  | .cons _ (.cons (.for_ _ _ b) _) => b
  | _ => .nil
theorem pl1 {n d : Nat} {c : Cfg} {E : DEn} {p t r : Addr} {hd0 : Hd} {many most : D} {heads : List Tx} (dp : Dp hd0 p t r) (hl : 1 ≤ c.ls.length) (hl2 : c.ls.length ≤ 1000) (hc : 1 ≤ c.cs.length) (hc2 : c.cs.length ≤ 1000) (hn : ∀ p ∈ c.cs, p.2 ≤ 3) (hnd : heads.Nodup) (hh : heads.length ≤ 20) (htk : tkB d ≤ 100000) :
    ∀ (m i : Nat) (sa : List (Tx × Addr)) (secs : List (Tx × Bk)) (R : Nat) (hd : Hd) (b : Int) (y6 y7 y8 y9 y13 y14 y15 : Option D), i + m = heads.length → wordsS secs = heads.take i → SecOk c d [] secs → Ph hd0 hd p t r sa secs R b → R ≤ 1000 → b + 100000 * m ≤ 5000000 →
      (∀ sa' secs' R' hd' b' y6' y7' y8' y9' y13' y14' y15', wordsS secs' = heads → SecOk c d [] secs' → Ph hd0 hd' p t r sa' secs' R' b' → R' ≤ 1000 → secN secs' + R' ≤ secN secs + R + 2 * m → b' ≤ b + 100000 * m → E.nx (plSt p c many (.int d) most heads t r y6' y7' y8' y9' y13' y14' y15') hd') →
      loop (.nm 6) none E (wpSs (M.tb K) M.pg (gam (M.tb K) M.pg (n + d + 3)) pl1Body) (rngD i m) (plSt p c many (.int d) most heads t r y6 y7 y8 y9 y13 y14 y15) hd
  | 0, i, sa, secs, R, hd, b, y6, y7, y8, y9, y13, y14, y15, hi, hw, so, ph, hR, hb, k => ⟨trivial, k sa secs R hd b y6 y7 y8 y9 y13 y14 y15 (by rw [hw, List.take_of_length_le (by omega)]) so ph hR (by omega) (by omega)⟩
  | m + 1, i, sa, secs, R, hd, b, y6, y7, y8, y9, y13, y14, y15, hi, hw, so, ph, hR, hb, k => by
    rw [rngD_succ]
    refine ⟨trivial, ?_⟩
    have e1 : ((i : Int) + 1) = ((i + 1 : Nat) : Int) := by omega
    have hil : i < heads.length := by omega
    have hhe : (heads.map D.str)[i]? = some (.str heads[i]) := by rw [List.getElem?_map, List.getElem?_eq_getElem hil]; rfl
    have hsl : secs.length = i := by
      have := congrArg List.length hw
      rw [List.length_take] at this
      simp [wordsS] at this
      omega
    have cut : DL.cutD (heads.map D.str) none (some (i : Int)) = (heads.take i).map .str := by rw [cutD_to, List.map_take]
    simp [pl1Body, f45]
    rw [cut]
    have dd : ((d : Nat) : Int) = (d : Int) := rfl
    refine block_ok hl hl2 hc hc2 hn n d (heads.take i) hd p r b R _ (Ne.symm dp.rp) ph.pb (by omega) ph.r_ (by rw [List.length_take]; omega) hR fun bk hd1 R1 h1 fr1 r1 ok1 dp1 rw1 => ?_
    simp
    intro a ha
    have t1 : hd1 t = some (.lst (secV (rf sa))) := (fr1 t dp.tp dp.tr).trans ph.t_
    have at_ : a ≠ t := fun e => by rw [e, t1] at ha; cases ha
    have ar : a ≠ r := fun e => by rw [e, r1] at ha; cases ha
    have ap : a ≠ p := fun e => h1.nn (e ▸ ha)
    have t2 : put hd1 a (.lst (bkL bk)) t = some (.lst (secV (rf sa))) := (put_ne (Ne.symm at_)).trans t1
    refine ⟨tg_lst (by rw [v_ref, t2]), ?_⟩
    rw [at_get hhe]
    simp
    rw [app_put t2]
    have sl := ph.sr.len
    refine ⟨by simp [secV, rf]; omega, ?_⟩
    rw [e1]
    have e2 : secV (rf sa) ++ [D.tup [.str heads[i], .ref a]] = secV (rf (sa ++ [(heads[i], a)])) := by simp [secV, rf]
    rw [e2]
    have sa1 : ∀ q ∈ sa, q.2 ≠ a := fun q hq e => by
      have := (ph.an q hq)
      have h2 : hd1 q.2 = hd q.2 := fr1 _ this.1 this.2.2.1
      rw [e, ha] at h2
      exact ph.sr.some q hq (by rw [e]; exact h2.symm)
    have hd0a : hd0 a = none := by
      cases e : hd0 a with
      | none => rfl
      | some o =>
        have := ph.fr a (by rw [e]; simp) ap
        rw [← fr1 a ap ar, ha, e] at this
        cases this
    have hwi : heads[i] ∉ heads.take i := fun z => by
      have h2 : heads = heads.take i ++ heads[i] :: heads.drop (i + 1) := by rw [List.getElem_cons_drop, List.take_append_drop]
      rw [h2, List.nodup_append] at hnd
      exact hnd.2.2 _ z _ List.mem_cons_self rfl
    have hw' : wordsS (secs ++ [(heads[i], bk)]) = heads.take (i + 1) := by
      rw [List.take_succ_eq_append_getElem hil, ← hw]; simp [wordsS]
    have hnN : secN (secs ++ [(heads[i], bk)]) = secN secs + (bk.rows + 2) := by rw [secN_app]; simp [secN]
    refine pl1 dp hl hl2 hc hc2 hn hnd hh htk m (i + 1) (sa ++ [(heads[i], a)]) (secs ++ [(heads[i], bk)]) R1 _ (b + tkB d) _ _ _ _ _ _ _ (by omega) hw' (secok_snoc so (by rw [List.nil_append, hw]; exact hwi) (by rw [List.nil_append, hw]; exact ok1) dp1) ?_ (by omega) (by omega) fun sa' secs' R' hd' b' z6 z7 z8 z9 z13 z14 z15 q1 q2 q3 q4 q5 q6 => k sa' secs' R' hd' b' z6 z7 z8 z9 z13 z14 z15 q1 q2 q3 q4 (by omega) (by omega)
    refine ⟨(h1.put ap).put dp.tp, put_same, by rw [put_ne (Ne.symm dp.tr), put_ne (Ne.symm ar)]; exact r1, ?_, fun q hq => ?_, ?_, fun x x0 xp => ?_⟩
    · refine SecR.snoc (by rw [put_ne at_, put_same]) (ph.sr.keep fun q hq => ?_)
      have z := ph.an q hq
      rw [put_ne z.2.1, put_ne (sa1 q hq)]
      exact fr1 _ z.1 z.2.2.1
    · rcases List.mem_append.mp hq with hq | hq
      · exact ph.an q hq
      · rw [List.mem_singleton.mp hq]; exact ⟨ap, at_, ar, hd0a⟩
    · rw [List.map_append, List.nodup_append]
      refine ⟨ph.nd, by simp, fun x hx y hy e => ?_⟩
      have : y = a := by simpa using hy
      obtain ⟨q, hq, rfl⟩ := List.mem_map.mp hx
      exact sa1 q hq (e.trans this)
    · have c1 : x ≠ t := fun e => x0 (e ▸ dp.t0)
      have c2 : x ≠ a := fun e => x0 (e ▸ hd0a)
      have c3 : x ≠ r := fun e => x0 (e ▸ dp.r0)
      rw [put_ne c1, put_ne c2, fr1 x xp c3]
      exact ph.fr x x0 xp
end
end LK15
set_option Elab.async false
set_option linter.all false
set_option maxRecDepth 100000
set_option maxHeartbeats 400000
namespace LK15
open PySem PySem.Spec PyProof.Rows L2 DL
mutual
theorem it_sh {d m : Nat} : ∀ (i : It), i.dep d → shD (2 * d + 3 + m) (itD i) = true
  | .read l, _ => by
    have e : 2 * d + 3 + m = (2 * d + 1 + m) + 1 + 1 := by omega
    rw [e]; simp [itD, shD]
  | .copy l r, _ => by
    have e : 2 * d + 3 + m = (2 * d + 1 + m) + 1 + 1 := by omega
    rw [e]; simp [itD, shD]
  | .call l f as, _ => by
    have e : 2 * d + 3 + m = (2 * d + 1 + m) + 1 + 1 := by omega
    have := all_sh (n := 2 * d + 1 + m) (ws := as)
    rw [e]; simp only [itD, shD, List.all_cons, List.all_nil, this]; rfl
  | .doo p, _ => by
    have e : 2 * d + 3 + m = (2 * d + 1 + m) + 1 + 1 := by omega
    rw [e]; simp [itD, shD]
  | .lp b, h => by
    unfold It.dep at h
    obtain ⟨d', rfl⟩ : ∃ d', d = d' + 1 := ⟨d - 1, by omega⟩
    have e : 2 * (d' + 1) + 3 + m = (2 * d' + 3 + m) + 1 + 1 := by omega
    have := bk_sh (d := d') (m := m) b h.2
    rw [e]; simp only [itD, shD, List.all_cons, List.all_nil, this]; rfl
  | .ei x y, h => by
    unfold It.dep at h
    obtain ⟨d', rfl⟩ : ∃ d', d = d' + 1 := ⟨d - 1, by omega⟩
    have e : 2 * (d' + 1) + 3 + m = (2 * d' + 3 + m) + 1 + 1 := by omega
    have h1 := bk_sh (d := d') (m := m) x h.2.1
    have h2 := bk_sh (d := d') (m := m) y h.2.2
    rw [e]; simp only [itD, shD, List.all_cons, List.all_nil, h1, h2]; rfl
theorem bk_sh {d m : Nat} : ∀ (b : Bk), b.dep d → (bkL b).all (shD (2 * d + 3 + m)) = true
  | .nil, _ => rfl
  | .cons i r, h => by
    unfold Bk.dep at h
    rw [bkL, List.all_cons, it_sh i h.1, bk_sh r h.2]; rfl
end
theorem eq_nil_bk {hd : Hd} {x : D} {b : Bk} {d : Nat} {neg : Bool} {Q : EV → Hd → Prop} (h : view hd x = .lst (bkL b)) (dp : b.dep d) (hd2 : d ≤ 20) : oEq neg hd [x, .lst []] Q = Q (.v (.bl (xor neg (bkL b).isEmpty))) hd := by
  unfold oEq
  have h1 : shD 60 (.lst (bkL b)) = true := by
    have := bk_sh (d := d) (m := 56 - 2 * d) b dp
    have e : 2 * d + 3 + (56 - 2 * d) = 59 := by omega
    rw [e] at this
    exact this
  have h2 : shD 60 (.lst []) = true := rfl
  have h3 : deq (.lst (bkL b)) (.lst []) = (bkL b).isEmpty := by cases bkL b <;> rfl
  simp [h, h1, h2, h3]
mutual
theorem itL_pos : ∀ i : It, 1 ≤ i.rows
  | .lp b => by unfold It.rows; omega
  | .ei x y => by unfold It.rows; omega
  | .doo p => Nat.le_refl _
  | .read l => Nat.le_refl _
  | .copy l r => Nat.le_refl _
  | .call l f as => Nat.le_refl _
theorem bkL_rows : ∀ b : Bk, (bkL b).length ≤ b.rows
  | .nil => Nat.le_refl _
  | .cons i r => by have := itL_pos i; have := bkL_rows r; unfold bkL Bk.rows; rw [List.length_cons]; omega
end
/-- what the later parts call -/
def latC (l : List (Tx × Bk)) : List Tx := l.flatMap fun p => bkC p.2
theorem dos_sec : ∀ (l : List (Tx × Bk)) (a : Nat), dosR (secR a l) = latC l
  | [], a => rfl
  | (w, b) :: r, a => by unfold secR latC; rw [dos_app, dos_app, dos_app, dos_bk, dos_sec r]; simp [dosR, latC]
def catB : List (Tx × Bk) → Bk → Bk
  | [], b => b
  | p :: r, b => catB r (b.app p.2)
theorem cat_C : ∀ (l : List (Tx × Bk)) (b : Bk), bkC (catB l b) = bkC b ++ latC l
  | [], b => by simp [catB, latC]
  | p :: r, b => by unfold catB; rw [cat_C r, app_C]; simp [latC]
theorem cat_rows : ∀ (l : List (Tx × Bk)) (b : Bk), (catB l b).rows ≤ b.rows + secN l
  | [], b => by simp [catB, secN]
  | (w, c) :: r, b => by
    have := cat_rows r (b.app c)
    unfold catB
    rw [app_rows] at this
    rw [secN_cons]
    show (catB r (b.app c)).rows ≤ _
    omega
theorem cat_dep {d : Nat} : ∀ (l : List (Tx × Bk)) (b : Bk), (∀ p ∈ l, p.2.dep d) → b.dep d → (catB l b).dep d
  | [], b, _, h => h
  | p :: r, b, h1, h => by unfold catB; exact cat_dep r _ (fun q hq => h1 q (by simp [hq])) (app_dep h (h1 p (by simp)))
theorem sub_filter {sv ls : List Tx} (h : sv.Sublist ls) : ls.Nodup → ls.filter (fun w => sv.contains w) = sv := by
  induction h with
  | slnil => intro _; rfl
  | cons x h ih =>
    rename_i l1 l2
    intro nd
    have nd' := List.nodup_cons.mp nd
    have hx : x ∉ l1 := fun z => nd'.1 (h.subset z)
    rw [List.filter_cons_of_neg (by simpa using hx)]
    exact ih nd'.2
  | cons_cons x h ih =>
    rename_i l1 l2
    intro nd
    have nd' := List.nodup_cons.mp nd
    rw [List.filter_cons_of_pos (by simp)]
    congr 1
    have : l2.filter (fun w => (x :: l1).contains w) = l2.filter fun w => l1.contains w := by
      refine List.filter_congr fun w hw => ?_
      have : ¬ w = x := fun e => nd'.1 (e ▸ hw)
      simp [this]
    rw [this]
    exact ih nd'.2
section
variable {K : PySem.W.Frag}
abbrev inBody : ISs := .cons (.asg false (.nm 14) (.op .add (.cons false (.var 14) (.cons false (.op .idx (.cons false (.var 15) (.cons false (.lit (.int 1)) .nil))) .nil)))) .nil
theorem in_loop {n : Nat} {hd : Hd} {E : DEn} {p t r : Addr} {c : Cfg} {many deep most : D} {heads : List Tx} {y6 y7 y8 y9 y13 : Option D} :
    ∀ (sa : List (Tx × Addr)) (secs : List (Tx × Bk)) (x : D) (b : Bk) (y : Option D), SecR hd sa secs → view hd x = .lst (bkL b) → b.rows + secN secs ≤ 1000 →
      (∀ x' y', view hd x' = .lst (bkL (catB secs b)) → E.nx (plSt p c many deep most heads t r y6 y7 y8 y9 y13 (some x') y') hd) →
      loop (.nm 15) none E (wpSs (M.tb K) M.pg (gam (M.tb K) M.pg n) inBody) (secV (rf sa)) (plSt p c many deep most heads t r y6 y7 y8 y9 y13 (some x) y) hd
  | [], [], x, b, y, _, hx, hl, k => ⟨trivial, k x y hx⟩
  | [], _ :: _, _, _, _, h, _, _, _ => h.elim
  | _ :: _, [], _, _, _, h, _, _, _ => h.elim
  | q :: sa, (w, bb) :: secs, x, b, y, h, hx, hl, k => by
    obtain ⟨h1, h2, h3⟩ := h
    rw [secN_cons] at hl
    refine ⟨trivial, ?_⟩
    have bl1 := bkL_rows b
    have bl2 := bkL_rows bb
    have v2 : view hd (.ref q.2) = .lst (bkL bb) := by rw [v_ref, h2]
    simp [inBody, atI, ixN]
    rw [oadd_lst hx v2]
    refine ⟨by omega, ?_⟩
    rw [d_nl, ← app_L]
    have key := in_loop (n := n) (E := E) sa secs (.lst (bkL (b.app bb))) (b.app bb) (some (.tup [.str q.1, .ref q.2])) h3 rfl (by rw [app_rows]; omega) k
    have e : secV (rf sa) = List.map ((fun p : Tx × D => D.tup [D.str p.fst, p.snd]) ∘ fun p : Tx × Addr => (p.fst, D.ref p.snd)) sa := by simp [secV, rf]
    rw [e] at key
    exact key
abbrev pl4Body : ISs := match f45.body with
  | .cons _ (.cons _ (.cons _ (.cons _ (.cons (.for_ _ _ b) _)))) => b
  | _ => .nil
/-- the part is called by what comes behind it -/
def Cal (heads : List Tx) (secs : List (Tx × Bk)) (body : Bk) (j : Nat) : Prop := ∀ w, heads[j]? = some w → w ∈ bkC body ∨ w ∈ latC (secs.drop (j + 1))
theorem SecR.drop {hd : Hd} : ∀ {sa : List (Tx × Addr)} {secs : List (Tx × Bk)} (n : Nat), SecR hd sa secs → SecR hd (sa.drop n) (secs.drop n)
  | _, _, 0, h => h
  | [], [], n + 1, _ => trivial
  | [], _ :: _, n + 1, h => h.elim
  | _ :: _, [], n + 1, h => h.elim
  | p :: sa, q :: secs, n + 1, h => h.2.2.drop n
theorem secN_drop : ∀ (l : List (Tx × Bk)) (n : Nat), secN (l.drop n) ≤ secN l
  | l, 0 => Nat.le_refl _
  | [], n + 1 => Nat.le_refl _
  | (w, b) :: l, n + 1 => by have := secN_drop l n; rw [secN_cons]; show secN (l.drop n) ≤ _; omega
theorem Ph.body {hd0 hd : Hd} {p t r bA : Addr} {sa : List (Tx × Addr)} {secs : List (Tx × Bk)} {R : Nat} {b : Int} {o : DO} (ph : Ph hd0 hd p t r sa secs R b) (b1 : bA ≠ p) (b2 : bA ≠ t) (b3 : bA ≠ r) (b4 : ∀ q ∈ sa, q.2 ≠ bA) (b5 : hd0 bA = none) : Ph hd0 (put hd bA o) p t r sa secs R b :=
  ⟨ph.pb.put b1, (put_ne (Ne.symm b2)).trans ph.t_, (put_ne (Ne.symm b3)).trans ph.r_, ph.sr.keep fun q hq => put_ne (b4 q hq), ph.an, ph.nd, fun x x0 xp => by
    have : x ≠ bA := fun e => x0 (e ▸ b5)
    rw [put_ne this]; exact ph.fr x x0 xp⟩
theorem Ph.take {hd0 hd hd' : Hd} {p t r : Addr} {sa : List (Tx × Addr)} {secs : List (Tx × Bk)} {R : Nat} {b b' : Int} (dp : Dp hd0 p t r) (ph : Ph hd0 hd p t r sa secs R b) (h : PB hd' p b') (fr : Fr hd hd' p) : Ph hd0 hd' p t r sa secs R b' :=
  ⟨h, (fr t dp.tp).trans ph.t_, (fr r dp.rp).trans ph.r_, ph.sr.keep fun q hq => fr _ (ph.an q hq).1, ph.an, ph.nd, fun x x0 xp => (fr x xp).trans (ph.fr x x0 xp)⟩
theorem pl4 {n d : Nat} {c : Cfg} {E : DEn} {p t r bA : Addr} {hd0 : Hd} {many most : D} {heads : List Tx} {sa : List (Tx × Addr)} {secs : List (Tx × Bk)} {R : Nat} (dp : Dp hd0 p t r) (hh : heads.length ≤ 20) (hw : wordsS secs = heads) (hdp : ∀ q ∈ secs, q.2.dep d) (b1 : bA ≠ p) (b2 : bA ≠ t) (b3 : bA ≠ r) (b4 : ∀ q ∈ sa, q.2 ≠ bA) (b5 : hd0 bA = none) :
    ∀ (m i : Nat) (body : Bk) (hd : Hd) (b : Int) (y6 y8 y9 y13 y14 y15 : Option D), i + m = heads.length → Ph hd0 hd p t r sa secs R b → hd bA = some (.lst (bkL body)) → body.ok c heads → body.dep d → body ≠ .nil → (∀ j, j < i → Cal heads secs body j) → body.rows + m + secN secs ≤ 1000 → b + m ≤ 9000000 →
      (∀ body' hd' b' y6' y8' y9' y13' y14' y15', Ph hd0 hd' p t r sa secs R b' → hd' bA = some (.lst (bkL body')) → body'.ok c heads → body'.dep d → body' ≠ .nil → (∀ j, j < heads.length → Cal heads secs body' j) → body'.rows ≤ body.rows + m → b' ≤ b + m → E.nx (plSt p c many (.int d) most heads t r y6' (some (.ref bA)) y8' y9' y13' y14' y15') hd') →
      loop (.nm 6) none E (wpSs (M.tb K) M.pg (gam (M.tb K) M.pg (n + d + 2)) pl4Body) (rngD i m) (plSt p c many (.int d) most heads t r y6 (some (.ref bA)) y8 y9 y13 y14 y15) hd
  | 0, i, body, hd, b, y6, y8, y9, y13, y14, y15, hi, ph, hb, ok, dpb, ne, cal, hr, hbb, k => ⟨trivial, k body hd b y6 y8 y9 y13 y14 y15 ph hb ok dpb ne (fun j hj => cal j (by omega)) (by omega) (by omega)⟩
  | m + 1, i, body, hd, b, y6, y8, y9, y13, y14, y15, hi, ph, hb, ok, dpb, ne, cal, hr, hbb, k => by
    rw [rngD_succ]
    refine ⟨trivial, ?_⟩
    have e1 : ((i : Int) + 1) = ((i + 1 : Nat) : Int) := by omega
    have hil : i < heads.length := by omega
    have hhe : (heads.map D.str)[i]? = some (.str heads[i]) := by rw [List.getElem?_map, List.getElem?_eq_getElem hil]; rfl
    have es : pl4Body = .cons (.asg false (.nm 14) (.var 7)) (.cons (.for_ (.nm 15) (.val (.op (.sl true false) (.cons false (.var 11) (.cons false (.op .add (.cons false (.var 6) (.cons false (.lit (.int 1)) .nil))) .nil)))) inBody) (.cons (.ife (.op .notin (.cons false (.op .idx (.cons false (.var 10) (.cons false (.var 6) .nil))) (.cons false (.call 30 (.cons false (.var 14) .nil)) .nil))) (.cons (.expr (.meth .lst .insert (.var 7) (.cons false (.call 25 (.cons true (.var 0) (.cons false (.op .add (.cons false (.op .len (.cons false (.var 7) .nil)) (.cons false (.lit (.int 1)) .nil))) .nil))) (.cons false (.op .tup (.cons false (.lit (.str [100, 111])) (.cons false (.op .idx (.cons false (.var 10) (.cons false (.var 6) .nil))) .nil))) .nil)))) .nil) .nil) .nil)) := rfl
    rw [b_nm, es]
    have vt : view hd (.ref t) = .lst (secV (rf sa)) := by rw [v_ref, ph.t_]
    have vb : view hd (.ref bA) = .lst (bkL body) := by rw [v_ref, hb]
    have ecut : DL.cutD (secV (rf sa)) (some ((i + 1 : Nat) : Int)) none = secV (rf (sa.drop (i + 1))) := by rw [cutD_from]; simp [secV, rf, List.map_drop]
    simp [-s_for, -s_ife]
    rw [s_for]
    simp [-s_ife]
    have eo : ∀ Q : EV → Hd → Prop, oSl true false hd [.ref t, .int ((i : Int) + 1)] Q = Q (.nl (secV (rf (sa.drop (i + 1))))) hd := fun Q => by
      rw [e1]
      show oCut hd (.ref t) (some ((i + 1 : Nat) : Int)) none Q = _
      unfold oCut
      simp only [vt, ecut]
    rw [eo]
    simp only [d_nl]
    refine sec_walk ?_
    have sd := secN_drop secs (i + 1)
    have cr := cat_rows (secs.drop (i + 1)) body
    refine in_loop (n := n + d + 2) (sa.drop (i + 1)) (secs.drop (i + 1)) (.ref bA) body y15 (ph.sr.drop (i + 1)) vb (by omega) fun x' y' hx' => ?_
    have cd := cat_dep (secs.drop (i + 1)) body (fun q hq => hdp q (List.mem_of_mem_drop hq)) dpb
    simp [-s_ife]
    rw [s_ife]
    simp
    rw [at_get hhe]
    simp
    refine called_ok n d _ hd x' _ hx' cd (by omega) ?_
    rw [d_nl, in_strs (d := .lst ((bkC (catB (secs.drop (i + 1)) body)).map .str)) rfl]
    rw [cat_C]
    by_cases hin : heads[i] ∈ bkC body ++ latC (secs.drop (i + 1))
    · have : (bkC body ++ latC (secs.drop (i + 1))).contains heads[i] = true := by simpa using hin
      rw [this]
      simp only [Bool.true_xor, Bool.not_true]
      rw [e1]
      refine pl4 dp hh hw hdp b1 b2 b3 b4 b5 m (i + 1) body hd b _ _ _ _ _ _ (by omega) ph hb ok dpb ne (fun j hj => ?_) (by omega) (by omega) fun body' hd' b' z6 z8 z9 z13 z14 z15 q1 q2 q3 q4 q5 q6 q7 q8 => k body' hd' b' z6 z8 z9 z13 z14 z15 q1 q2 q3 q4 q5 q6 (by omega) (by omega)
      by_cases cj : j < i
      · exact cal j cj
      · have : j = i := by omega
        subst this
        intro w hw2
        rw [List.getElem?_eq_getElem hil] at hw2
        cases hw2
        exact List.mem_append.mp hin
    · have : (bkC body ++ latC (secs.drop (i + 1))).contains heads[i] = false := by simpa using hin
      rw [this]
      simp only [Bool.true_xor, Bool.not_false]
      have bl := bkL_rows body
      refine ⟨tg_lst vb, ?_⟩
      have el : ∀ Q : EV → Hd → Prop, oLen hd [.ref bA] Q = Q (.v (.int (bkL body).length)) hd := fun Q => by unfold oLen; simp only [vb]
      rw [el]
      simp
      refine take_ok ph.pb (by omega) (by omega) (by omega) fun v hd1 h1 fr1 v0 v1 => ?_
      simp
      have hb1 : hd1 bA = some (.lst (bkL body)) := (fr1 bA b1).trans hb
      have eins : ∀ Q : EV → Hd → Prop, oInsert hd1 [.ref bA, .int v, .tup [.str [100, 111], .str heads[i]]] Q = ((bkL body).length < 16777216 ∧ 0 ≤ v ∧ v < 2 ^ 63 ∧ Q (.v .non) (put hd1 bA (.lst (bkL (body.ins v.toNat (.doo heads[i])))))) := fun Q => by
        unfold oInsert
        simp only [hb1, ins_L, itD]
      rw [eins]
      refine ⟨by omega, v0, by omega, ?_⟩
      rw [e1]
      have ph1 := ph.take dp h1 fr1
      have hit : (It.doo heads[i]).ok c heads := by unfold It.ok; exact List.getElem_mem hil
      refine pl4 dp hh hw hdp b1 b2 b3 b4 b5 m (i + 1) (body.ins v.toNat (.doo heads[i])) _ (b + 1) _ _ _ _ _ _ (by omega) (ph1.body b1 b2 b3 b4 b5) put_same (ins_ok hit ok) (ins_dep (by unfold It.dep; trivial) dpb) ins_ne (fun j hj => ?_) (by rw [ins_rows]; unfold It.rows; omega) (by omega) fun body' hd' b' z6 z8 z9 z13 z14 z15 q1 q2 q3 q4 q5 q6 q7 q8 => k body' hd' b' z6 z8 z9 z13 z14 z15 q1 q2 q3 q4 q5 q6 (by rw [ins_rows] at q7; unfold It.rows at q7; omega) (by omega)
      by_cases cj : j < i
      · intro w hw2
        rcases cal j cj w hw2 with z | z
        · exact .inl (ins_C (.inl z))
        · exact .inr z
      · have : j = i := by omega
        subst this
        intro w hw2
        rw [List.getElem?_eq_getElem hil] at hw2
        cases hw2
        exact .inl (ins_C (.inr (by simp [itC])))
end
end LK15
set_option Elab.async false
set_option linter.all false
set_option maxRecDepth 100000
set_option maxHeartbeats 400000
namespace LK15
open PySem PySem.Spec PyProof.Rows L2 DL
section
variable {K : PySem.W.Frag}
abbrev svBody : ISs := .cons (.ife (.op .eq (.cons false (.call 25 (.cons true (.var 0) (.cons false (.lit (.int 2)) .nil))) (.cons false (.lit (.int 0)) .nil))) (.cons (.expr (.meth .lst .append (.var 8) (.cons false (.var 9) .nil))) .nil) .nil) .nil
/-- the same, and the rows of the body and the names kept stand at places of their own -/
structure Ph2 (hd0 hd : Hd) (p t r bA : Addr) (sa : List (Tx × Addr)) (secs : List (Tx × Bk)) (R : Nat) (b : Int) (body : Bk) : Prop where
  ph : Ph hd0 hd p t r sa secs R b
  bd : hd bA = some (.lst (bkL body))
theorem sv_loop {n : Nat} {E : DEn} {p t r bA s5 : Addr} {hd0 : Hd} {c : Cfg} {many deep most : D} {heads : List Tx} {sa : List (Tx × Addr)} {secs : List (Tx × Bk)} {R : Nat} {body : Bk} {y6 y13 y14 y15 : Option D} (dp : Dp hd0 p t r) (b1 : bA ≠ p) (s1 : s5 ≠ p) (s2 : s5 ≠ t) (s3 : s5 ≠ r) (s4 : ∀ q ∈ sa, q.2 ≠ s5) (s6 : s5 ≠ bA) (s0 : hd0 s5 = none) :
    ∀ (rest don sv : List Tx) (hd : Hd) (b : Int) (y9 : Option D), sv.Sublist don → Ph2 hd0 hd p t r bA sa secs R b body → hd s5 = some (.lst (sv.map .str)) → sv.length + rest.length ≤ 2000 → b + rest.length ≤ 9500000 →
      (∀ (sv' : List Tx) (hd' : Hd) (b' : Int) (y9' : Option D), sv'.Sublist (don ++ rest) → Ph2 hd0 hd' p t r bA sa secs R b' body → hd' s5 = some (.lst (sv'.map .str)) → b' ≤ b + rest.length → E.nx (plSt p c many deep most heads t r y6 (some (.ref bA)) (some (.ref s5)) y9' y13 y14 y15) hd') →
      loop (.nm 9) none E (wpSs (M.tb K) M.pg (gam (M.tb K) M.pg (n + 1)) svBody) (rest.map .str) (plSt p c many deep most heads t r y6 (some (.ref bA)) (some (.ref s5)) y9 y13 y14 y15) hd
  | [], don, sv, hd, b, y9, sl, ph, hs, hl, hb, k => ⟨trivial, k sv hd b y9 (by simpa using sl) ph hs (by simp)⟩
  | w :: rest, don, sv, hd, b, y9, sl, ph, hs, hl, hb, k => by
    rw [List.length_cons] at hl hb
    refine ⟨trivial, ?_⟩
    simp [svBody]
    refine take_ok ph.ph.pb (by omega) (by omega) (by omega) fun v hd1 h1 fr1 v0 v1 => ?_
    simp [oeq_int]
    have p1 : Ph2 hd0 hd1 p t r bA sa secs R (b + 1) body := ⟨ph.ph.take dp h1 fr1, (fr1 bA b1).trans ph.bd⟩
    have hs1 : hd1 s5 = some (.lst (sv.map .str)) := (fr1 s5 s1).trans hs
    have ed : don ++ w :: rest = (don ++ [w]) ++ rest := by simp
    cases e : v == 0 with
    | true =>
      refine ⟨tg_lst (by rw [v_ref, hs1]), ?_⟩
      rw [app_put hs1]
      have e2 : sv.map D.str ++ [.str w] = (sv ++ [w]).map .str := by simp
      rw [e2]
      refine ⟨by simp; omega, ?_⟩
      refine sv_loop dp b1 s1 s2 s3 s4 s6 s0 rest (don ++ [w]) (sv ++ [w]) _ (b + 1) _ (sl.append (List.Sublist.refl _)) ⟨p1.ph.body s1 s2 s3 s4 s0, (put_ne (Ne.symm s6)).trans p1.bd⟩ put_same (by rw [List.length_append, List.length_singleton]; omega) (by omega) fun sv' hd' b' y9' q1 q2 q3 q4 => k sv' hd' b' y9' (by rw [ed]; exact q1) q2 q3 (by rw [List.length_cons]; omega)
    | false =>
      refine sv_loop dp b1 s1 s2 s3 s4 s6 s0 rest (don ++ [w]) sv _ (b + 1) _ (List.Sublist.trans sl (List.sublist_append_left _ _)) p1 hs1 (by omega) (by omega) fun sv' hd' b' y9' q1 q2 q3 q4 => k sv' hd' b' y9' (by rw [ed]; exact q1) q2 q3 (by rw [List.length_cons]; omega)
/-- what a drawn plan is like -/
structure PlR (c : Cfg) (d : Nat) (heads sv : List Tx) (secs : List (Tx × Bk)) (body : Bk) (top : Nat) : Prop where
  hw : wordsS secs = heads
  so : SecOk c d [] secs
  bo : body.ok c heads
  bd : body.dep d
  bn : body ≠ .nil
  cal : ∀ j, j < heads.length → Cal heads secs body j
  s0 : sv ≠ []
  sf : sv.Sublist c.ls
  len : secN secs + body.rows ≤ top
theorem sec_deps {c : Cfg} {d : Nat} : ∀ {l : List (Tx × Bk)} {ah : List Tx}, SecOk c d ah l → ∀ q ∈ l, q.2.dep d
  | [], _, _, q, hq => by cases hq
  | (w, b) :: l, ah, h, q, hq => by
    unfold SecOk at h
    rcases List.mem_cons.mp hq with rfl | hq
    · exact h.2.2.1
    · exact sec_deps h.2.2.2 q hq
theorem plan_ok {n d m most : Nat} {c : Cfg} {hd : Hd} {p : Addr} {b : Int} {Q : EV → Hd → Prop} (hp : PB hd p b) (hb : b ≤ 1000000) (hl : 1 ≤ c.ls.length) (hl2 : c.ls.length ≤ 100) (hc : 1 ≤ c.cs.length) (hc2 : c.cs.length ≤ 1000) (hn : ∀ p ∈ c.cs, p.2 ≤ 3) (hnd : c.ls.Nodup) (hm : m ≤ 20) (hmost : most ≤ 400) (hd20 : d ≤ 20) (htk : tkB d ≤ 100000)
    (k : ∀ (heads sv : List Tx) (sa : List (Tx × Addr)) (secs : List (Tx × Bk)) (body : Bk) (hd' : Hd) (b' : Int), (∀ w ∈ heads, isW w = true) → heads.Nodup → heads.length = m → PlR c d heads sv secs body (most + 3 * m + 1) → SecR hd' sa secs → (sa.map (·.2)).Nodup → (∀ q ∈ sa, q.2 ≠ p ∧ hd q.2 = none) → PB hd' p b' → b' ≤ 9600000 → (∀ x, hd x ≠ none → x ≠ p → hd' x = hd x) → Q (.nl [.lst (c.ls.map .str), .lst (sv.map .str), .lst (secV (rf sa)), .lst (bkL body)]) hd') :
    gam (M.tb K) M.pg (n + d + 4) 45 [.ref p, .lst (c.ls.map .str), .lst (csD c.cs), .int m, .int d, .int most] hd Q := by
  refine gam_at p45 rfl ?_
  have eb : f45.body = .cons (.par [10, 11, 12] (.cons false (.call 27 (.cons true (.var 0) (.cons false (.var 3) (.cons false (.op .lst .nil) .nil)))) (.cons true (.op .lst .nil) (.cons true (.op .lst (.cons false (.var 5) .nil)) .nil))))
    (.cons (.for_ (.nm 6) (.rng1 (.var 3)) pl1Body)
    (.cons (.asg true (.nm 7) (.call 29 (.cons true (.var 0) (.cons false (.var 1) (.cons false (.var 2) (.cons false (.var 10) (.cons false (.var 4) (.cons true (.var 12) .nil))))))))
    (.cons (.ife (.op .eq (.cons false (.var 7) (.cons false (.op .lst .nil) .nil))) (.cons (.expr (.meth .lst .append (.var 7) (.cons false (.call 28 (.cons true (.var 0) (.cons false (.var 1) (.cons false (.var 2) .nil)))) .nil))) .nil) .nil)
    (.cons (.for_ (.nm 6) (.rng1 (.var 3)) pl4Body)
    (.cons (.asg true (.nm 8) (.op .lst .nil))
    (.cons (.for_ (.nm 9) (.val (.var 1)) svBody)
    (.cons (.ret false (.op .lst (.cons false (.var 1) (.cons false (.ife (.op .ne (.cons false (.var 8) (.cons false (.op .lst .nil) .nil))) (.rel (.var 8)) (.op .lst (.cons false (.op .idx (.cons false (.var 1) (.cons false (.call 25 (.cons true (.var 0) (.cons false (.op .len (.cons false (.var 1) .nil)) .nil))) .nil))) .nil))) (.cons false (.rel (.var 11)) (.cons false (.rel (.var 7)) .nil)))))) .nil))))))) := rfl
  rw [eb]
  simp only [s_cons, s_par, es_f, e_call, es_t, e_var, es_nil, e_op, dop_lst, o_lst]
  simp [-s_for, -s_ife]
  refine words_ok (n := n + d) hp (by omega) (by omega) (by omega) fun heads hd1 h1 fr1 hw1 hnd1 hlen1 => ?_
  have hlen : heads.length = m := by omega
  simp [-s_for, -s_ife]
  intro t ht r hr
  have tr : t ≠ r := fun e => by rw [e, put_same] at hr; cases hr
  have hr' : hd1 r = none := by rw [put_ne (Ne.symm tr)] at hr; exact hr
  have tp : t ≠ p := fun e => h1.nn (e ▸ ht)
  have rp : r ≠ p := fun e => h1.nn (e ▸ hr')
  have t0 : hd t = none := (fr1 t tp).symm.trans ht
  have r0 : hd r = none := (fr1 r rp).symm.trans hr'
  have dp : Dp hd p t r := ⟨tp, rp, tr, t0, r0, hp.nn⟩
  have ph0 : Ph hd (put (put hd1 t (.lst [])) r (.lst [.int most])) p t r [] [] most (b + 20 * m) := by
    refine ⟨(h1.put tp).put rp, (put_ne tr).trans put_same, put_same, trivial, fun q hq => (by cases hq), by simp, fun x x0 xp => ?_⟩
    have c1 : x ≠ t := fun e => x0 (e ▸ t0)
    have c2 : x ≠ r := fun e => x0 (e ▸ r0)
    rw [put_ne c2, put_ne c1]; exact fr1 x xp
  rw [s_for]
  simp [-s_for, -s_ife]
  refine ⟨by omega, ?_⟩
  refine pl1 (n := n) (d := d) (c := c) dp hl (by omega) hc hc2 hn hnd1 (by omega) htk m 0 [] [] most _ (b + 20 * m) none none none none none none none (by omega) rfl trivial ph0 (by omega) (by omega) fun sa secs R hd2 b2 y6 y7 y8 y9 y13 y14 y15 q1 q2 q3 q4 q5 q6 => ?_
  simp only [secN, Nat.zero_add] at q5
  simp [-s_for, -s_ife]
  refine block_ok hl (by omega) hc hc2 hn n d heads hd2 p r b2 R _ (Ne.symm rp) q3.pb (by omega) q3.r_ (by omega) q4 fun bk hd3 R3 h3 fr3 r3 ok3 dp3 rw3 => ?_
  simp [-s_for, -s_ife]
  intro bA hbA
  have t3 : hd3 t = some (.lst (secV (rf sa))) := (fr3 t tp tr).trans q3.t_
  have bt : bA ≠ t := fun e => by rw [e, t3] at hbA; cases hbA
  have br : bA ≠ r := fun e => by rw [e, r3] at hbA; cases hbA
  have bp : bA ≠ p := fun e => h3.nn (e ▸ hbA)
  have bs : ∀ q ∈ sa, q.2 ≠ bA := fun q hq e => by
    have z := q3.an q hq
    have h2 : hd3 q.2 = hd2 q.2 := fr3 _ z.1 z.2.2.1
    rw [e, hbA] at h2
    exact q3.sr.some q hq (by rw [e]; exact h2.symm)
  have b0 : hd bA = none := by
    cases e : hd bA with
    | none => rfl
    | some o =>
      have h2 : hd3 bA = hd2 bA := fr3 _ bp br
      have h4 := q3.fr bA (by rw [e]; simp) bp
      rw [h4, hbA, e] at h2
      cases h2
  have ph3 : Ph hd hd3 p t r sa secs R3 (b2 + tkB d) :=
    ⟨h3, t3, r3, q3.sr.keep fun q hq => fr3 _ (q3.an q hq).1 (q3.an q hq).2.2.1, q3.an, q3.nd, fun x x0 xp => (fr3 x xp (fun e => x0 (e ▸ r0))).trans (q3.fr x x0 xp)⟩
  have vb : view (put hd3 bA (.lst (bkL bk))) (.ref bA) = .lst (bkL bk) := by rw [v_ref, put_same]
  have hdeps := sec_deps q2
  have rest : ∀ (body : Bk) (hd4 : Hd) (b4 : Int), Ph hd hd4 p t r sa secs R3 b4 → hd4 bA = some (.lst (bkL body)) → body.ok c heads → body.dep d → body ≠ .nil → body.rows ≤ bk.rows + 1 → b4 ≤ 5000000 →
      wpSs (M.tb K) M.pg (gam (M.tb K) M.pg (n + d + 3)) (.cons (.for_ (.nm 6) (.rng1 (.var 3)) pl4Body)
        (.cons (.asg true (.nm 8) (.op .lst .nil))
        (.cons (.for_ (.nm 9) (.val (.var 1)) svBody)
        (.cons (.ret false (.op .lst (.cons false (.var 1) (.cons false (.ife (.op .ne (.cons false (.var 8) (.cons false (.op .lst .nil) .nil))) (.rel (.var 8)) (.op .lst (.cons false (.op .idx (.cons false (.var 1) (.cons false (.call 25 (.cons true (.var 0) (.cons false (.op .len (.cons false (.var 1) .nil)) .nil))) .nil))) .nil))) (.cons false (.rel (.var 11)) (.cons false (.rel (.var 7)) .nil)))))) .nil))))
        { nx := fun _ hd' => ∃ h2, DL.Sub h2 hd' ∧ Q (.v .non) h2, rt := fun ev hd' => ∃ h2, DL.Sub h2 hd' ∧ Q ev h2, bk := fun _ _ => False, ct := fun _ _ => False } (plSt p c (.int m) (.int d) (.int most) heads t r y6 (some (.ref bA)) y8 y9 y13 y14 y15) hd4 := fun body hd4 b4 ph4 hb4 ok4 dp4 ne4 rw4 hb44 => by
    have ef : n + d + 3 = n + 1 + d + 2 := by omega
    rw [ef]
    simp [-s_for]
    rw [s_for]
    simp [-s_for]
    refine ⟨by omega, ?_⟩
    have hsl : secs.length = m := by rw [← hlen, ← q1]; simp [wordsS]
    refine pl4 (n := n + 1) (d := d) dp (by omega) q1 hdeps bp bt br bs b0 m 0 body hd4 b4 _ _ _ _ _ _ (by omega) ph4 hb4 ok4 dp4 ne4 (fun j hj => by omega) (by omega) (by omega) fun body5 hd5 b5 z6 z8 z9 z13 z14 z15 p1 p2 p3 p4 p5 p6 p7 p8 => ?_
    simp [-s_for]
    intro s5 hs5
    have st : s5 ≠ t := fun e => by rw [e, p1.t_] at hs5; cases hs5
    have sr5 : s5 ≠ r := fun e => by rw [e, p1.r_] at hs5; cases hs5
    have sp : s5 ≠ p := fun e => p1.pb.nn (e ▸ hs5)
    have sb : s5 ≠ bA := fun e => by rw [e, p2] at hs5; cases hs5
    have ssa : ∀ q ∈ sa, q.2 ≠ s5 := fun q hq e => p1.sr.some q hq (by rw [e]; exact hs5)
    have s0 : hd s5 = none := by
      cases e : hd s5 with
      | none => rfl
      | some o =>
        have := p1.fr s5 (by rw [e]; simp) sp
        rw [hs5, e] at this; cases this
    rw [s_for]
    simp [-s_for, walkD]
    refine sv_loop (n := n + 1 + d + 1) dp bp sp st sr5 ssa sb s0 c.ls [] [] _ b5 _ (List.Sublist.refl _) ⟨p1.body sp st sr5 ssa s0, (put_ne (Ne.symm sb)).trans p2⟩ put_same (by simp; omega) (by omega) fun sv hd6 b6 y9' r1 r2 r3 r4 => ?_
    rw [List.nil_append] at r1
    have v8 : view hd6 (.ref s5) = .lst (sv.map .str) := by rw [v_ref, r3]
    have nE : ∀ hd Q, view hd (.ref s5) = .lst (sv.map .str) → oEq true hd [.ref s5, .lst []] Q = Q (.v (.bl (!sv.isEmpty))) hd := fun hd Q v => by
      unfold oEq
      have h1 : shD 60 (.lst (sv.map D.str)) = true := all_sh (n := 59)
      have h2 : shD 60 (.lst []) = true := rfl
      have h3 : deq (.lst (sv.map D.str)) (.lst []) = sv.isEmpty := by cases sv <;> rfl
      simp [v, h1, h2, h3]
    -- the end, once the names kept are there
    have fin : ∀ (sv' : List Tx) (hd7 : Hd) (b7 : Int), sv' ≠ [] → sv'.Sublist c.ls → hd7 t = some (.lst (secV (rf sa))) → hd7 bA = some (.lst (bkL body5)) → SecR hd7 sa secs → PB hd7 p b7 → b7 ≤ 9600000 → (∀ x, hd x ≠ none → x ≠ p → hd7 x = hd x) →
        rel true (.v (.ref t)) hd7 fun ev hd8 => rel true (.v (.ref bA)) hd8 fun ev2 hd9 => ∃ h2, DL.Sub h2 hd9 ∧ Q (.nl [.lst (c.ls.map .str), .lst (sv'.map .str), ev.d, ev2.d]) h2 := fun sv' hd7 b7 g1 g2 g3 g4 g5 g6 g7 g8 => by
      rw [rel_lst g3]
      have g4' : del hd7 t bA = some (.lst (bkL body5)) := (del_nq bt).trans g4
      rw [rel_lst g4']
      refine ⟨_, Sub.refl _, ?_⟩
      refine k heads sv' sa secs body5 _ b7 hw1 hnd1 hlen ⟨q1, q2, p3, p4, p5, p6, g1, g2, by omega⟩ (g5.keep fun q hq => ?_) q3.nd (fun q hq => ⟨(q3.an q hq).1, (q3.an q hq).2.2.2⟩) ?_ g7 fun x x0 xp => ?_
      · rw [del_nq (bs q hq), del_nq (q3.an q hq).2.1]
      · obtain ⟨s, f, cc, z0, z⟩ := g6
        exact ⟨s, f, cc, (del_nq (Ne.symm bp)).trans ((del_nq (Ne.symm tp)).trans z0), z⟩
      · have c1 : x ≠ bA := fun e => x0 (e ▸ b0)
        have c2 : x ≠ t := fun e => x0 (e ▸ t0)
        rw [del_nq c1, del_nq c2]; exact g8 x x0 xp
    simp
    rw [nE _ _ v8]
    cases esv : sv.isEmpty with
    | true =>
      simp
      refine take_ok r2.ph.pb (by omega) (by omega) (by omega) fun v hd7 h7 fr7 v0 v1 => ?_
      obtain ⟨w, hwm, hwe⟩ := at_strs (ws := c.ls) v0 v1
      simp [hwe]
      have := fin [w] hd7 _ (by simp) (List.singleton_sublist.mpr hwm) ((fr7 t tp).trans r2.ph.t_) ((fr7 bA bp).trans r2.bd) (r2.ph.sr.keep fun q hq => fr7 _ (q3.an q hq).1) h7 (by omega) (fun x x0 xp => (fr7 x xp).trans (r2.ph.fr x x0 xp))
      simpa using this
    | false =>
      simp
      rw [rel_lst r3]
      have nsv : sv ≠ [] := fun e => by rw [e] at esv; cases esv
      have := fin sv (del hd6 s5) b6 nsv r1 ((del_nq (Ne.symm st)).trans r2.ph.t_) ((del_nq (Ne.symm sb)).trans r2.bd) (r2.ph.sr.keep fun q hq => del_nq (ssa q hq)) (by
        obtain ⟨s, f, cc, z0, z⟩ := r2.ph.pb
        exact ⟨s, f, cc, (del_nq (Ne.symm sp)).trans z0, z⟩) (by omega) (fun x x0 xp => by
          have c1 : x ≠ s5 := fun e => x0 (e ▸ s0)
          rw [del_nq c1]; exact r2.ph.fr x x0 xp)
      simpa using this
  have c1 : bA ≠ t := bt
  rw [s_ife]
  simp only [t_op, es_f, e_var, e_op, es_nil, dop_lst, o_lst, dop_eq]
  simp [-s_for]
  rw [eq_nil_bk vb dp3 hd20]
  cases bk with
  | nil =>
    have e0 : (bkL Bk.nil).isEmpty = true := rfl
    rw [e0]
    simp only [Bool.false_xor]
    refine ⟨tg_lst vb, ?_⟩
    refine asg_ok (n := n + d + 1) (h3.put bp) (by omega) hl (by omega) hc hc2 hn fun it hd4 h4 fr4 ia io => ?_
    have hb4 : hd4 bA = some (.lst (bkL Bk.nil)) := (fr4 bA bp).trans put_same
    rw [d_v, app_put hb4]
    refine ⟨by simp [bkL], ?_⟩
    have eL : bkL Bk.nil ++ [itD it] = bkL (.cons it .nil) := by rw [bkL, bkL, bkL]; rfl
    rw [eL]
    have ir : it.rows = 1 := by cases it <;> first | rfl | cases ia
    have idp : it.dep d := by cases it <;> first | (unfold It.dep; trivial) | cases ia
    have hh := rest (.cons it .nil) (put hd4 bA (.lst (bkL (.cons it .nil)))) (b2 + tkB d + 10) (((ph3.body bp bt br bs b0).take dp h4 fr4).body bp bt br bs b0) put_same (by unfold Bk.ok; exact ⟨io heads, by unfold Bk.ok; trivial⟩) (by unfold Bk.dep; exact ⟨idp, by unfold Bk.dep; trivial⟩) (by simp) (by simp [Bk.rows, ir]) (by omega)
    rw [s_cons] at hh
    exact hh
  | cons i x =>
    have e0 : (bkL (Bk.cons i x)).isEmpty = false := by rw [bkL]; rfl
    rw [e0]
    have hh := rest (.cons i x) (put hd3 bA (.lst (bkL (.cons i x)))) (b2 + tkB d) (ph3.body bp bt br bs b0) put_same ok3 dp3 (by simp) (by omega) (by omega)
    rw [s_cons] at hh
    exact hh
end
end LK15
set_option Elab.async false
set_option linter.all false
set_option maxRecDepth 100000
set_option maxHeartbeats 400000
namespace LK15
open PySem PySem.Spec PyProof.Rows L2 DL
theorem secok_mono {c : Cfg} {d e : Nat} (h : d ≤ e) : ∀ {l : List (Tx × Bk)} {ah : List Tx}, SecOk c d ah l → SecOk c e ah l
  | [], _, _ => trivial
  | (w, b) :: l, ah, q => ⟨q.1, q.2.1, dep_monoB h b q.2.2.1, secok_mono h q.2.2.2⟩
theorem lat_drop {x : Tx} : ∀ {l : List (Tx × Bk)} (n : Nat), x ∈ latC (l.drop n) → x ∈ latC l
  | l, 0, h => h
  | [], n + 1, h => h
  | p :: l, n + 1, h => by
    have := lat_drop (l := l) n h
    simp only [latC, List.flatMap_cons, List.mem_append] at this ⊢
    exact .inr this
/-- what a drawn plan gives is a program -/
theorem ptok {c : Cfg} {d top : Nat} {heads sv : List Tx} {secs : List (Tx × Bk)} {body : Bk} (hc : CfOk c) (nd : c.ls.Nodup) (l1 : 1 ≤ c.ls.length) (l2 : c.ls.length ≤ 16) (hd : d ≤ 6) (hw : ∀ w ∈ heads, isW w = true) (hnd : heads.Nodup) (hl : heads.length ≤ 4) (ht : top ≤ 78) (p : PlR c d heads sv secs body top) :
    PTok c c.cs c.ls sv secs body := by
  have good : ∀ r ∈ secR 3 secs ++ bkR (3 + secN secs) body, r.good c := fun r hr => by
    rcases List.mem_append.mp hr with hr | hr
    · exact goodS hc secs 3 [] (fun _ h => by cases h) (by rw [p.hw]; exact hw) p.so r hr
    · exact goodB hc hw body _ p.bo r hr
  refine ⟨hc.ls, nd, l1, l2, p.s0, sub_filter p.sf nd, ⟨secok_mono hd p.so, ?_, ?_, dep_monoB hd body p.bd, p.bn, by rw [p.hw]; exact hnd, by have := p.len; omega, fun w hw' => ?_⟩, fun r hr => (good r hr).1, fun r hr => ?_, hc.fn⟩
  · have : (wordsS secs).length = heads.length := by rw [p.hw]
    simp [wordsS] at this
    omega
  · rw [p.hw]; exact p.bo
  · rw [p.hw] at hw'
    obtain ⟨j, hj, e⟩ := List.mem_iff_getElem.mp hw'
    unfold allR
    rw [dos_app, dos_app, dos_sec, dos_bk]
    rcases p.cal j hj w (by rw [List.getElem?_eq_getElem hj, e]) with z | z
    · simp [z]
    · have := lat_drop _ z
      simp [this]
  · unfold allR at hr
    rcases List.mem_append.mp hr with hr | hr
    · simp only [List.mem_cons, List.not_mem_nil, or_false] at hr
      rcases hr with rfl | rfl <;> trivial
    · exact (good r hr).2
theorem smS_of {c : Cfg} {d top : Nat} {heads sv : List Tx} {secs : List (Tx × Bk)} {body : Bk} (hc : CfOk c) (hw : ∀ w ∈ heads, isW w = true) (ht : top ≤ 900) (p : PlR c d heads sv secs body top) : SmS d secs body := by
  refine ⟨?_, p.bd, smlB hc hw body p.bo, by have := p.len; omega⟩
  have : ∀ (l : List (Tx × Bk)) (ah : List Tx), (∀ w ∈ ah, isW w = true) → (∀ w ∈ wordsS l, isW w = true) → SecOk c d ah l → ∀ p ∈ l, p.2.dep d ∧ p.2.sml ∧ p.1.length ≤ 9 := by
    intro l
    induction l with
    | nil => intro ah _ _ _ p hp; cases hp
    | cons q l ih =>
      intro ah h1 h2 so p hp
      obtain ⟨w, b⟩ := q
      have hwq : isW w = true := h2 w (by simp [wordsS])
      obtain ⟨o1, o2, o3, o4⟩ := so
      rcases List.mem_cons.mp hp with rfl | hp
      · exact ⟨o3, smlB hc h1 b o2, w_len hwq⟩
      · refine ih (ah ++ [w]) (fun x hx => ?_) (fun x hx => h2 x (by simp [wordsS] at hx ⊢; exact .inr hx)) o4 p hp
        rcases List.mem_append.mp hx with hx | hx
        · exact h1 x hx
        · rw [List.mem_singleton.mp hx]; exact hwq
  exact this secs [] (fun _ h => by cases h) (by rw [p.hw]; exact hw) p.so
theorem PTok.sum {cf : Cfg} {cs : List (Tx × Nat)} {ls sv : List Tx} {secs : List (Tx × Bk)} {body : Bk} (h : PTok cf cs ls sv secs body) : ((allT ls sv secs body).map List.length).sum + (allT ls sv secs body).length * 1 ≤ 16777216 := by
  obtain ⟨h1, h2⟩ := h.lines
  have h4 : ((allT ls sv secs body).map List.length).sum ≤ 200 * (allT ls sv secs body).length := by
    have : ∀ L : List Tx, (∀ l ∈ L, l.length ≤ 200) → (L.map List.length).sum ≤ 200 * L.length := by
      intro L
      induction L with
      | nil => simp
      | cons a as ih =>
        intro hL
        have := ih (fun x hx => hL x (by simp [hx]))
        have := hL a (by simp)
        simp; omega
    exact this _ fun l hl => (h1 l hl).2
  have h5 := allR_len (secs := secs) (body := body)
  have h6 := h.rows.len
  omega
end LK15
set_option Elab.async false
set_option linter.all false
set_option maxRecDepth 100000
set_option maxHeartbeats 400000
namespace LK15
open PySem PySem.Spec PyProof.Rows L2 DL
theorem turns_any {one : D → Hd → (Option D → Hd → Prop) → Prop} {d : D} {U : List D → Hd → Prop} (h : ∀ x hd (K : Option D → Hd → Prop), (∀ hd', K (some d) hd') → one x hd K) : ∀ (its acc : List D) (hd : Hd), (∀ hd', U (acc ++ List.replicate its.length d) hd') → turns one none its acc hd U
  | [], acc, hd, k => ⟨trivial, by simpa using k hd⟩
  | x :: r, acc, hd, k => by
    refine ⟨trivial, h x hd _ fun hd' => ?_⟩
    refine turns_any h r (acc ++ [d]) hd' fun hd2 => ?_
    have := k hd2
    rw [List.length_cons, List.replicate_succ] at this
    simpa using this
section
variable {K : PySem.W.Frag}
theorem p24 : M.pg.fn 24 = some f24 := by kernel_rfl
theorem o_lenR {hd : Hd} {x : List D} {Q : EV → Hd → Prop} : oLen hd [.rol x] Q = Q (.v (.int x.length)) hd := propext Iff.rfl
abbrev puBody : ISs := .cons (.asg false (.nm 2) (.op .mod (.cons false (.op .int (.cons false (.op .add (.cons false (.op .mul (.cons false (.var 2) (.cons false (.lit (.int 52511)) .nil))) (.cons false (.op .mul (.cons false (.var 4) (.cons false (.op .add (.cons false (.var 1) (.cons false (.lit (.int 3)) .nil))) .nil))) .nil))) .nil)) (.cons false (.lit (.int 2147483563)) .nil)))) .nil
abbrev puRest : ISs := (.cons (.asg false (.nm 3) (.ife (.or (.op .lt (.cons false (.var 2) (.cons false (.lit (.int 0)) .nil))) (.op .ge (.cons false (.var 2) (.cons false (.op .pow (.cons false (.lit (.int 10)) (.cons false (.lit (.int 18)) .nil))) .nil)))) (.op .abs (.cons false (.var 2) .nil)) (.lit (.int 0))))
      (.cons (.ret false (.op .lst (.cons false (.op .mod (.cons false (.op .int (.cons false (.var 2) .nil)) (.cons false (.lit (.int 2147483543)) .nil))) (.cons false (.var 3) (.cons false (.lit (.int 0)) .nil))))) .nil))
theorem pu_loop {n k : Nat} {hd : Hd} {E : DEn} {x0 : D} {y3 : Option D} (hk : k ≤ 100) (kE : ∀ (c : Int) y4, E.nx [some x0, some (.int k), some (.int c), y3, y4] hd) : ∀ (its : List Int) (c : Int) (y4 : Option D),
    loop (.nm 4) none E (wpSs (M.tb K) M.pg (gam (M.tb K) M.pg n) puBody) (its.map .int) [some x0, some (.int k), some (.int c), y3, y4] hd
  | [], c, y4 => ⟨trivial, kE c y4⟩
  | i :: its, c, y4 => by
    refine ⟨trivial, ?_⟩
    simp [puBody]
    refine ⟨by simp [cMul], by simp [cMul]; right; omega, by simp [cMod], ?_⟩
    exact pu_loop hk kE its _ _
theorem purse_ok {n k : Nat} {ns : List Int} {hd : Hd} {Q : EV → Hd → Prop} (hk : k ≤ 100) (kk : ∀ s f : Int, 0 ≤ s → s < 2147483543 → 0 ≤ f → Q (.nl [.int s, .int f, .int 0]) hd) : gam (M.tb K) M.pg (n + 1) 24 [.rol (ns.map .int), .int k] hd Q := by
  refine gam_at p24 rfl ?_
  have eb : f24.body = .cons (.asg false (.nm 2) (.ife (.op .lt (.cons false (.var 1) (.cons false (.op .len (.cons false (.var 0) .nil)) .nil))) (.op .idx (.cons false (.var 0) (.cons false (.var 1) .nil))) (.op .add (.cons false (.op .mul (.cons false (.lit (.int 7001)) (.cons false (.var 1) .nil))) (.cons false (.lit (.int 97)) .nil)))))
      (.cons (.ife (.op .ge (.cons false (.var 1) (.cons false (.op .len (.cons false (.var 0) .nil)) .nil))) (.cons (.for_ (.nm 4) (.val (.op (.sl false true) (.cons false (.var 0) (.cons false (.lit (.int 4)) .nil)))) puBody) .nil) .nil)
      (.cons (.asg false (.nm 3) (.ife (.or (.op .lt (.cons false (.var 2) (.cons false (.lit (.int 0)) .nil))) (.op .ge (.cons false (.var 2) (.cons false (.op .pow (.cons false (.lit (.int 10)) (.cons false (.lit (.int 18)) .nil))) .nil)))) (.op .abs (.cons false (.var 2) .nil)) (.lit (.int 0))))
      (.cons (.ret false (.op .lst (.cons false (.op .mod (.cons false (.op .int (.cons false (.var 2) .nil)) (.cons false (.lit (.int 2147483543)) .nil))) (.cons false (.var 3) (.cons false (.lit (.int 0)) .nil))))) .nil))) := rfl
  rw [eb]
  -- the end, once the number is there
  have fin : ∀ (c : Int) (y4 : Option D), wpSs (M.tb K) M.pg (gam (M.tb K) M.pg n) (.cons (.asg false (.nm 3) (.ife (.or (.op .lt (.cons false (.var 2) (.cons false (.lit (.int 0)) .nil))) (.op .ge (.cons false (.var 2) (.cons false (.op .pow (.cons false (.lit (.int 10)) (.cons false (.lit (.int 18)) .nil))) .nil)))) (.op .abs (.cons false (.var 2) .nil)) (.lit (.int 0))))
      (.cons (.ret false (.op .lst (.cons false (.op .mod (.cons false (.op .int (.cons false (.var 2) .nil)) (.cons false (.lit (.int 2147483543)) .nil))) (.cons false (.var 3) (.cons false (.lit (.int 0)) .nil))))) .nil))
      { nx := fun _ hd' => ∃ h2, DL.Sub h2 hd' ∧ Q (.v .non) h2, rt := fun ev hd' => ∃ h2, DL.Sub h2 hd' ∧ Q ev h2, bk := fun _ _ => False, ct := fun _ _ => False } [some (.rol (ns.map .int)), some (.int k), some (.int c), none, y4] hd := fun c y4 => by
    have e1 := Int.emod_nonneg c (show (2147483543 : Int) ≠ 0 by decide)
    have e2 := Int.emod_lt_of_pos c (show (0 : Int) < 2147483543 by decide)
    simp
    cases h1 : decide (c < 0) with
    | true =>
      simp at h1
      simp [cMod]
      exact ⟨hd, Sub.refl _, by
        have : (if c < 0 then -c else c) = -c := if_pos h1
        rw [this]
        exact kk _ _ e1 e2 (by omega)⟩
    | false =>
      simp at h1
      simp [cPow, fPow]
      have h3 : (if c < 0 then -c else c) = c := if_neg (by omega)
      rw [h3]
      by_cases h2 : (1000000000000000000 : Int) ≤ c
      · simp [h2, cMod]
        exact ⟨hd, Sub.refl _, kk _ _ e1 e2 h1⟩
      · simp [h2, cMod]
        exact ⟨hd, Sub.refl _, kk _ _ e1 e2 (by omega)⟩
  simp [-s_for, -s_ife, o_lenR]
  by_cases hlt : k < ns.length
  · have e2 : atI (ns.map D.int) (k : Int) = some (.int ns[k]) := at_get (by rw [List.getElem?_map, List.getElem?_eq_getElem hlt]; rfl)
    have e3 : decide (ns.length ≤ k) = false := by simp; omega
    simp [-s_for, -s_ife, hlt, e2]
    rw [s_ife]
    have := fin ns[k] none
    simp [-s_for, -s_ife, o_lenR, e3] at this ⊢
    exact this
  · have e3 : decide (ns.length ≤ k) = true := by simp; omega
    simp [-s_for, -s_ife, hlt]
    refine ⟨by simp [cMul], ?_⟩
    rw [s_ife]
    simp [-s_for, -s_ife, o_lenR, e3]
    rw [s_for]
    have eo : ∀ U : EV → Hd → Prop, oSl false true hd [.rol (ns.map .int), .int 4] U = U (.nl ((ns.take 4).map .int)) hd := fun U => by
      show oCut hd (.rol (ns.map .int)) none (some ((4 : Nat) : Int)) U = _
      unfold oCut
      simp only [v_rol, cutD_to, List.map_take]
    simp [-s_for, -s_ife, eo, walkD]
    have key := pu_loop (K := K) (n := n) (k := k) (hd := hd) (x0 := .rol (ns.map .int)) (y3 := none) hk (E := { nx := wpSs (M.tb K) M.pg (gam (M.tb K) M.pg n) puRest { nx := fun _ hd' => ∃ h2, DL.Sub h2 hd' ∧ Q (.v .non) h2, rt := fun ev hd' => ∃ h2, DL.Sub h2 hd' ∧ Q ev h2, bk := fun _ _ => False, ct := fun _ _ => False }, rt := fun ev hd' => ∃ h2, DL.Sub h2 hd' ∧ Q ev h2, bk := fun _ _ => False, ct := fun _ _ => False }) (fun c y4 => fin c y4) (ns.take 4) (7001 * k + 97) none
    rw [List.map_take] at key
    exact key
end
end LK15
set_option Elab.async false
set_option linter.all false
set_option maxRecDepth 100000
set_option maxHeartbeats 400000
namespace LK15
open PySem PySem.Spec PyProof.Rows L2 DL
/-! where rows lead: no place twice, none behind the end -/
def Rw.sh (k : Nat) : Rw → Prop
  | .lp e => k < e
  | .ei m => k < m
  | .lpE h => h < k
  | _ => True
def ShI (i : It) : Prop := ∀ (a j : Nat) (r : Rw), (itR a i)[j]? = some r → r.sh (a + j)
def ShB (b : Bk) : Prop := ∀ (a j : Nat) (r : Rw), (bkR a b)[j]? = some r → r.sh (a + j)
theorem sh_lp {b : Bk} (hb : ShB b) : ShI (.lp b) := by
  intro a j r h
  rcases lp_at h with ⟨e, rfl⟩ | ⟨j', hl, e, h'⟩ | ⟨e, rfl⟩
  · show a + j < a + 1 + b.rows; omega
  · have := hb (a + 1) j' r h'
    have e2 : a + 1 + j' = a + j := by omega
    rw [e2] at this; exact this
  · show a < a + j; omega
theorem sh_ei {x y : Bk} (hx : ShB x) (hy : ShB y) : ShI (.ei x y) := by
  intro a j r h
  rcases ei_at h with ⟨e, rfl⟩ | ⟨j', hl, e, h'⟩ | ⟨e, rfl⟩ | ⟨j', hl, e, h'⟩ | ⟨e, rfl⟩
  · show a + j < a + 1 + x.rows; omega
  · have := hx (a + 1) j' r h'
    have e2 : a + 1 + j' = a + j := by omega
    rw [e2] at this; exact this
  · trivial
  · have := hy (a + 1 + x.rows + 1) j' r h'
    have e2 : a + 1 + x.rows + 1 + j' = a + j := by omega
    rw [e2] at this; exact this
  · trivial
theorem sh_cons {i : It} {b : Bk} (hi : ShI i) (hb : ShB b) : ShB (.cons i b) := by
  intro a j r h
  unfold bkR at h
  rcases app_at h with ⟨c, h'⟩ | ⟨j', e, h'⟩
  · exact hi a j r h'
  · rw [itR_len] at e
    have := hb (a + i.rows) j' r h'
    have e2 : a + i.rows + j' = a + j := by omega
    rw [e2] at this; exact this
theorem sh_one {i : It} {r0 : Rw} (h1 : ∀ a, itR a i = [r0]) (h2 : ∀ k, r0.sh k) : ShI i := by
  intro a j r h
  rw [h1] at h
  obtain ⟨_, rfl⟩ := one_at h
  exact h2 _
mutual
theorem sh_it : ∀ i : It, ShI i
  | .read l => sh_one (r0 := .asg (.read l)) (fun _ => by rw [itR]) fun _ => trivial
  | .copy l r => sh_one (r0 := .asg (.copy l r)) (fun _ => by rw [itR]) fun _ => trivial
  | .call l f as => sh_one (r0 := .asg (.call l f as)) (fun _ => by rw [itR]) fun _ => trivial
  | .doo p => sh_one (r0 := .doo p) (fun _ => by rw [itR]) fun _ => trivial
  | .lp b => sh_lp (sh_bk b)
  | .ei x y => sh_ei (sh_bk x) (sh_bk y)
theorem sh_bk : ∀ b : Bk, ShB b
  | .nil => by intro a j r h; unfold bkR at h; simp at h
  | .cons i r => sh_cons (sh_it i) (sh_bk r)
end
theorem sh_sec : ∀ (l : List (Tx × Bk)) (a j : Nat) (r : Rw), (secR a l)[j]? = some r → r.sh (a + j)
  | [], a, j, r, h => by unfold secR at h; simp at h
  | (w, b) :: l, a, j, r, h => by
    unfold secR at h
    rcases app_at h with ⟨c, h⟩ | ⟨j', e, h⟩
    · rcases app_at h with ⟨c, h⟩ | ⟨j', e, h⟩
      · rcases app_at h with ⟨c, h⟩ | ⟨j', e, h⟩
        · obtain ⟨_, rfl⟩ := one_at h; trivial
        · have := sh_bk b (a + 1) j' r h
          simp only [List.length_singleton] at e
          have e2 : a + 1 + j' = a + j := by omega
          rw [e2] at this; exact this
      · obtain ⟨_, rfl⟩ := one_at h; trivial
    · simp only [List.length_append, List.length_singleton, bkR_len] at e
      have := sh_sec l (a + b.rows + 2) j' r h
      have e2 : a + b.rows + 2 + j' = a + j := by omega
      rw [e2] at this; exact this
section
variable {cf : Cfg} {secs : List (Tx × Bk)} {body : Bk} {k : Nat} {stk : List Nat} {r : Rw}
theorem sh_row (h : rowAt secs body k = some r) (hk : 3 ≤ k) : r.sh k := by
  unfold rowAt allR at h
  rw [List.getElem?_append_right (by simp; omega)] at h
  simp only [List.length_cons, List.length_nil] at h
  rcases app_at h with ⟨c, h3⟩ | ⟨j', e, h3⟩
  · have := sh_sec secs 3 _ r h3
    have e : 3 + (k - 1 - (0 + 1 + 1)) = k := by omega
    rw [e] at this; exact this
  · rw [secR_len] at e
    have := sh_bk body _ _ r h3
    have e2 : 3 + secN secs + j' = k := by omega
    rw [e2] at this; exact this
theorem nxt_nd (h : rowAt secs body k = some r) (hk : 3 ≤ k) : ((nxt secs k stk r).map (·.1)).Nodup := by
  have s := sh_row h hk
  cases r <;> simp [nxt, gos, Rw.sh] at s ⊢ <;> omega
theorem tgts_nd {q : Nat × List Nat} (hk : 3 ≤ q.1) : (tgts secs body q).Nodup := by
  unfold tgts
  cases h : rowAt secs body q.1 with
  | none => exact List.nodup_nil
  | some r =>
    show (if q.1 = lastP secs body then [] else (nxt secs q.1 q.2 r).map (·.1)).Nodup
    by_cases c : q.1 = lastP secs body
    · rw [if_pos c]; exact List.nodup_nil
    · rw [if_neg c]; exact nxt_nd h hk
theorem inv_le (I : Inv secs body k stk) : k ≤ lastP secs body := by
  rcases I.pl with e | ⟨r, h, _⟩
  · omega
  · have := row_lt h I.ge; omega
theorem tgts_mem (ok : RowsOk cf secs body) (hne : ∀ w ∈ wordsS secs, w ≠ []) {q : Nat × List Nat} (I : Inv secs body q.1 q.2) {t : Nat} (h : t ∈ tgts secs body q) : ∃ r q', rowAt secs body q.1 = some r ∧ q' ∈ nxt secs q.1 q.2 r ∧ q'.1 = t ∧ q.1 ≠ lastP secs body := by
  unfold tgts at h
  cases hr : rowAt secs body q.1 with
  | none => rw [hr] at h; cases h
  | some r =>
    rw [hr] at h
    have h : t ∈ (if q.1 = lastP secs body then [] else (nxt secs q.1 q.2 r).map (·.1)) := h
    by_cases c : q.1 = lastP secs body
    · rw [if_pos c] at h; cases h
    · rw [if_neg c] at h
      obtain ⟨q', h1, h2⟩ := List.mem_map.mp h
      exact ⟨r, q', rfl, h1, h2, c⟩
theorem tgts_le (ok : RowsOk cf secs body) (hne : ∀ w ∈ wordsS secs, w ≠ []) {q : Nat × List Nat} (I : Inv secs body q.1 q.2) {t : Nat} (h : t ∈ tgts secs body q) : t ≤ lastP secs body ∧ 3 ≤ t := by
  obtain ⟨r, q', h1, h2, rfl, h4⟩ := tgts_mem ok hne I h
  rcases I.pl with e | ⟨r', e1, e2⟩
  · exact absurd e h4
  · rw [h1] at e1; cases e1
    have I' := inv_step ok I h1 e2 hne q' h2
    exact ⟨inv_le I', I'.ge⟩
end
theorem rngD_add : ∀ (m k : Nat) (lo : Int), rngD lo (m + k) = rngD lo m ++ rngD (lo + m) k
  | 0, k, lo => by simp [rngD]
  | m + 1, k, lo => by
    have e : m + 1 + k = m + k + 1 := by omega
    have e2 : lo + 1 + (m : Int) = lo + ((m + 1 : Nat) : Int) := by omega
    rw [e, rngD_succ, rngD_succ, rngD_add m k (lo + 1), List.cons_append, e2]
/-- what is sorted is told by its members -/
theorem sorted_is {ns : List Int} {T : List Nat} {B : Nat} (hp : ns.Perm (T.map fun (t : Nat) => (t : Int))) (hs : ns.Pairwise (· ≤ ·)) (nd : T.Nodup) (hb : ∀ t ∈ T, t < B) : ns = ((List.range B).filter fun t => T.contains t).map fun (t : Nat) => (t : Int) := by
  have p2 : (((List.range B).filter fun t => T.contains t).map fun (t : Nat) => (t : Int)).Perm (T.map fun (t : Nat) => (t : Int)) := by
    refine List.Perm.map _ ?_
    refine (List.perm_ext_iff_of_nodup (List.Pairwise.filter _ List.nodup_range) nd).mpr fun t => ?_
    simp only [List.mem_filter, List.mem_range, List.contains_iff_mem]
    exact ⟨fun h => h.2, fun h => ⟨hb t h, h⟩⟩
  refine List.Perm.eq_of_pairwise (le := fun a b : Int => a ≤ b) (fun a b _ _ h1 h2 => by omega) hs ?_ (hp.trans p2.symm)
  rw [List.pairwise_map]
  refine List.Pairwise.imp (R := fun a b : Nat => a < b) (fun {a b} h => by omega) ?_
  exact List.Pairwise.filter _ List.pairwise_lt_range
end LK15
set_option Elab.async false
set_option linter.all false
set_option maxRecDepth 100000
set_option maxHeartbeats 400000
namespace LK15
open PySem PySem.Spec PyProof.Rows L2 DL
/-! what is no walk; is_walk; steps in order -/
section
variable {K : PySem.W.Frag}
variable {cf : Cfg} {cs : List (Tx × Nat)} {ls sv : List Tx} {secs : List (Tx × Bk)} {body : Bk}
theorem p44 : M.pg.fn 44 = some f44 := by kernel_rfl
/-- where a walk can go on, with the callers there -/
def nxts (secs : List (Tx × Bk)) (body : Bk) (q : Nat × List Nat) : List (Nat × List Nat) := match rowAt secs body q.1 with
  | some r => if q.1 = lastP secs body then [] else nxt secs q.1 q.2 r
  | none => []
theorem nxts_map {q : Nat × List Nat} : (nxts secs body q).map (·.1) = tgts secs body q := by
  unfold nxts tgts
  cases rowAt secs body q.1 with
  | none => rfl
  | some r =>
    show (if q.1 = lastP secs body then [] else nxt secs q.1 q.2 r).map (·.1) = if q.1 = lastP secs body then [] else (nxt secs q.1 q.2 r).map (·.1)
    split <;> rfl
theorem nxts_len {q : Nat × List Nat} : (nxts secs body q).length ≤ 2 := by
  unfold nxts
  cases h : rowAt secs body q.1 with
  | none => simp
  | some r =>
    show (if q.1 = lastP secs body then [] else nxt secs q.1 q.2 r).length ≤ 2
    split
    · simp
    · cases r <;> simp [nxt, gos]
theorem inv_stk (ok : RowsOk cf secs body) (hne : ∀ w ∈ wordsS secs, w ≠ []) {k : Nat} {stk : List Nat} (I : Inv secs body k stk) : stk.length ≤ secs.length := by
  have := ch_len ok hne I.ch
  have e : rk secs [] = secs.length := by unfold rk; rw [if_pos rfl]
  rw [e] at this; omega
/-- after, wherever a walk is -/
theorem aft_ok {n : Nat} {q : Nat × List Nat} {hd : Hd} {Q : EV → Hd → Prop} (ok : PTok cf cs ls sv secs body) (I : Inv secs body q.1 q.2) (hne : ∀ w ∈ wordsS secs, w ≠ []) (kk : Q (.nl ((nxts secs body q).map prD)) hd) :
    gam (M.tb K) M.pg (n + 2) 16 [planO ls sv secs body, .int q.1, .tup (nsD q.2)] hd Q := by
  have hs := ok.rows.sl
  have hsl := inv_stk ok.rows hne I
  by_cases hlast : q.1 = lastP secs body
  · have e5 : (q.1 : Int) = (lastP secs body : Nat) := by omega
    rw [e5]
    refine after_last (n := n) ok ?_
    have : nxts secs body q = [] := by unfold nxts; cases rowAt secs body q.1 <;> simp [hlast]
    rw [this] at kk; exact kk
  · rcases I.pl with e | ⟨r, h1, h2⟩
    · exact absurd e hlast
    · refine after_ok (n := n) ok I.ge h1 h2 (inv_part I h1 hne) (by omega) ?_
      have : nxts secs body q = nxt secs q.1 q.2 r := by unfold nxts; rw [h1]; simp only [if_neg hlast]
      rw [this] at kk; exact kk
theorem nxts_of (ok : RowsOk cf secs body) {q q' : Nat × List Nat} {r : Rw} (hr : rowAt secs body q.1 = some r) (hk : 3 ≤ q.1) (h : q' ∈ nxt secs q.1 q.2 r) : q' ∈ nxts secs body q := by
  unfold nxts
  rw [hr]
  have := row_lt hr hk
  simp only [if_neg (show ¬ q.1 = lastP secs body by omega)]
  exact h
theorem nxts_snd {q p p' : Nat × List Nat} (h : p ∈ nxts secs body q) (h' : p' ∈ nxts secs body q) : p.2 = p'.2 := by
  unfold nxts at h h'
  cases hr : rowAt secs body q.1 with
  | none => rw [hr] at h; cases h
  | some r =>
    rw [hr] at h h'
    have h : p ∈ (if q.1 = lastP secs body then [] else nxt secs q.1 q.2 r) := h
    have h' : p' ∈ (if q.1 = lastP secs body then [] else nxt secs q.1 q.2 r) := h'
    by_cases c : q.1 = lastP secs body
    · rw [if_pos c] at h; cases h
    · rw [if_neg c] at h h'; exact nxt_snd h h'
/-- one turn: the step to t is found, or none is -/
theorem ca_turn {n i : Nat} {q : Nat × List Nat} {t : Nat} {ts : List Nat} {hd : Hd} {E : DEn} {L : List D} {y1 y2 y3 y0 : Option D} (ok : PTok cf cs ls sv secs body) (I : Inv secs body q.1 q.2) (hne : ∀ w ∈ wordsS secs, w ≠ []) (hi : 1 ≤ i) (g1 : ts[i - 1]? = some q.1) (g2 : ts[i]? = some t)
    (k1 : ∀ q', q' ∈ nxts secs body q → q'.1 = t → ∀ y1, loop (.nm 3) none E (wpSs (M.tb K) M.pg (gam (M.tb K) M.pg (n + 2)) caBody) L [some (planO ls sv secs body), some (.tup (nsD ts)), some (.tup (nsD q'.2)), some (.int i), y1, y2, y3] hd)
    (k2 : t ∉ tgts secs body q → E.rt (.v .non) hd) :
    loop (.nm 3) none E (wpSs (M.tb K) M.pg (gam (M.tb K) M.pg (n + 2)) caBody) (.int i :: L) [some (planO ls sv secs body), some (.tup (nsD ts)), some (.tup (nsD q.2)), y0, y1, y2, y3] hd := by
  refine ⟨trivial, ?_⟩
  have e5 : ((i : Int) - 1) = ((i - 1 : Nat) : Int) := by omega
  have g1' : atI (nsD ts) ((i - 1 : Nat) : Int) = some (.int q.1) := nsD_get g1
  have g2' : atI (nsD ts) (i : Int) = some (.int t) := nsD_get g2
  have me19 : M.pg.me 0 19 = some 16 := rfl
  simp [-s_ife, caBody, f20, vpl, me19]
  refine ⟨rfl, ?_⟩
  simp [-s_ife, cAll]
  rw [e5, g1']
  simp [-s_ife]
  refine aft_ok (n := n) ok I hne ?_
  simp [-s_ife, walkD]
  have hnl := nxts_len (secs := secs) (body := body) (q := q)
  refine ⟨by omega, ?_⟩
  refine turns_fm (gd := none) (hd := hd) prD (fun p => if p.1 = t then some (prD p) else none) trivial (nxts secs body q) [] (fun p hp K hK => ?_) ?_
  · rw [pr0]
    simp only [d_v, ix_litT, g2', oeq_int]
    by_cases c : p.1 = t
    · have e : ((p.1 : Int) == (t : Int)) = true := by simp [c]
      rw [e]; rw [if_pos c] at hK
      exact hK
    · have e : ((p.1 : Int) == (t : Int)) = false := by simp; omega
      rw [e]; rw [if_neg c] at hK
      exact hK
  · rw [filt_fm, List.nil_append]
    generalize hL : ((nxts secs body q).filter fun p => decide (p.1 = t)) = L'
    simp [prD_nil]
    cases L' with
    | nil =>
      refine k2 fun h => ?_
      rw [← nxts_map] at h
      obtain ⟨p, h1, h2⟩ := List.mem_map.mp h
      have : p ∈ (nxts secs body q).filter fun p => decide (p.1 = t) := List.mem_filter.mpr ⟨h1, by simpa using h2⟩
      rw [hL] at this; cases this
    | cons f L' =>
      have hf : f ∈ (nxts secs body q).filter fun p => decide (p.1 = t) := by rw [hL]; simp
      obtain ⟨hf1, hf2⟩ := List.mem_filter.mp hf
      simp [atI, ixN]
      rw [pr1]
      exact k1 f hf1 (by simpa using hf2) _
/-- along a walk, and then on -/
theorem ca_along {n : Nat} {W : List (Nat × List Nat)} {ts : List Nat} {hd : Hd} {E : DEn} {L : List D} (ok : PTok cf cs ls sv secs body) (w : Wlk secs body W) (hne : ∀ w ∈ wordsS secs, w ≠ []) (hts : ∀ (i : Nat) (q : Nat × List Nat), W[i]? = some q → ts[i]? = some q.1)
    (kE : ∀ q y0 y1 y2 y3, W[W.length - 1]? = some q → loop (.nm 3) none E (wpSs (M.tb K) M.pg (gam (M.tb K) M.pg (n + 2)) caBody) L [some (planO ls sv secs body), some (.tup (nsD ts)), some (.tup (nsD q.2)), y0, y1, y2, y3] hd) :
    ∀ (m i : Nat) (q : Nat × List Nat) (y0 y1 y2 y3 : Option D), 1 ≤ i → i + m = W.length → W[i - 1]? = some q →
      loop (.nm 3) none E (wpSs (M.tb K) M.pg (gam (M.tb K) M.pg (n + 2)) caBody) (rngD i m ++ L) [some (planO ls sv secs body), some (.tup (nsD ts)), some (.tup (nsD q.2)), y0, y1, y2, y3] hd
  | 0, i, q, y0, y1, y2, y3, hi, hm, hq => kE q y0 y1 y2 y3 (by have : W.length - 1 = i - 1 := by omega
                                                                rw [this]; exact hq)
  | m + 1, i, q, y0, y1, y2, y3, hi, hm, hq => by
    rw [rngD_succ, List.cons_append]
    have hil : i < W.length := by omega
    have hq' : W[i]? = some W[i] := List.getElem?_eq_getElem hil
    generalize W[i] = q' at hq'
    have ei : i - 1 + 1 = i := by omega
    obtain ⟨q0, r, s1, s2, s3⟩ := w.stp (i - 1) q' (by rw [ei]; exact hq')
    rw [hq] at s1
    cases s1
    have I := w.inv ok.rows hne (i - 1) q hq
    have hin := nxts_of ok.rows s2 I.ge s3
    refine ca_turn (n := n) ok I hne hi (hts _ _ hq) (hts _ _ hq') (fun p hp ht y1 => ?_) (fun h => (h (by rw [← nxts_map]; exact List.mem_map.mpr ⟨q', hin, rfl⟩)).elim)
    rw [nxts_snd hp hin]
    have e1 : ((i : Int) + 1) = ((i + 1 : Nat) : Int) := by omega
    rw [e1]
    exact ca_along ok w hne hts kE m (i + 1) q' (some (.int i)) y1 y2 y3 (by omega) (by omega) (by simpa using hq')
abbrev caA : ISs := .cons (.ife (.or (.not (.val (.op (.isin .tup) (.cons false (.var 1) .nil)))) (.or (.op .eq (.cons false (.var 1) (.cons false (.op .tup .nil) .nil))) (.not (.val (.op .all (.cons false (.comp (.call 0 (.cons false (.var 6) .nil)) (.nm 6) (.val (.var 1)) [6]) .nil)))))) (.cons (.ret false (.lit .non)) .nil) .nil)
      (.cons (.ife (.op .ne (.cons false (.op .idx (.cons false (.var 1) (.cons false (.lit (.int 0)) .nil))) (.cons false (.op (.attr 7) (.cons false (.var 0) .nil)) .nil))) (.cons (.ret false (.lit .non)) .nil) .nil)
      (.cons (.asg false (.nm 2) (.op .tup .nil)) (.cons (.for_ (.nm 3) (.rng2 (.lit (.int 1)) (.op .len (.cons false (.var 1) .nil))) caBody) (.cons (.ret false (.var 2)) .nil))))
abbrev caE (Q : EV → Hd → Prop) (x : ISs → DEn → Slt → Hd → Prop) : DEn := { nx := x (.cons (.ret false (.var 2)) .nil) { nx := fun _ hd' => ∃ h2, DL.Sub h2 hd' ∧ Q (.v .non) h2, rt := fun ev hd' => ∃ h2, DL.Sub h2 hd' ∧ Q ev h2, bk := fun _ _ => False, ct := fun _ _ => False }, rt := fun ev hd' => ∃ h2, DL.Sub h2 hd' ∧ Q ev h2, bk := fun _ _ => False, ct := fun _ _ => False }
/-- the head of callers_along: a tuple of whole numbers, one at least -/
theorem cal_head {n : Nat} {ts : List Nat} {hd : Hd} {Q : EV → Hd → Prop} (ok : PTok cf cs ls sv secs body) (h1 : ts ≠ []) (hl : ts.length ≤ 10000)
    (k0 : ts[0]? ≠ some (3 + secN secs) → Q (.v .non) hd)
    (k1 : ts[0]? = some (3 + secN secs) → loop (.nm 3) none (caE Q (wpSs (M.tb K) M.pg (gam (M.tb K) M.pg (n + 2)))) (wpSs (M.tb K) M.pg (gam (M.tb K) M.pg (n + 2)) caBody) (rngD (1 : Nat) (ts.length - 1)) [some (planO ls sv secs body), some (.tup (nsD ts)), some (.tup (nsD [])), none, none, none, none] hd) :
    gam (M.tb K) M.pg (n + 3) 20 [planO ls sv secs body, .tup (nsD ts)] hd Q := by
  refine gam_at p20 rfl ?_
  have eb : f20.body = caA := rfl
  rw [eb]
  simp [-s_ife]
  rw [s_ife]
  simp
  rw [isin_at (t := .tup) (b := true) rfl rfl]
  obtain ⟨t0, tr, et⟩ : ∃ t0 tr, ts = t0 :: tr := by
    cases ts with
    | nil => exact absurd rfl h1
    | cons a r => exact ⟨a, r, rfl⟩
  have e1 : ts.isEmpty = false := by rw [et]; rfl
  simp [tup_nil, e1, walkD]
  refine ⟨by simp [nsD]; omega, ?_⟩
  have e2 : ∀ L : List Nat, ((nsD L).map fun _ => D.bl true) = List.replicate L.length (.bl true) := by
    intro L
    induction L with
    | nil => rfl
    | cons a L ih => unfold nsD at ih ⊢; simp [List.replicate_succ] at ih ⊢; exact ih
  refine turns_map (gd := none) (hd := hd) (fun x => .bl true) trivial (fun x hx K hK => ?_) ?_
  · obtain ⟨m, hm, rfl⟩ := List.mem_map.mp hx
    exact int_ok hK
  · rw [e2]
    refine asBls_true ?_
    simp [-s_ife]
    have g0 : atI (nsD ts) ((0 : Nat) : Int) = some (.int (t0 : Nat)) := nsD_get (by rw [et]; rfl)
    have g0' : atI (nsD ts) 0 = some (.int (t0 : Nat)) := g0
    rw [g0']
    simp only []
    rw [o_attr vpl na7 (d := .int (3 + secN secs : Nat)) rfl]
    have e4 : (nsD ts).length = ts.length := by simp [nsD]
    have e5 : ts[0]? = some t0 := by rw [et]; rfl
    by_cases c : t0 = 3 + secN secs
    · subst c
      simp [-s_ife, oeq_int, rng2D]
      rw [e4]
      refine ⟨by omega, ?_⟩
      have := k1 e5
      exact this
    · have e6 : ((t0 : Int) == (3 + secN secs : Nat)) = false := by simp; omega
      have e7 : ((t0 : Int) == 3 + (secN secs : Nat)) = false := by simp; omega
      simp [-s_ife, oeq_int, e6, e7]
      exact ⟨hd, Sub.refl _, k0 (by rw [e5]; intro z; exact c (by simpa using z))⟩
theorem caln_ok {n : Nat} {W : List (Nat × List Nat)} {q : Nat × List Nat} {t : Nat} {hd : Hd} {Q : EV → Hd → Prop} (ok : PTok cf cs ls sv secs body) (w : Wlk secs body W) (hne : ∀ w ∈ wordsS secs, w ≠ []) (hW : W.length ≤ 1000) (hq : W[W.length - 1]? = some q) (ht : t ∉ tgts secs body q)
    (kk : Q (.v .non) hd) : gam (M.tb K) M.pg (n + 3) 20 [planO ls sv secs body, .tup (nsD (W.map (·.1) ++ [t]))] hd Q := by
  have hW1 : 1 ≤ W.length := by
    cases W with
    | nil => have := w.fst; cases this
    | cons => simp
  have hts : ∀ (i : Nat) (q : Nat × List Nat), W[i]? = some q → (W.map (·.1) ++ [t])[i]? = some q.1 := fun i q h => by
    have hi := (List.getElem?_eq_some_iff.mp h).1
    rw [List.getElem?_append_left (by simpa using hi), List.getElem?_map, h]; rfl
  refine cal_head (n := n) ok (by simp) (by simp; omega) (fun h => (h (hts 0 _ w.fst)).elim) fun _ => ?_
  have e1 : (W.map (·.1) ++ [t]).length - 1 = (W.length - 1) + 1 := by simp; omega
  rw [e1, rngD_add]
  refine ca_along (n := n) ok w hne hts (fun q' y0 y1 y2 y3 hq' => ?_) (W.length - 1) 1 (3 + secN secs, []) none none none none (Nat.le_refl _) (by omega) w.fst
  rw [hq] at hq'; cases hq'
  have I := w.inv ok.rows hne _ q hq
  have e2 : rngD (((1 : Nat) : Int) + ((W.length - 1 : Nat) : Int)) 1 = [.int (W.length : Nat)] := by
    have : ((1 : Nat) : Int) + ((W.length - 1 : Nat) : Int) = (W.length : Nat) := by omega
    rw [this]; simp [rngD]
  rw [e2]
  refine ca_turn (n := n) (i := W.length) (t := t) ok I hne (by omega) (hts _ _ hq) (by rw [List.getElem?_append_right (by simp)]; simp) (fun q' h1 h2 y1 => ?_) fun _ => ⟨hd, Sub.refl _, kk⟩
  exact absurd (by rw [← nxts_map]; exact List.mem_map.mpr ⟨q', h1, h2⟩) ht
theorem calf_ok {n : Nat} {ts : List Nat} {hd : Hd} {Q : EV → Hd → Prop} (ok : PTok cf cs ls sv secs body) (h1 : ts ≠ []) (hl : ts.length ≤ 10000) (h0 : ts[0]? ≠ some (3 + secN secs)) (kk : Q (.v .non) hd) : gam (M.tb K) M.pg (n + 3) 20 [planO ls sv secs body, .tup (nsD ts)] hd Q :=
  cal_head (n := n) ok h1 hl (fun _ => kk) fun h => absurd h h0
theorem isw_at {n : Nat} {ts : List Nat} {d : D} {hd : Hd} {Q : EV → Hd → Prop} (h : ∀ Q : EV → Hd → Prop, Q (.v d) hd → gam (M.tb K) M.pg (n + 3) 20 [planO ls sv secs body, .tup (nsD ts)] hd Q) (kk : Q (.v (.bl (!(DL.isNon d)))) hd) :
    gam (M.tb K) M.pg (n + 4) 44 [prg ls sv secs body, .tup (nsD ts)] hd Q := by
  refine gam_at p44 rfl ?_
  unfold f44
  simp
  refine ckp_ok ?_
  rw [o_attr vpr na18 (d := planO ls sv secs body) rfl]
  refine h _ ?_
  simp
  exact ⟨hd, Sub.refl _, kk⟩
theorem isw_yes {n : Nat} {W : List (Nat × List Nat)} {hd : Hd} {Q : EV → Hd → Prop} (ok : PTok cf cs ls sv secs body) (w : Wlk secs body W) (hne : ∀ w ∈ wordsS secs, w ≠ []) (hW : W.length ≤ 1000) (kk : Q (.v (.bl true)) hd) :
    gam (M.tb K) M.pg (n + 4) 44 [prg ls sv secs body, .tup (nsD (W.map (·.1)))] hd Q := by
  have hW1 : 1 ≤ W.length := by
    cases W with
    | nil => have := w.fst; cases this
    | cons => simp
  have hq : W[W.length - 1]? = some W[W.length - 1] := List.getElem?_eq_getElem (by omega)
  exact isw_at (d := .tup (nsD W[W.length - 1].2)) (fun Q h => cal_ok ok w hne (by have := ok.rows.sl; omega) hW hq h) kk
/-- a place more: a walk just if it leads there -/
theorem isw_more {n : Nat} {W : List (Nat × List Nat)} {q : Nat × List Nat} {t : Nat} {hd : Hd} {Q : EV → Hd → Prop} (ok : PTok cf cs ls sv secs body) (w : Wlk secs body W) (hne : ∀ w ∈ wordsS secs, w ≠ []) (hW : W.length ≤ 900) (hq : W[W.length - 1]? = some q) (kk : Q (.v (.bl ((tgts secs body q).contains t))) hd) :
    gam (M.tb K) M.pg (n + 4) 44 [prg ls sv secs body, .tup (nsD (W.map (·.1) ++ [t]))] hd Q := by
  by_cases c : t ∈ tgts secs body q
  · have I := w.inv ok.rows hne _ q hq
    obtain ⟨r, q', h1, h2, h3, h4⟩ := tgts_mem ok.rows hne I c
    have w' := w.snoc hq h1 h2
    have e : W.map (·.1) ++ [t] = (W ++ [q']).map (·.1) := by simp [h3]
    rw [e]
    refine isw_yes ok w' hne (by simp; omega) ?_
    have : (tgts secs body q).contains t = true := by simpa using c
    rw [this] at kk; exact kk
  · refine isw_at (d := .non) (fun Q h => caln_ok ok w hne (by omega) hq c h) ?_
    have : (tgts secs body q).contains t = false := by simpa using c
    rw [this] at kk; exact kk
theorem isw_not {n : Nat} {ts : List Nat} {hd : Hd} {Q : EV → Hd → Prop} (ok : PTok cf cs ls sv secs body) (h1 : ts ≠ []) (hl : ts.length ≤ 10000) (h0 : ts[0]? ≠ some (3 + secN secs)) (kk : Q (.v (.bl false)) hd) : gam (M.tb K) M.pg (n + 4) 44 [prg ls sv secs body, .tup (nsD ts)] hd Q :=
  isw_at (d := .non) (fun Q h => calf_ok ok h1 hl h0 h) kk
end
end LK15
set_option Elab.async false
set_option linter.all false
set_option maxRecDepth 20000
set_option maxHeartbeats 400000
namespace LK15
open PySem PySem.Spec PyProof.Rows L2 DL
/-! repr: its signs, its length -/
def tx (s : PySem.Str) : Tx := s.cps.toList
theorem tx_app (a b : PySem.Str) : tx (a ++ b) = tx a ++ tx b := by
  show (a.cps ++ b.cps).toList = _
  simp [tx]
theorem okT_app {a b : Tx} (h1 : okT a) (h2 : okT b) : okT (a ++ b) := fun c h => by
  rcases List.mem_append.mp h with h | h
  · exact h1 c h
  · exact h2 c h
def sumL (ts : List PySem.Str) : Nat := (ts.map fun t => (tx t).length + 2).sum
theorem textFrom_ok : ∀ (ts : List PySem.Str) (k : Nat) (acc : PySem.Str), okT (tx acc) → (∀ t ∈ ts, okT (tx t)) → okT (tx (textFrom k acc ts)) ∧ (tx (textFrom k acc ts)).length ≤ (tx acc).length + sumL ts
  | [], k, acc, h1, h2 => ⟨h1, by show (tx acc).length ≤ _; omega⟩
  | t :: ts, k, acc, h1, h2 => by
    have hs : ∀ k : Nat, okT (tx ((if k > 0 then ", " else "" : String) : PySem.Str)) ∧ (tx ((if k > 0 then ", " else "" : String) : PySem.Str)).length ≤ 2 := fun k => by
      by_cases c : k > 0
      · rw [if_pos c]; exact ⟨by unfold okT; decide +kernel, by decide +kernel⟩
      · rw [if_neg c]; exact ⟨by unfold okT; decide +kernel, by decide +kernel⟩
    have e : tx (acc ++ (if k > 0 then ", " else "" : String) ++ t) = tx acc ++ tx ((if k > 0 then ", " else "" : String) : PySem.Str) ++ tx t := by rw [tx_app, tx_app]
    have ih := textFrom_ok ts (k + 1) (acc ++ (if k > 0 then ", " else "" : String) ++ t) (by rw [e]; exact okT_app (okT_app h1 (hs k).1) (h2 t (by simp))) (fun x hx => h2 x (by simp [hx]))
    refine ⟨ih.1, ?_⟩
    have i2 := ih.2
    rw [e] at i2
    simp only [List.length_append] at i2
    have := (hs k).2
    have e3 : sumL (t :: ts) = (tx t).length + 2 + sumL ts := by simp [sumL]
    show (tx (textFrom (k + 1) (acc ++ (if k > 0 then ", " else "" : String) ++ t) ts)).length ≤ _
    omega
theorem join_ok : ∀ (ts : List PySem.Str), (∀ t ∈ ts, okT (tx t)) → okT (tx (PySem.Str.join ", " ts)) ∧ (tx (PySem.Str.join ", " ts)).length ≤ sumL ts
  | [], _ => ⟨by show okT (tx PySem.Str.empty); unfold okT; decide +kernel, Nat.zero_le _⟩
  | [x], h => ⟨h x (by simp), by show (tx x).length ≤ _; simp [sumL]⟩
  | x :: y :: r, h => by
    have ih := join_ok (y :: r) (fun t ht => h t (by simp at ht ⊢; exact .inr ht))
    have e : tx (PySem.Str.join ", " (x :: y :: r)) = tx x ++ tx ((", " : String) : PySem.Str) ++ tx (PySem.Str.join ", " (y :: r)) := by
      show tx (x ++ ", " ++ PySem.Str.join ", " (y :: r)) = _
      rw [tx_app, tx_app]
    have hc : okT (tx ((", " : String) : PySem.Str)) ∧ (tx ((", " : String) : PySem.Str)).length = 2 := ⟨by unfold okT; decide +kernel, by decide +kernel⟩
    rw [e]
    refine ⟨okT_app (okT_app (h x (by simp)) hc.1) ih.1, ?_⟩
    have i2 := ih.2
    have e3 : sumL (x :: y :: r) = (tx x).length + 2 + sumL (y :: r) := by simp [sumL]
    simp only [List.length_append]
    have := hc.2
    omega
mutual
/-- plain data that repr shows -/
def rp : D → Prop
  | .non => True
  | .bl _ => True
  | .int i => i.natAbs < 200
  | .tup xs => rpL xs
  | .lst xs => rpL xs
  | _ => False
def rpL : List D → Prop
  | [] => True
  | x :: xs => rp x ∧ rpL xs
end
mutual
def rb : D → Nat
  | .tup xs => rbL xs + 3
  | .lst xs => rbL xs + 2
  | _ => 10
def rbL : List D → Nat
  | [] => 0
  | x :: xs => rb x + 2 + rbL xs
end
theorem int_len : ∀ j, j < 200 → (intT (j : Nat)).length ≤ 10 ∧ (intT (-(j : Nat))).length ≤ 10 := by decide +kernel
theorem int_sh {i : Int} (h : i.natAbs < 200) : okT (tx (PyData.int i).shown) ∧ (tx (PyData.int i).shown).length ≤ 10 ∧ (PyData.int i).showable = true := by
  have e : (PyData.int i).shown = st (intT i) := by
    rw [← intT_st i]
    simp only [PyData.shown]
  have e2 : tx (PyData.int i).shown = intT i := by rw [e]; rfl
  rw [e2]
  refine ⟨intT_ok i, ?_, ?_⟩
  · have := int_len i.natAbs h
    by_cases c : 0 ≤ i
    · have e3 : ((i.natAbs : Nat) : Int) = i := by omega
      rw [e3] at this; exact this.1
    · have e3 : -((i.natAbs : Nat) : Int) = i := by omega
      rw [e3] at this; exact this.2
  · simp only [PyData.showable, decide_eq_true_eq]
    by_cases c : i.natAbs = 0
    · rw [c]; decide
    · rw [Nat.log2_lt c]
      exact Nat.lt_of_lt_of_le h (Nat.le_trans (m := 2 ^ 10) (by decide) (Nat.pow_le_pow_right (by decide) (by decide)))
mutual
theorem rp_ok : ∀ d : D, rp d → okT (tx (dPy d).shown) ∧ (tx (dPy d).shown).length ≤ rb d ∧ (dPy d).showable = true
  | .non, _ => ⟨by unfold okT; decide +kernel, by decide +kernel, by decide +kernel⟩
  | .bl true, _ => ⟨by unfold okT; decide +kernel, by decide +kernel, by decide +kernel⟩
  | .bl false, _ => ⟨by unfold okT; decide +kernel, by decide +kernel, by decide +kernel⟩
  | .int i, h => by
    unfold rp at h
    have := int_sh h
    unfold dPy rb
    exact this
  | .tup xs, h => by
    unfold rp at h
    obtain ⟨h1, h2, h3⟩ := rpL_ok xs h
    have j := join_ok _ h1
    unfold dPy rb
    simp only [PyData.shown, PyData.showable]
    unfold tupleText
    have hc : ∀ n : Nat, okT (tx ((if n == 1 then ",)" else ")" : String) : PySem.Str)) ∧ (tx ((if n == 1 then ",)" else ")" : String) : PySem.Str)).length ≤ 2 := fun n => by
      by_cases c : (n == 1) = true
      · rw [if_pos c]; exact ⟨by unfold okT; decide +kernel, by decide +kernel⟩
      · rw [if_neg c]; exact ⟨by unfold okT; decide +kernel, by decide +kernel⟩
    have hb : okT (tx (("(" : String) : PySem.Str)) ∧ (tx (("(" : String) : PySem.Str)).length = 1 := ⟨by unfold okT; decide +kernel, by decide +kernel⟩
    rw [tx_app, tx_app]
    refine ⟨okT_app (okT_app hb.1 j.1) (hc _).1, ?_, h3⟩
    simp only [List.length_append]
    have := (hc (PyData.shownAll (dPyL xs)).length).2
    have := j.2
    have := hb.2
    omega
  | .lst xs, h => by
    unfold rp at h
    obtain ⟨h1, h2, h3⟩ := rpL_ok xs h
    have hb : okT (tx (("[" : String) : PySem.Str)) ∧ (tx (("[" : String) : PySem.Str)).length = 1 := ⟨by unfold okT; decide +kernel, by decide +kernel⟩
    have hc : okT (tx (("]" : String) : PySem.Str)) ∧ (tx (("]" : String) : PySem.Str)).length = 1 := ⟨by unfold okT; decide +kernel, by decide +kernel⟩
    have j := textFrom_ok _ 0 "[" hb.1 h1
    unfold dPy rb
    simp only [PyData.shown, PyData.showable]
    unfold listText
    rw [tx_app]
    refine ⟨okT_app j.1 hc.1, ?_, h3⟩
    simp only [List.length_append]
    have := j.2
    have := hb.2
    have := hc.2
    omega
theorem rpL_ok : ∀ xs : List D, rpL xs → (∀ t ∈ PyData.shownAll (dPyL xs), okT (tx t)) ∧ sumL (PyData.shownAll (dPyL xs)) ≤ rbL xs ∧ PyData.showableAll (dPyL xs) = true
  | [], _ => ⟨fun t h => by simp [dPyL, PyData.shownAll] at h, by simp [dPyL, PyData.shownAll, sumL], by simp [dPyL, PyData.showableAll]⟩
  | x :: xs, h => by
    unfold rpL at h
    obtain ⟨a1, a2, a3⟩ := rp_ok x h.1
    obtain ⟨b1, b2, b3⟩ := rpL_ok xs h.2
    simp only [dPyL, PyData.shownAll, PyData.showableAll]
    refine ⟨fun t ht => ?_, ?_, by rw [a3, b3]; rfl⟩
    · rcases List.mem_cons.mp ht with rfl | ht
      · exact a1
      · exact b1 t ht
    · have e3 : sumL ((dPy x).shown :: PyData.shownAll (dPyL xs)) = (tx (dPy x).shown).length + 2 + sumL (PyData.shownAll (dPyL xs)) := by simp [sumL]
      rw [e3]; unfold rbL; omega
end
theorem repr_ok {x : D} {hd : Hd} {Q : EV → Hd → Prop} (h0 : view hd x = x) (h1 : isSeq x = true) (h2 : shD 60 x = true) (h3 : rp x) (h4 : rb x ≤ 16777216) (k : Q (.v (.str (reprT x))) hd) : oRepr hd [x] Q := by
  obtain ⟨a, b, c⟩ := rp_ok x h3
  unfold oRepr
  simp only [h0]
  exact ⟨h1, h2, c, Nat.le_trans b h4, a, k⟩
@[simp] theorem dop_repr {T : Tb} : dop T .reprO = oRepr := rfl
theorem rpL_ints : ∀ {ns : List Int}, (∀ n ∈ ns, n.natAbs < 200) → rpL (ns.map .int)
  | [], _ => by unfold rpL; trivial
  | n :: ns, h => by
    rw [List.map_cons]
    unfold rpL
    exact ⟨by unfold rp; exact h n (by simp), rpL_ints fun m hm => h m (by simp [hm])⟩
theorem rbL_ints : ∀ {ns : List Int}, rbL (ns.map .int) = 12 * ns.length
  | [] => rfl
  | n :: ns => by
    show rb (.int n) + 2 + rbL (ns.map .int) = _
    rw [rbL_ints]
    have : rb (.int n) = 10 := rfl
    rw [this, List.length_cons]; omega
theorem nsD_int (ns : List Nat) : nsD ns = (ns.map fun (n : Nat) => (n : Int)).map .int := by unfold nsD; rw [List.map_map]; rfl
end LK15
set_option Elab.async false
set_option linter.all false
set_option maxRecDepth 100000
set_option maxHeartbeats 400000
namespace LK15
open PySem PySem.Spec PyProof.Rows L2 DL
section
variable {K : PySem.W.Frag}
variable {cf : Cfg} {cs : List (Tx × Nat)} {ls sv : List Tx} {secs : List (Tx × Bk)} {body : Bk}
theorem p47 : M.pg.fn 47 = some f47 := by kernel_rfl
/-- what the law says follows -/
theorem nex_ok {n : Nat} {mv : List (DK × D)} {q : Nat × List Nat} {hd : Hd} {Q : EV → Hd → Prop} (ok : RowsOk cf secs body) (hm : MvAll mv secs body) (I : Inv secs body q.1 q.2) (hne : ∀ w ∈ wordsS secs, w ≠ []) (kk : Q (.nl ((nxts secs body q).map prD)) hd) :
    gam (M.tb K) M.pg (n + 1) 37 [laidV mv secs body, .int q.1, .tup (nsD q.2)] hd Q := by
  have hs := ok.sl
  have hsl := inv_stk ok hne I
  by_cases hlast : q.1 = lastP secs body
  · have e5 : (q.1 : Int) = (lastP secs body : Nat) := by omega
    rw [e5]
    refine next_last (n := n) ?_
    have : nxts secs body q = [] := by unfold nxts; cases rowAt secs body q.1 <;> simp [hlast]
    rw [this] at kk; exact kk
  · rcases I.pl with e | ⟨r, h1, h2⟩
    · exact absurd e hlast
    · refine next_ok (n := n) ok hm I.ge h1 h2 (inv_part I h1 hne) (by omega) ?_
      have : nxts secs body q = nxt secs q.1 q.2 r := by unfold nxts; rw [h1]; simp only [if_neg hlast]
      rw [this] at kk; exact kk
/-- where a walk can go on, ascending -/
def due (secs : List (Tx × Bk)) (body : Bk) (q : Nat × List Nat) : List Nat := (List.range (lastP secs body + 1)).filter fun t => (tgts secs body q).contains t
theorem due_is (ok : RowsOk cf secs body) (hne : ∀ w ∈ wordsS secs, w ≠ []) {q : Nat × List Nat} (I : Inv secs body q.1 q.2) {ns : List Int} (hp : ns.Perm ((tgts secs body q).map fun (t : Nat) => (t : Int))) (hs : ns.Pairwise (· ≤ ·)) : ns.map .int = nsD (due secs body q) := by
  rw [nsD_int]
  rw [sorted_is (B := lastP secs body + 1) hp hs (tgts_nd I.ge) (fun t ht => by have := (tgts_le ok hne I ht).1; omega)]
  rfl
theorem asInts_map : ∀ L : List Int, asInts (L.map .int) = some L := by
  intro L
  induction L with
  | nil => rfl
  | cons a L ih => rw [List.map_cons]; unfold asInts; rw [ih]; rfl
/-- the places of pairs, sorted -/
theorem srt_ok {q : Nat × List Nat} {hd : Hd} {Q : EV → Hd → Prop} (ok : RowsOk cf secs body) (hne : ∀ w ∈ wordsS secs, w ≠ []) (I : Inv secs body q.1 q.2) (kk : Q (.nl (nsD (due secs body q))) hd) :
    walkD hd (.lst ((nxts secs body q).map prD)) fun xs g => xs.length ≤ 16777216 ∧ turns (fun x hd' K => oIdxA hd' [x, .int 0] fun ev hd'' => K (some ev.d) hd'') g xs [] hd fun l hd2 => oSortI hd2 [.lst l] Q := by
  have hnl := nxts_len (secs := secs) (body := body) (q := q)
  simp [walkD]
  refine ⟨by omega, ?_⟩
  refine turns_fm (gd := none) (hd := hd) prD (fun p => some (.int p.1)) trivial (nxts secs body q) [] (fun p hp K hK => ?_) ?_
  · rw [pr0]; exact hK
  · have e3 : ((nxts secs body q).filterMap fun p => some (D.int (p.1 : Int))) = (((nxts secs body q).map (·.1)).map fun (t : Nat) => (t : Int)).map .int := by
      rw [List.filterMap_eq_map', List.map_map, List.map_map]; rfl
    rw [e3, List.nil_append, nxts_map]
    simp only [oSortI, v_lst, asInts_map]
    intro ns hp hs
    rw [due_is ok hne I hp hs]
    exact kk
theorem steps2_ok {n : Nat} {W : List (Nat × List Nat)} {q : Nat × List Nat} {hd : Hd} {Q : EV → Hd → Prop} (ok : PTok cf cs ls sv secs body) (w : Wlk secs body W) (hne : ∀ w ∈ wordsS secs, w ≠ []) (hW : W.length ≤ 1000) (hq : W[W.length - 1]? = some q)
    (kk : Q (.v (.tup (nsD (due secs body q)))) hd) : gam (M.tb K) M.pg (n + 5) 23 [prg ls sv secs body, .tup (nsD (W.map (·.1)))] hd Q := by
  refine gam_at p23 rfl ?_
  unfold f23
  simp
  refine cw_ok ok w hne (by have := ok.rows.sl; omega) hW hq ?_
  have I := w.inv ok.rows hne _ q hq
  have hW1 : W ≠ [] := fun e => by have := w.fst; rw [e] at this; cases this
  obtain ⟨W', e1⟩ : ∃ W', W = W' ++ [q] := by
    rcases List.eq_nil_or_concat W with e | ⟨W', q', e⟩
    · exact absurd e hW1
    · rw [List.concat_eq_append] at e
      refine ⟨W', ?_⟩
      rw [e] at hq ⊢
      have : q' = q := by simpa using hq
      rw [this]
  have e2 : nsD (W.map (·.1)) = nsD (W'.map (·.1)) ++ [.int q.1] := by rw [e1]; simp [nsD]
  simp
  rw [o_attr vpr na18 (d := planO ls sv secs body) rfl]
  have me19 : M.pg.me 0 19 = some 16 := rfl
  simp [vpl, me19]
  rw [e2, at_last]
  simp only []
  refine ⟨rfl, aft_ok (n := n + 2) ok I hne ?_⟩
  refine srt_ok ok.rows hne I ?_
  simp [oTupOf]
  exact ⟨hd, Sub.refl _, kk⟩
theorem doo_ge {one : Nat} {p : Tx} (h : rowAt secs body one = some (.doo p)) : 3 ≤ one := by
  by_cases c : 3 ≤ one
  · exact c
  · exfalso
    unfold rowAt allR at h
    have : one - 1 = 0 ∨ one - 1 = 1 := by omega
    rcases this with z | z <;> (rw [z] at h; simp at h)
theorem ch_le : ∀ {stk : List Nat} {h t : Tx}, Ch secs body h stk t → ∀ one ∈ stk, one < lastP secs body
  | [], _, _, _, one, h => by cases h
  | x :: stk, h, t, c, one, ho => by
    obtain ⟨_, p, c2, c3⟩ := c
    rcases List.mem_cons.mp ho with rfl | ho
    · exact row_lt c2 (doo_ge c2)
    · exact ch_le c3 one ho
theorem nsD_deq : ∀ (a b : List Nat), deqL (nsD a) (nsD b) = decide (a = b)
  | [], [] => rfl
  | [], _ :: _ => rfl
  | _ :: _, [] => rfl
  | x :: a, y :: b => by
    show (deq (.int x) (.int y) && deqL (nsD a) (nsD b)) = _
    rw [nsD_deq a b]
    have : deq (.int (x : Int)) (.int (y : Int)) = decide (x = y) := by
      show ((x : Int) == (y : Int)) = _
      rw [Bool.eq_iff_iff]; simp; omega
    rw [this]
    by_cases h1 : x = y
    · subst h1; by_cases h2 : a = b <;> simp [h2]
    · simp [h1]
theorem at15_ok {n : Nat} {mv : List (DK × D)} {W : List (Nat × List Nat)} {q : Nat × List Nat} {wide : Bool} {hd : Hd} {Q : EV → Hd → Prop} (ok : PTok cf cs ls sv secs body) (hm : MvAll mv secs body) (w : Wlk secs body W) (hne : ∀ w ∈ wordsS secs, w ≠ []) (hW : W.length ≤ 100) (hq : W[W.length - 1]? = some q)
    (kk : Q (.v (.bl true)) hd) : gam (M.tb K) M.pg (n + 6) 47 [prg ls sv secs body, laidV mv secs body, .tup (nsD (W.map (·.1))), .tup (nsD q.2), .bl wide] hd Q := by
  refine gam_at p47 rfl ?_
  have I := w.inv ok.rows hne _ q hq
  have hs := ok.rows.sl
  have hsl := inv_stk ok.rows hne I
  have hlen := ok.rows.len
  have hlp : lastP secs body ≤ 81 := by unfold lastP; omega
  have hW1 : W ≠ [] := fun e => by have := w.fst; rw [e] at this; cases this
  obtain ⟨W', e1⟩ : ∃ W', W = W' ++ [q] := by
    rcases List.eq_nil_or_concat W with e | ⟨W', q', e⟩
    · exact absurd e hW1
    · rw [List.concat_eq_append] at e
      refine ⟨W', ?_⟩
      rw [e] at hq ⊢
      have : q' = q := by simpa using hq
      rw [this]
  have e2 : nsD (W.map (·.1)) = nsD (W'.map (·.1)) ++ [.int q.1] := by rw [e1]; simp [nsD]
  have al : atI (nsD (W.map (·.1))) (-1) = some (.int q.1) := by rw [e2, at_last]
  unfold f47
  simp [-s_ife]
  rw [al]
  simp [-s_ife]
  refine nex_ok (n := n + 4) ok.rows hm I hne ?_
  refine srt_ok ok.rows hne I ?_
  simp only [d_nl]
  rw [s_ife]
  simp
  refine isw_yes (n := n + 1) ok w hne (by omega) ?_
  refine callers_ok (n := n) ok w hne (by omega) (by omega) hq ?_
  refine steps2_ok (n := n) ok w hne (by omega) hq ?_
  have i3 : ∀ Q, oIdxA hd [laidV mv secs body, .int 3] Q = Q (.v (.int (lastP secs body))) hd := fun Q => by simp [atI, ixN]
  have due_l : (due secs body q).length ≤ 100 := by
    have := List.length_filter_le (fun t => (tgts secs body q).contains t) (List.range (lastP secs body + 1))
    rw [List.length_range] at this
    unfold due; omega
  have due_s : ∀ t ∈ due secs body q, t ≤ 81 := fun t ht => by
    have := (List.mem_filter.mp ht).1
    rw [List.mem_range] at this; omega
  have stk_s : ∀ t ∈ q.2, t ≤ 81 := fun t ht => by
    have := ch_le I.ch t ht
    omega
  have rpN : ∀ L : List Nat, (∀ t ∈ L, t ≤ 81) → rpL (nsD L) ∧ rbL (nsD L) = 12 * L.length := fun L h => by
    rw [nsD_int]
    refine ⟨rpL_ints fun i hi => ?_, by rw [rbL_ints, List.length_map]⟩
    obtain ⟨t, ht, rfl⟩ := List.mem_map.mp hi
    have := h t ht
    omega
  obtain ⟨a1, a2⟩ := rpN _ due_s
  obtain ⟨b1, b2⟩ := rpN _ stk_s
  have rx : rp (.lst [.bl true, .tup (nsD q.2), .tup (nsD (due secs body q))]) := by
    unfold rp rpL rpL rpL rpL rp
    exact ⟨trivial, b1, a1, trivial⟩
  have bx : rb (.lst [.bl true, .tup (nsD q.2), .tup (nsD (due secs body q))]) ≤ 16777216 := by
    unfold rb rbL rbL rbL rbL rb
    omega
  have sx : shD 60 (.lst [.bl true, .tup (nsD q.2), .tup (nsD (due secs body q))]) = true := by
    have h1 : shD 59 (.tup (nsD q.2)) = true := ints_sh (m := 58)
    have h2 : shD 59 (.tup (nsD (due secs body q))) = true := ints_sh (m := 58)
    show ([D.bl true, .tup (nsD q.2), .tup (nsD (due secs body q))].all (shD 59)) = true
    simp [h1, h2]; rfl
  simp [oTupOf]
  refine repr_ok rfl rfl sx rx bx ?_
  refine repr_ok rfl rfl sx rx bx ?_
  simp [oeq_str]
  cases wide with
  | false => simp; exact ⟨hd, Sub.refl _, kk⟩
  | true =>
    have e3 : ((lastP secs body : Nat) : Int) + 3 = ((lastP secs body + 3 : Nat) : Int) := by omega
    have at3 : atI [D.dic mv, D.dic (hsD (secD 3 secs)), D.int (3 + (secN secs : Int)), D.int (lastP secs body : Int)] 3 = some (.int (lastP secs body)) := at_get (n := 3) rfl
    simp [at3, oAdd]
    rw [e3]
    refine ⟨by omega, by omega, by rw [rng_len]; omega, ?_⟩
    have er : rngD 0 (((lastP secs body + 3 : Nat) : Int)).toNat = (List.range (lastP secs body + 3)).map fun (i : Nat) => .int (i : Int) := by
      unfold rngD; rw [Int.toNat_natCast]; simp
    rw [er]
    refine turns_fm (gd := none) (hd := hd) (fun (i : Nat) => D.int (i : Int)) (fun i => if (tgts secs body q).contains i then some (.int i) else none) trivial (List.range (lastP secs body + 3)) [] (fun t ht K hK => ?_) ?_
    · refine ⟨by simp [nsD]; omega, ?_⟩
      have e4 : nsD (W.map (·.1)) ++ [D.int (t : Int)] = nsD (W.map (·.1) ++ [t]) := by simp [nsD]
      rw [e4]
      refine isw_more (n := n + 1) ok w hne (by omega) hq ?_
      cases c : (tgts secs body q).contains t with
      | true => rw [c] at hK; exact hK
      | false => rw [c] at hK; exact hK
    · have e5 : ((List.range (lastP secs body + 3)).filterMap fun i => if (tgts secs body q).contains i then some (D.int (i : Int)) else none) = nsD (due secs body q) := by
        have e6 : ∀ L : List Nat, (L.filterMap fun i => if (tgts secs body q).contains i then some (D.int (i : Int)) else none) = nsD (L.filter fun t => (tgts secs body q).contains t) := by
          intro L
          induction L with
          | nil => rfl
          | cons a L ih =>
            cases c : (tgts secs body q).contains a with
            | true => rw [List.filterMap_cons_some (by rw [c]; rfl), List.filter_cons_of_pos c, ih]; rfl
            | false => rw [List.filterMap_cons_none (by rw [c]; rfl), List.filter_cons_of_neg (by rw [c]; decide), ih]
        rw [e6]
        have e7 : List.range (lastP secs body + 3) = List.range (lastP secs body + 1) ++ [lastP secs body + 1, lastP secs body + 2] := by
          rw [List.range_succ, List.range_succ]; simp
        rw [e7, List.filter_append]
        have no : ∀ t, lastP secs body < t → (tgts secs body q).contains t = false := fun t h => by
          have : t ∉ tgts secs body q := fun z => by have := (tgts_le ok.rows hne I z).1; omega
          simpa using this
        have e8 : ([lastP secs body + 1, lastP secs body + 2].filter fun t => (tgts secs body q).contains t) = [] := by
          rw [List.filter_cons_of_neg (by rw [no _ (by omega)]; decide), List.filter_cons_of_neg (by rw [no _ (by omega)]; decide)]; rfl
        rw [e8, List.append_nil]; rfl
      rw [e5, List.nil_append]
      unfold oEq
      have h1 : shD 60 (.lst (nsD (due secs body q))) = true := ints_sh (m := 59)
      have h3 : deq (.lst (nsD (due secs body q))) (.lst (nsD (due secs body q))) = true := (nsD_deq _ _).trans (by simp)
      simp [h1, h3]
      exact ⟨hd, Sub.refl _, kk⟩
end
end LK15
set_option Elab.async false
set_option linter.all false
set_option maxRecDepth 100000
set_option maxHeartbeats 400000
namespace LK15
open PySem PySem.Spec PyProof.Rows L2 DL
section
variable {K : PySem.W.Frag}
theorem p46 : M.pg.fn 46 = some f46 := by kernel_rfl
/-- a drawn program, as the law has it: all that is known of it -/
structure Drw (c : Cfg) (sv : List Tx) (secs : List (Tx × Bk)) (body : Bk) : Prop where
  cf : CfOk c
  ndl : c.ls.Nodup
  l1 : 1 ≤ c.ls.length
  l2 : c.ls.length ≤ 5
  cl : c.cs.length = 4
  pt : PTok c c.cs c.ls sv secs body
  sm : SmS 2 secs body
  ndw : (wordsS secs).Nodup
  wd : ∀ w ∈ wordsS secs, isW w = true
theorem Drw.hne {c : Cfg} {sv : List Tx} {secs : List (Tx × Bk)} {body : Bk} (h : Drw c sv secs body) : ∀ w ∈ wordsS secs, w ≠ [] := fun w hw => w_ne (h.wd w hw)
theorem len4 {α : Type} {l : List α} (h : l.length = 4) : ∃ a b c d, l = [a, b, c, d] := by
  match l, h with
  | [a, b, c, d], _ => exact ⟨a, b, c, d, rfl⟩
theorem start_ok {n many most : Nat} {hd : Hd} {p : Addr} {Q : EV → Hd → Prop} (hp : PB hd p 0) (hm : many ≤ 4) (hmo : 1 ≤ most) (hmm : most + 3 * many + 4 ≤ 78)
    (k : ∀ (c : Cfg) (sv : List Tx) (sa : List (Tx × Addr)) (secs : List (Tx × Bk)) (body : Bk) (mv : List (DK × D)) (hd' : Hd) (b' : Int), Drw c sv secs body → SecAt hd' (rf sa) secs → MvAll mv secs body → PB hd' p b' → b' ≤ 9600000 → (∀ x, hd x ≠ none → x ≠ p → hd' x = hd x) →
      Q (.nl [planV c.ls sv (rf sa) (.lst (bkL body)), .lst (csD c.cs), laidV mv secs body]) hd') :
    gam (M.tb K) M.pg (n + 8) 46 [.ref p, .int many, .int most] hd Q := by
  refine gam_at p46 rfl ?_
  unfold f46
  simp [-s_for, -s_ife, -s_par]
  refine take_ok (n := n + 6) hp (by omega) (by omega) (by omega) fun r1 hd1 h1 fr1 r10 r11 => ?_
  obtain ⟨a, rfl⟩ : ∃ a : Nat, r1 = a := ⟨r1.toNat, by omega⟩
  simp [-s_for, -s_ife, -s_par]
  refine words_ok (n := n + 4) h1 (by omega) (by omega) (by omega) fun ls hd2 h2 fr2 hls ndl hll => ?_
  have hll' : ls.length = 1 + a := by omega
  simp [-s_for, -s_ife, -s_par]
  refine words_ok (n := n + 4) h2 (by omega) (by omega) (by omega) fun ms hd3 h3 fr3 hms ndm hml => ?_
  obtain ⟨w0, w1, w2, w3, rfl⟩ := len4 (l := ms) (by omega)
  simp [-s_for, -s_ife, -s_par]
  have r4 : rngD 0 4 = [.int 0, .int 1, .int 2, .int 3] := rfl
  refine ⟨by rw [rng_len]; omega, ?_⟩
  rw [r4]
  have i0 : atI [D.str w0, D.str w1, D.str w2, D.str w3] 0 = some (.str w0) := at_get (n := 0) rfl
  have i1 : atI [D.str w0, D.str w1, D.str w2, D.str w3] 1 = some (.str w1) := at_get (n := 1) rfl
  have i2 : atI [D.str w0, D.str w1, D.str w2, D.str w3] 2 = some (.str w2) := at_get (n := 2) rfl
  have i3 : atI [D.str w0, D.str w1, D.str w2, D.str w3] 3 = some (.str w3) := at_get (n := 3) rfl
  simp [turns, i0, i1, i2, i3, gdOk]
  have en : ((many : Int) + 1) = ((many + 1 : Nat) : Int) := by omega
  rw [en]
  refine take_ok (n := n + 6) h3 (by omega) (by omega) (by omega) fun r2 hd4 h4 fr4 r20 r21 => ?_
  obtain ⟨m, rfl⟩ : ∃ m : Nat, r2 = m := ⟨r2.toNat, by omega⟩
  refine take_ok (n := n + 6) h4 (by omega) (by omega) (by omega) fun r3 hd5 h5 fr5 r30 r31 => ?_
  obtain ⟨ms, rfl⟩ : ∃ ms : Nat, r3 = ms := ⟨r3.toNat, by omega⟩
  simp [oAdd]
  have e2 : (3 : Int) + ms = ((3 + ms : Nat) : Int) := by omega
  rw [e2]
  have nd4 := ndm
  simp only [List.nodup_cons, List.mem_cons, List.not_mem_nil, or_false, not_or, not_false_eq_true, and_true] at nd4
  have hc : CfOk ⟨ls, [(w0, 0), (w1, 1), (w2, 2), (w3, 3)]⟩ := ⟨hls, fun q hq => by
    simp only [List.mem_cons, List.not_mem_nil, or_false] at hq
    rcases hq with rfl | rfl | rfl | rfl <;> exact ⟨hms _ (by simp), by simp⟩, fun f x y h1 h2 => by
    simp only [List.mem_cons, List.not_mem_nil, or_false, Prod.mk.injEq] at h1 h2
    rcases h1 with ⟨rfl, rfl⟩ | ⟨rfl, rfl⟩ | ⟨rfl, rfl⟩ | ⟨rfl, rfl⟩ <;> rcases h2 with ⟨z, rfl⟩ | ⟨z, rfl⟩ | ⟨z, rfl⟩ | ⟨z, rfl⟩ <;> first | rfl | (exfalso; simp_all)⟩
  refine plan_ok (n := n + 1) (d := 2) (m := m) (most := 3 + ms) (c := ⟨ls, [(w0, 0), (w1, 1), (w2, 2), (w3, 3)]⟩) h5 (by omega) (by show 1 ≤ ls.length; omega) (by show ls.length ≤ 100; omega) (by show 1 ≤ 4; decide) (by show 4 ≤ 1000; decide) (fun q hq => (hc.cs q hq).2) ndl (by omega) (by omega) (by omega) (by decide) fun heads sv sa secs body hd6 b6 hw hnd hhl pr sr nda han h6 hb6 fr6 => ?_
  have pt := ptok hc ndl (by show 1 ≤ ls.length; omega) (by show ls.length ≤ 16; omega) (by decide) hw hnd (by omega) (by omega) pr
  have sm := smS_of hc hw (by omega) pr
  have sat := sr.at_
  have ndw : (wordsS secs).Nodup := by rw [pr.hw]; exact hnd
  refine laid2_ok (n := n + 3) (d := 2) sat rfl sm ndw fun mv hmv => ?_
  refine ⟨hd6, Sub.refl _, ?_⟩
  refine k ⟨ls, [(w0, 0), (w1, 1), (w2, 2), (w3, 3)]⟩ sv sa secs body mv hd6 b6 ⟨hc, ndl, by show 1 ≤ ls.length; omega, by show ls.length ≤ 5; omega, rfl, pt, sm, ndw, by rw [pr.hw]; exact hw⟩ sat hmv h6 hb6 fun x x1 x2 => ?_
  have q5 : hd5 x = hd x := (fr5 x x2).trans ((fr4 x x2).trans ((fr3 x x2).trans ((fr2 x x2).trans (fr1 x x2))))
  rw [fr6 x (by rw [q5]; exact x1) x2, q5]
end
end LK15
set_option Elab.async false
set_option linter.all false
set_option maxRecDepth 100000
set_option maxHeartbeats 400000
namespace LK15
open PySem PySem.Spec PyProof.Rows L2 DL
section
variable {K : PySem.W.Frag}
theorem p48 : M.pg.fn 48 = some f48 := by kernel_rfl
theorem p49 : M.pg.fn 49 = some f49 := by kernel_rfl
theorem Wlk.take {secs : List (Tx × Bk)} {body : Bk} {W : List (Nat × List Nat)} (w : Wlk secs body W) (n : Nat) : Wlk secs body (W.take (n + 1)) := by
  refine ⟨by rw [List.getElem?_take_of_lt (by omega)]; exact w.fst, fun i q h => ?_⟩
  have hi : i + 1 < n + 1 := by
    have := (List.getElem?_eq_some_iff.mp h).1
    rw [List.length_take] at this; omega
  rw [List.getElem?_take_of_lt hi] at h
  obtain ⟨p, r, h1, h2, h3⟩ := w.stp i q h
  exact ⟨p, r, by rw [List.getElem?_take_of_lt (by omega)]; exact h1, h2, h3⟩
abbrev rtBody : ISs := match f48.body with
  | .cons _ (.cons _ (.cons _ (.cons _ (.cons (.for_ _ _ b) _)))) => b
  | _ => .nil
abbrev rtSt (x0 x2 : D) (y3 : Option D) (x4 x5 : D) (mine laid trail stacks : D) : Slt := [some x0, some mine, some x2, y3, some x4, some x5, some laid, some trail, some stacks]
theorem rt_loop {n : Nat} {c : Cfg} {sv : List Tx} {secs : List (Tx × Bk)} {body : Bk} {mv : List (DK × D)} {W : List (Nat × List Nat)} {hd : Hd} {E : DEn} {x0 x4 x5 : D} {wide : Nat} (dr : Drw c sv secs body) (hm : MvAll mv secs body) (w : Wlk secs body W) (hW : W.length ≤ 100)
    (kE : ∀ y3, E.nx (rtSt x0 (.int wide) y3 x4 x5 (prg c.ls sv secs body) (laidV mv secs body) (.tup (nsD (W.map (·.1)))) (.lst (stkD W))) hd) :
    ∀ (m i : Nat) (y3 : Option D), i + m = W.length →
      loop (.nm 3) none E (wpSs (M.tb K) M.pg (gam (M.tb K) M.pg (n + 6)) rtBody) (rngD i m) (rtSt x0 (.int wide) y3 x4 x5 (prg c.ls sv secs body) (laidV mv secs body) (.tup (nsD (W.map (·.1)))) (.lst (stkD W))) hd
  | 0, i, y3, him => ⟨trivial, kE y3⟩
  | m + 1, i, y3, him => by
    rw [rngD_succ]
    refine ⟨trivial, ?_⟩
    have hil : i < W.length := by omega
    have hq : W[i]? = some W[i] := List.getElem?_eq_getElem hil
    generalize W[i] = q at hq
    have e1 : ((i : Int) + 1) = ((i + 1 : Nat) : Int) := by omega
    have e2 : ((nsD (W.map (·.1))).length : Int) - 1 = ((W.length - 1 : Nat) : Int) := by simp [nsD]; omega
    have cut : DL.cutD (nsD (W.map (·.1))) none (some ((i + 1 : Nat) : Int)) = nsD ((W.take (i + 1)).map (·.1)) := by
      rw [cutD_to]; simp [nsD, List.map_take]
    have st : atI (stkD W) (i : Int) = some (.tup (nsD q.2)) := at_get (by unfold stkD; rw [List.getElem?_map, hq]; rfl)
    have wt := w.take i
    have lt' : (W.take (i + 1)).length = i + 1 := by rw [List.length_take]; omega
    have hqt : (W.take (i + 1))[(W.take (i + 1)).length - 1]? = some q := by
      rw [lt', Nat.add_sub_cancel, List.getElem?_take_of_lt (by omega)]; exact hq
    simp [rtBody, f48, st, oAdd, cAll]
    rw [e1, e2, cut]
    have v2 : view hd (.lst [.int wide, .int ((W.length - 1 : Nat) : Int)]) = .lst (nsD [wide, W.length - 1]) := rfl
    rw [in_ints v2]
    simp only [d_v]
    refine at15_ok (n := n) dr.pt hm wt dr.hne (by omega) hqt ?_
    simp
    exact rt_loop dr hm w hW kE m (i + 1) _ (by omega)
/-- no step leads to the first row of the body -/
theorem first_ne {cf : Cfg} {secs : List (Tx × Bk)} {body : Bk} {r : Rw} {q : Nat × List Nat} (ok : RowsOk cf secs body) (hr : rowAt secs body (3 + secN secs) = some r) (hq : q ∈ nxt secs (3 + secN secs) [] r) : q.1 ≠ 3 + secN secs := by
  have hr2 := hr
  unfold rowAt allR at hr
  rw [List.getElem?_append_right (by simp <;> omega), List.getElem?_append_right (by simp [secR_len] <;> omega)] at hr
  have e0 : 3 + secN secs - 1 - [Rw.nm, .kp].length - (secR 3 secs).length = 0 := by simp [secR_len] <;> omega
  rw [e0] at hr
  cases body with
  | nil => exact absurd rfl ok.bn
  | cons i rest =>
    unfold bkR at hr
    cases i with
    | read l => simp [itR] at hr; subst hr; simp [nxt, gos] at hq; subst hq; simp
    | copy l r => simp [itR] at hr; subst hr; simp [nxt, gos] at hq; subst hq; simp
    | call l f as => simp [itR] at hr; subst hr; simp [nxt, gos] at hq; subst hq; simp
    | doo p =>
      simp [itR] at hr; subst hr
      obtain ⟨g1, _⟩ := doo_part ok hr2 (by omega)
      obtain ⟨at_, m, a1, a2, a3, _⟩ := secD_at secs 3 p g1
      obtain ⟨g2, g3⟩ := hdOf_eq ok.nd a1
      simp [nxt] at hq; subst hq; simp; omega
    | lp b => simp [itR] at hr; subst hr; simp [nxt, gos] at hq; rcases hq with rfl | rfl <;> (dsimp only; omega)
    | ei x y => simp [itR] at hr; subst hr; simp [nxt, gos] at hq; rcases hq with rfl | rfl <;> (dsimp only; omega)
/-- the law's own loop over purses -/
theorem law_by {f g m n : Nat} {F : Fn} {ns : List Int} {hd : Hd} (hm : m ≤ 10) (hn : 1 ≤ n) (pf : M.pg.fn f = some F) (hnp : F.np = 1) (hb : F = ⟨1, 2, .cons (.ret false (.op .all (.cons false (.comp (.call g (.cons true (.call 24 (.cons false (.var 0) (.cons false (.var 1) .nil))) .nil)) (.nm 1) (.rng1 (.op .max2 (.cons false (.lit (.int 2)) (.cons false (.op .min2 (.cons false (.op .len (.cons false (.var 0) .nil)) (.cons false (.lit (.int m)) .nil))) .nil)))) [1]) .nil))) .nil⟩) (hl : ns.length ≤ 63)
    (hr : ∀ (p : Addr) (hd : Hd) (Q : EV → Hd → Prop), PB hd p 0 → (∀ hd', Q (.v (.bl true)) hd') → gam (M.tb K) M.pg n g [.ref p] hd Q) :
    gam (M.tb K) M.pg (n + 1) f [.rol (ns.map .int)] hd fun ev _ => ev = .v (.bl true) := by
  refine gam_at pf (by rw [hnp]; rfl) ?_
  subst hb
  simp [o_lenR]
  have m1 : ∀ (a b : Int) hd (U : EV → Hd → Prop), oMin2 hd [.int a, .int b] U = U (.v (.int (if b < a then b else a))) hd := fun a b hd U => propext Iff.rfl
  have m2 : ∀ (a b : Int) hd (U : EV → Hd → Prop), oMax2 hd [.int a, .int b] U = U (.v (.int (if b > a then b else a))) hd := fun a b hd U => propext Iff.rfl
  rw [m1]
  simp only [d_v]
  rw [m2]
  simp only [d_v]
  obtain ⟨j, hj, hj2⟩ : ∃ j : Nat, (if (if (m : Int) < ns.length then (m : Int) else ns.length) > 2 then (if (m : Int) < ns.length then (m : Int) else ns.length) else 2) = (j : Int) ∧ j ≤ 63 := by
    refine ⟨(if (if (m : Int) < ns.length then (m : Int) else ns.length) > 2 then (if (m : Int) < ns.length then (m : Int) else ns.length) else 2).toNat, ?_, ?_⟩
    · repeat' split
      all_goals omega
    · repeat' split
      all_goals omega
  rw [hj]
  refine ⟨by omega, by omega, by rw [rng_len]; omega, ?_⟩
  -- the turns
  have tn : ∀ (its : List Nat) (acc : List D) (hd : Hd) (U : List D → Hd → Prop), (∀ i ∈ its, i ≤ 100) → (∀ hd', U (acc ++ List.replicate its.length (.bl true)) hd') → turns (fun x hd' K_1 => gam (M.tb K) M.pg n 24 [.rol (ns.map .int), x] hd' fun ev hd1 => DL.trk ev hd1 fun d hd2 => gam (M.tb K) M.pg n g [d] hd2 fun ev hd'' => K_1 (some ev.d) hd'') none (its.map fun (i : Nat) => .int ((0 : Int) + i)) acc hd U := by
    intro its
    induction its with
    | nil => intro acc hd U _ k; exact ⟨trivial, by simpa using k hd⟩
    | cons i its ih =>
      intro acc hd U hi k
      refine ⟨trivial, ?_⟩
      have ez : (0 : Int) + (i : Int) = (i : Int) := by omega
      show gam (M.tb K) M.pg n 24 [.rol (ns.map .int), .int ((0 : Int) + i)] hd _
      rw [ez]
      obtain ⟨n', rfl⟩ : ∃ n', n = n' + 1 := ⟨n - 1, by omega⟩
      refine purse_ok (n := n') (hi i (by simp)) fun s f h1 h2 h3 => ?_
      rw [tr_nl]
      intro p hp
      refine hr p _ _ ⟨s, f, 0, put_same, h1, h2, h3, by omega, by omega⟩ fun hd' => ?_
      refine ih (acc ++ [.bl true]) hd' U (fun x hx => hi x (by simp [hx])) fun hd2 => ?_
      have := k hd2
      rw [List.length_cons, List.replicate_succ] at this
      simpa using this
  have er : rngD 0 ((j : Int)).toNat = (List.range j).map fun (i : Nat) => .int ((0 : Int) + i) := by unfold rngD; rw [Int.toNat_natCast]
  rw [er]
  refine tn (List.range j) [] hd _ (fun i hi => by have := List.mem_range.mp hi; omega) fun hd' => ?_
  rw [List.nil_append]
  refine asBls_true ?_
  exact ⟨⟨hd', Sub.refl _⟩, rfl⟩
theorem right_ok {n : Nat} {hd : Hd} {p : Addr} {Q : EV → Hd → Prop} (hp : PB hd p 0) (k : ∀ hd', Q (.v (.bl true)) hd') : gam (M.tb K) M.pg (n + 9) 48 [.ref p] hd Q := by
  refine gam_at p48 rfl ?_
  unfold f48
  simp [-s_for, -s_ife, -s_par]
  refine start_ok (n := n) (many := 4) (most := 14) hp (by omega) (by omega) (by omega) fun c sv sa secs body mv hd1 b1 dr sat hmv h1 hb1 fr1 => ?_
  simp [-s_for, -s_ife, -s_par]
  obtain ⟨sv1, sv2, sv3⟩ := dr.pt.svw
  have hne := dr.hne
  have l2 := dr.l2
  refine make_ok (n := n + 1) dr.pt (fun U hU => ?_) ?_
  · have := dr.pt.sum
    simp
    refine all_ok (n := n + 3) (d := 2) sat rfl dr.sm dr.cf.ls sv1 (by omega) (by omega) ?_
    simp [oJoin, asStrs_map, isTg]
    exact ⟨by simpa using this, hU⟩
  simp [-s_for, -s_ife, -s_par]
  refine take_ok (n := n + 7) h1 (by omega) (by omega) (by omega) fun r4 hd7 h7 fr7 r40 r41 => ?_
  obtain ⟨mw, rfl⟩ : ∃ mw : Nat, r4 = mw := ⟨r4.toNat, by omega⟩
  simp [-s_for, -s_ife, -s_par]
  have hsl := dr.pt.rows.sl
  refine walk_ok (n := n + 6) dr.pt.rows hmv hne (by omega) h7 (by omega) (by omega) fun W hd8 b8 w hWl h8 hb8 fr8 => ?_
  have hW1 : 1 ≤ W.length := by
    cases W with
    | nil => have := w.fst; cases this
    | cons => simp
  simp [-s_for, -s_ife, -s_par]
  refine take_ok (n := n + 7) h8 (by omega) (by simp [nsD]; omega) (by simp [nsD]; omega) fun r5 hd9 h9 fr9 r50 r51 => ?_
  obtain ⟨wide, rfl⟩ : ∃ wd : Nat, r5 = wd := ⟨r5.toNat, by omega⟩
  simp [-s_for, -s_ife, -s_par]
  rw [s_for]
  simp [-s_for, -s_ife, -s_par]
  have eW : (nsD (W.map (·.1))).length = W.length := by simp [nsD]
  rw [eW]
  refine ⟨by omega, ?_⟩
  refine rt_loop (n := n + 2) (x0 := .ref p) (W := W) (wide := wide) dr hmv w hWl (fun y3 => ?_) W.length 0 none (by omega)
  have eL : ∀ (U : EV → Hd → Prop), oLen hd9 [.tup (nsD (W.map (·.1)))] U = U (.v (.int W.length)) hd9 := fun U => by rw [o_lenT, eW]
  simp [-s_for, -s_ife, -s_par]
  rw [s_ife]
  simp [-s_for, -s_ife, -s_par, eW]
  cases hlt : decide (W.length < 2) with
  | true =>
    simp at hlt
    have hlt' : (W.length : Int) < 2 := by omega
    simp [hlt']
    exact ⟨hd9, Sub.refl _, k _⟩
  | false =>
    simp at hlt
    have hlt' : ¬ (W.length : Int) < 2 := by omega
    simp [hlt']
    have c1 : DL.cutD (nsD (W.map (·.1))) (some 1) none = nsD ((W.map (·.1)).drop 1) := by
      have : DL.cutD (nsD (W.map (·.1))) (some ((1 : Nat) : Int)) none = (nsD (W.map (·.1))).drop 1 := cutD_from
      rw [show (1 : Int) = ((1 : Nat) : Int) from rfl, this]; simp [nsD]
    rw [c1]
    have hl1 : ((W.map (·.1)).drop 1).length = W.length - 1 := by simp
    refine isw_not (n := n + 4) dr.pt (fun e => by rw [e] at hl1; simp at hl1; omega) (by rw [hl1]; omega) ?_ ?_
    · intro h0
      rw [List.getElem?_drop, List.getElem?_map] at h0
      have hq1 : W[1]? = some W[1] := List.getElem?_eq_getElem (by omega)
      rw [show 1 + 0 = 1 from rfl, hq1] at h0
      obtain ⟨q, r, e1, e2, e3⟩ := w.stp 0 _ hq1
      rw [w.fst] at e1
      cases e1
      exact first_ne dr.pt.rows e2 e3 (by simpa using h0)
    · simp
      exact ⟨hd9, Sub.refl _, k _⟩
theorem law_ok {n : Nat} {ns : List Int} {hd : Hd} (hl : ns.length ≤ 63) : gam (M.tb K) M.pg (n + 10) 49 [.rol (ns.map .int)] hd fun ev _ => ev = .v (.bl true) :=
  law_by (f := 49) (g := 48) (m := 4) (n := n + 9) (by decide) (by omega) p49 rfl rfl hl fun p hd Q hp k => right_ok (n := n) hp k
end
end LK15
set_option Elab.async false
set_option linter.all false
set_option maxRecDepth 100000
set_option maxHeartbeats 400000
namespace LK15
open PySem PySem.Spec PyProof.Rows L2 DL
theorem lawD : LawD := fun _ _ hl => law_ok (n := 20) hl
end LK15
theorem PySem.Challenge.cw_likevalues_k15_whole_walks_step_by_step_holds : PySem.Challenge.rw_likevalues_k15_whole_walks_step_by_step.Holds := by
  exact likevalues_holds LK15.lawD
