import PyProof.Rows.All
import Wide.All
import OpenK.AllK
import Wide.FinOn
import HandS.ForMost
import HandS.ForExc
import HandS.CallSlots
import HandS.TryMany
import HandS.TupAny
import HandS.TupMul
import HandS.Style
import HandS.Flow
import HandS.ExcCtx
import HandS.HotCalls
import HandS.Zip
import KE.GoesMore
import HandS.Wide
import HandS.Small
import HandS.IsInst
import HandS.More
import HandS.Text
import HandS.RaiseMore
import HandS.Star
import HandS.Ends
import HandS.TupLen
import HandS.Conv
import HandS.SortInts
import HandS.Property
import HandS.OwnEq
import HandS.Codes
import KE.DataCmp
import OpenK.KMeth
import HandS.Nested
import HandS.ExcInit
import HandS.IterNext
import KE.KExcSuper
import HandS.ExcField
import PyProof.StrOps2
import HandS.ExcValue
import HandS.ExcIs
import KE.KExcIs
import PySem.Challenge.RW_ringalphabet_k14_errors_apart
set_option Elab.async false
set_option linter.all false
set_option maxRecDepth 100000
set_option maxHeartbeats 4000000
/-! Den: a Python def as a total Lean function over plain data, and the rules by which the machine's run is held to it. -/
namespace Den
variable {hox : Option Addr}
open PySem PySem.Spec PyProof.Rows L2

/-- plain data: a value as a tree -/
inductive D where
  | non | bl (b : Bool) | int (i : Int) | str (x : Str)
  | tup (xs : List D) | ktup (xs : List D) | lst (xs : List D) | dic (kvs : List (Key × D)) | obj (c : Str) (fs : List (Str × D)) | scr (ns : List Int)
  | exn (c : Str) (fs : List (Str × D))
/-- what a list or dict that is still being written holds -/
inductive O where
  | lst (xs : List D) | dK (kvs : List (Key × D)) | dT (kvs : List (List Key × D)) | ins (c : Str) (fs : List (Str × D))
  | wlk (p1 p2 : Addr) (n : D) (ts ns : List D)
/-- the lists within -/
def O.sub : O → List Addr
  | .wlk p1 p2 _ _ _ => [p1, p2]
  | _ => []
/-- the addresses of an object of one's own -/
def foot (p : Addr) (o : O) (b : Addr) : Prop := b = p ∨ b ∈ o.sub
theorem foot_self {p : Addr} {o : O} : foot p o p := .inl rfl
theorem foot_one {p b : Addr} {o : O} (e : o.sub = []) (h : foot p o b) : b = p := by
  rcases h with h | h
  · exact h
  · rw [e] at h; cases h
/-- a caught exception that is held: its object, not the clause's any more -/
def ExA (a : Addr) (oe : Obj) : HO := .ext fun h => h.get? a = some oe
/-- its context is None -/
def CtxF (oe : Obj) : Prop := ∃ vs : Array Value, oe.data = .fields vs ∧ vs[2]? = some .none
structure ExIs (C : Addr) (dd : Option Addr) (oe : Obj) : Prop where
  cls : oe.cls = .ref C
  dict : oe.dict = dd
  data : ∃ vs, oe.data = .fields vs
/-- a slot: a datum; an object of the def's own; an object lent by the caller -/
inductive Sl where
  | val (d : D) | own (o : O) | bor (o : O)
abbrev S := List (Option Sl)
structure Exc where
  c : Str
  fs : List (Str × D)
inductive Out (α : Type) where
  | ok (a : α) (s : S) | exc (x : Exc) (s : S) | bad
def Out.bind {α β : Type} (o : Out α) (k : α → S → Out β) : Out β := match o with
  | .ok a s => k a s
  | .exc x s => .exc x s
  | .bad => .bad

section
variable (hox : Option Addr) (K : PySem.W.Frag) (mg : Str → Option Value)
mutual
inductive Rep (G : Hp) : V → D → Prop
  | non : Rep G .non .non
  | bl (b : Bool) : Rep G (.bl b) (.bl b)
  | int (i : Int) : Rep G (.int i) (.int i)
  | str (x : Str) : Rep G (.str x) (.str x)
  | tup {a : Addr} {xs : List V} {ds : List D} : G a = some (.tup xs) → RepL G xs ds → Rep G (.ref a) (.tup ds)
  | ktup {a : Addr} {xs : List V} {ds : List D} : SqT K G a xs → RepL G xs ds → Rep G (.ref a) (.ktup ds)
  | lst {a : Addr} {xs : List V} {ds : List D} : G a = some (.lst xs) → RepL G xs ds → Rep G (.ref a) (.lst ds)
  | scr {a : Addr} {ns : List Int} : SqL K G a (ns.map V.int) → Rep G (.ref a) (.scr ns)
  | dic {a : Addr} {o : Obj} {xs : List (Key × V)} {ds : List (Key × D)} : G a = some (.frz o (.dK xs)) → RepK G xs ds → Rep G (.ref a) (.dic ds)
  | obj {a C dx : Addr} {c : Str} {xs : List (Str × V)} {ds : List (Str × D)} : mg c = some (.ref C) → G a = some (.ins C dx xs) → RepF G xs ds → Rep G (.ref a) (.obj c ds)
  | exn0 {a C : Addr} {oe : Obj} {c : Str} : mg c = some (.ref C) → ExIs C none oe → G a = some (ExA a oe) → Rep G (.ref a) (.exn c [])
  | exnD {a C d : Addr} {oe : Obj} {c : Str} {xs : List (Str × V)} {ds : List (Str × D)} : mg c = some (.ref C) → ExIs C (some d) oe → G a = some (ExA a oe) → G d = some (.xd xs) → RepF G xs ds → Rep G (.ref a) (.exn c ds)
inductive RepL (G : Hp) : List V → List D → Prop
  | nil : RepL G [] []
  | cons {v : V} {vs : List V} {d : D} {ds : List D} : Rep G v d → RepL G vs ds → RepL G (v :: vs) (d :: ds)
inductive RepK (G : Hp) : List (Key × V) → List (Key × D) → Prop
  | nil : RepK G [] []
  | cons {k : Key} {v : V} {vs : List (Key × V)} {d : D} {ds : List (Key × D)} : Rep G v d → RepK G vs ds → RepK G ((k, v) :: vs) ((k, d) :: ds)
inductive RepF (G : Hp) : List (Str × V) → List (Str × D) → Prop
  | nil : RepF G [] []
  | cons {k : Str} {v : V} {vs : List (Str × V)} {d : D} {ds : List (Str × D)} : Rep G v d → RepF G vs ds → RepF G ((k, v) :: vs) ((k, d) :: ds)
end
inductive RepT (G : Hp) : List (List Key × V) → List (List Key × D) → Prop
  | nil : RepT G [] []
  | cons {k : List Key} {v : V} {vs : List (List Key × V)} {d : D} {ds : List (List Key × D)} : Rep K mg G v d → RepT G vs ds → RepT G ((k, v) :: vs) ((k, d) :: ds)
end

/-- what is read in G is read in G' -/
structure Le (G G' : Hp) : Prop where
  rd : ∀ b u, Rd G b u → Rd G' b u
  ins : ∀ b C dx fs, G b = some (.ins C dx fs) → G' b = some (.ins C dx fs)
  xd : ∀ b fs, G b = some (.xd fs) → G' b = some (.xd fs)
  frz : ∀ b o u, G b = some (.frz o u) → G' b = some (.frz o u)
  lst : ∀ b xs, G b = some (.lst xs) → G' b = some (.lst xs)
  tup : ∀ b xs, G b = some (.tup xs) → G' b = some (.tup xs)
  ext : ∀ b φ, G b = some (.ext φ) → G' b = some (.ext φ)
theorem Le.refl (G : Hp) : Le G G := ⟨fun _ _ h => h, fun _ _ _ _ h => h, fun _ _ h => h, fun _ _ _ h => h, fun _ _ h => h, fun _ _ h => h, fun _ _ h => h⟩
theorem Le.trans {G G1 G2 : Hp} (a : Le G G1) (b : Le G1 G2) : Le G G2 :=
  ⟨fun x u h => b.rd x u (a.rd x u h), fun x C dx fs h => b.ins x C dx fs (a.ins x C dx fs h), fun x fs h => b.xd x fs (a.xd x fs h), fun x o u h => b.frz x o u (a.frz x o u h), fun x fs h => b.lst x fs (a.lst x fs h), fun x fs h => b.tup x fs (a.tup x fs h), fun x fs h => b.ext x fs (a.ext x fs h)⟩
theorem Le.of {G G' : Hp} (h : ∀ b o, G b = some o → G' b = some o) : Le G G' :=
  ⟨fun b u r => by
    rcases r with r | ⟨o, r⟩
    · exact .inl (h _ _ r)
    · exact .inr ⟨o, h _ _ r⟩, fun b _ _ _ r => h b _ r, fun b _ r => h b _ r, fun b _ _ r => h b _ r, fun b _ r => h b _ r, fun b _ r => h b _ r, fun b _ r => h b _ r⟩
theorem Le.sqL {K : PySem.W.Frag} {G G' : Hp} (l : Le G G') {a : Addr} {xs : List V} (h : SqL K G a xs) : SqL K G' a xs := by
  rcases h with h | h
  · exact .inl (l.rd _ _ h)
  · exact .inr h
theorem Le.sqT {K : PySem.W.Frag} {G G' : Hp} (l : Le G G') {a : Addr} {xs : List V} (h : SqT K G a xs) : SqT K G' a xs := by
  rcases h with h | h
  · exact .inl (l.rd _ _ h)
  · exact .inr h

section
variable {K : PySem.W.Frag} {mg : Str → Option Value} {G G' : Hp}
mutual
theorem Rep.mono (l : Le G G') : ∀ {v : V} {d : D}, Rep K mg G v d → Rep K mg G' v d
  | _, _, .non => .non
  | _, _, .bl b => .bl b
  | _, _, .int i => .int i
  | _, _, .str x => .str x
  | _, _, .tup h r => .tup (l.tup _ _ h) (RepL.mono l r)
  | _, _, .ktup h r => .ktup (l.sqT h) (RepL.mono l r)
  | _, _, .lst h r => .lst (l.lst _ _ h) (RepL.mono l r)
  | _, _, .scr h => .scr (l.sqL h)
  | _, _, .dic h r => .dic (l.frz _ _ _ h) (RepK.mono l r)
  | _, _, .obj m h r => .obj m (l.ins _ _ _ _ h) (RepF.mono l r)
  | _, _, .exn0 m e h => .exn0 m e (l.ext _ _ h)
  | _, _, .exnD m e h hd r => .exnD m e (l.ext _ _ h) (l.xd _ _ hd) (RepF.mono l r)
theorem RepL.mono (l : Le G G') : ∀ {v : List V} {d : List D}, RepL K mg G v d → RepL K mg G' v d
  | _, _, .nil => .nil
  | _, _, .cons h r => .cons (Rep.mono l h) (RepL.mono l r)
theorem RepK.mono (l : Le G G') : ∀ {v : List (Key × V)} {d : List (Key × D)}, RepK K mg G v d → RepK K mg G' v d
  | _, _, .nil => .nil
  | _, _, .cons h r => .cons (Rep.mono l h) (RepK.mono l r)
theorem RepF.mono (l : Le G G') : ∀ {v : List (Str × V)} {d : List (Str × D)}, RepF K mg G v d → RepF K mg G' v d
  | _, _, .nil => .nil
  | _, _, .cons h r => .cons (Rep.mono l h) (RepF.mono l r)
end
theorem RepT.mono (l : Le G G') {v : List (List Key × V)} {d : List (List Key × D)} (h : RepT K mg G v d) : RepT K mg G' v d := by
  induction h with
  | nil => exact .nil
  | cons h _ ih => exact .cons (h.mono l) ih
end
end Den

set_option Elab.async false
set_option linter.all false
set_option maxRecDepth 100000
set_option maxHeartbeats 4000000
namespace Den
variable {hox : Option Addr}
open PySem PySem.Spec PyProof.Rows L2

/-! ### the state -/
abbrev St := L2.St
open Classical in
noncomputable def hid (h : Addr → Prop) (H : Hp) : Hp := fun b => if h b then none else H b
theorem hid_no {h : Addr → Prop} {H : Hp} {b : Addr} (n : ¬ h b) : hid h H b = H b := by unfold hid; rw [if_neg n]
theorem hid_some {h : Addr → Prop} {H : Hp} {b : Addr} {o : HO} (e : hid h H b = some o) : ¬ h b ∧ H b = some o := by
  unfold hid at e
  split at e
  · cases e
  · rename_i n; exact ⟨n, e⟩
theorem hid_le {h h' : Addr → Prop} {H H' : Hp} (k : ∀ b o, ¬ h b → H b = some o → ¬ h' b ∧ H' b = some o) : Le (hid h H) (hid h' H') :=
  Le.of fun b o e => by
    obtain ⟨n, e⟩ := hid_some e
    obtain ⟨n', e'⟩ := k b o n e
    rw [hid_no n']; exact e'
theorem hid_base {h : Addr → Prop} {H : Hp} : Le (hid h H) H := Le.of fun b o e => (hid_some e).2

/-- the entry: the abstract heap, what the callers own, what they lent by slot -/
structure Ct where
  H0 : Hp
  A : Addr → Prop
  B : Nat → Option Addr
  E : Addr → HO → Prop
  L : Addr → Prop
/-- one more object that stands by itself -/
def Ct.ext (c : Ct) (p : Addr) (ho : HO) : Ct := { c with E := fun b o => c.E b o ∨ (b = p ∧ o = ho) }
def hs (c : Ct) (s : S) (σ : St) : Addr → Prop := fun p => c.A p ∨ (∃ ho, c.E p ho) ∨ ∃ (i : Nat) (o : O) (q : Addr), s[i]? = some (some (.own o)) ∧ σ[i]? = some (some (.ref q)) ∧ foot q o p
noncomputable abbrev vis (c : Ct) (s : S) (σ : St) (H : Hp) : Hp := hid (hs c s σ) H

section
variable (hox : Option Addr) (K : PySem.W.Frag) (mg : Str → Option Value)
def RepO (G H : Hp) (p : Addr) : O → Prop
  | .lst ds => ∃ xs, H p = some (.lst xs) ∧ RepL K mg G xs ds
  | .dK ds => ∃ xs, H p = some (.dK xs) ∧ RepK K mg G xs ds
  | .dT ds => ∃ xs, H p = some (.dT xs) ∧ RepT K mg G xs ds
  | .ins cn ds => ∃ C dx xs, H p = some (.ins C dx xs) ∧ mg cn = some (.ref C) ∧ RepF K mg G xs ds
  | .wlk p1 p2 n ts ns => ∃ C dx v xs ys, H p = some (.ins C dx [("size", v), ("texts", .ref p1), ("noted", .ref p2)]) ∧ mg "Walk" = some (.ref C) ∧ p ≠ p1 ∧ p ≠ p2 ∧ p1 ≠ p2 ∧ H p1 = some (.lst xs) ∧ H p2 = some (.lst ys) ∧ Rep K mg G v n ∧ RepL K mg G xs ts ∧ RepL K mg G ys ns
structure StR (c : Ct) (s : S) (σ : St) (H : Hp) : Prop where
  len : σ.length = s.length
  val : ∀ (i : Nat) d, s[i]? = some (some (.val d)) → ∃ v, σ[i]? = some (some v) ∧ Rep K mg (vis c s σ H) v d
  own : ∀ (i : Nat) o, s[i]? = some (some (.own o)) → ∃ p, σ[i]? = some (some (.ref p)) ∧ (∀ b, foot p o b → ¬ c.A b ∧ c.H0 b = none) ∧ RepO K mg (vis c s σ H) H p o
  bor : ∀ (i : Nat) o, s[i]? = some (some (.bor o)) → ∃ p, σ[i]? = some (some (.ref p)) ∧ c.B i = some p ∧ (∀ b, foot p o b → c.A b ∧ c.L b) ∧ RepO K mg (vis c s σ H) H p o
  brw : ∀ (i : Nat) p, c.B i = some p → c.A p ∧ ∃ o, s[i]? = some (some (.bor o))
  uni : ∀ (i j : Nat) oi oj p q b, s[i]? = some (some (.own oi)) → s[j]? = some (some (.own oj)) → σ[i]? = some (some (.ref p)) → σ[j]? = some (some (.ref q)) → foot p oi b → foot q oj b → i = j
  bun : ∀ (i j : Nat) oi oj p q b, s[i]? = some (some (.bor oi)) → s[j]? = some (some (.bor oj)) → c.B i = some p → c.B j = some q → foot p oi b → foot q oj b → i = j
  lnt : ∀ b, c.L b → ∃ (i : Nat) (o : O) (p : Addr), s[i]? = some (some (.bor o)) ∧ c.B i = some p ∧ foot p o b
  keep : ∀ b o, ¬ c.L b → c.H0 b = some o → H b = some o
  act : ∀ p, c.A p → ∃ o, c.H0 p = some o
  tmp : ∀ p ho, c.E p ho → c.H0 p = none ∧ ¬ c.A p ∧ H p = some ho ∧ ∀ (i : Nat) o q, s[i]? = some (some (.own o)) → σ[i]? = some (some (.ref q)) → ¬ foot q o p
  hot : ∀ a, hox = some a → ∃ oe, c.H0 a = some (ExA a oe) ∧ CtxF oe ∧ ¬ c.L a
end
section
variable {K : PySem.W.Frag} {mg : Str → Option Value} {G G' H H' : Hp} {c : Ct} {s s' s1 : S} {σ σ' σ1 : St} {p : Addr} {o : O}
theorem RepO.mono (l : Le G G') (k : ∀ b, foot p o b → ∀ u, H b = some u → H' b = some u) (h : RepO K mg G H p o) : RepO K mg G' H' p o := by
  cases o with
  | lst ds => obtain ⟨xs, e, r⟩ := h; exact ⟨xs, k _ foot_self _ e, r.mono l⟩
  | dK ds => obtain ⟨xs, e, r⟩ := h; exact ⟨xs, k _ foot_self _ e, r.mono l⟩
  | dT ds => obtain ⟨xs, e, r⟩ := h; exact ⟨xs, k _ foot_self _ e, r.mono l⟩
  | ins cn ds => obtain ⟨C, dx, xs, e, m, r⟩ := h; exact ⟨C, dx, xs, k _ foot_self _ e, m, r.mono l⟩
  | wlk p1 p2 n ts ns =>
    obtain ⟨C, dx, v, xs, ys, e, m, n1, n2, n3, e1, e2, r, r1, r2⟩ := h
    exact ⟨C, dx, v, xs, ys, k _ foot_self _ e, m, n1, n2, n3, k _ (.inr (by simp [O.sub])) _ e1, k _ (.inr (by simp [O.sub])) _ e2, r.mono l, r1.mono l, r2.mono l⟩
theorem RepO.there (h : RepO K mg G H p o) : ∃ u, H p = some u := by
  cases o with
  | lst ds => obtain ⟨xs, e, r⟩ := h; exact ⟨_, e⟩
  | dK ds => obtain ⟨xs, e, r⟩ := h; exact ⟨_, e⟩
  | dT ds => obtain ⟨xs, e, r⟩ := h; exact ⟨_, e⟩
  | ins cn ds => obtain ⟨C, dx, xs, e, m, r⟩ := h; exact ⟨_, e⟩
  | wlk p1 p2 n ts ns => obtain ⟨C, dx, v, xs, ys, e, _⟩ := h; exact ⟨_, e⟩
theorem RepO.thereF (h : RepO K mg G H p o) {b : Addr} (hb : foot p o b) : ∃ u, H b = some u := by
  rcases hb with rfl | hb
  · exact h.there
  · cases o with
    | wlk p1 p2 n ts ns =>
      obtain ⟨C, dx, v, xs, ys, e, m, n1, n2, n3, e1, e2, _⟩ := h
      simp only [O.sub, List.mem_cons, List.not_mem_nil, or_false] at hb
      rcases hb with rfl | rfl
      · exact ⟨_, e1⟩
      · exact ⟨_, e2⟩
    | _ => cases hb
/-- a hidden address is tracked -/
theorem StR.hidden (x : StR hox K mg c s σ H) (h : hs c s σ p) : ∃ o, H p = some o := by
  rcases h with h | h | ⟨i, o, q, e1, e2, hf⟩
  · by_cases hb : c.L p
    · obtain ⟨i, o, q, e, eb, hf⟩ := x.lnt p hb
      obtain ⟨q', _, hq, _, r⟩ := x.bor i o e
      rw [eb] at hq; cases hq
      exact r.thereF hf
    · obtain ⟨o, e⟩ := x.act p h
      exact ⟨o, x.keep p o hb e⟩
  · obtain ⟨ho, h⟩ := h
    exact ⟨ho, (x.tmp p ho h).2.2.1⟩
  · obtain ⟨q', e3, _, r⟩ := x.own i o e1
    rw [e2] at e3; cases e3
    exact r.thereF hf
theorem StR.newHid (x : StR hox K mg c s σ H) (h : H p = none) : ¬ hs c s σ p := fun z => by
  obtain ⟨o, e⟩ := x.hidden z
  rw [h] at e; cases e
theorem StR.newBase (x : StR hox K mg c s σ H) (h : H p = none) : c.H0 p = none := by
  cases e : c.H0 p with
  | none => rfl
  | some o =>
    by_cases hb : c.L p
    · obtain ⟨i, o', q, e', eb, hf⟩ := x.lnt p hb
      obtain ⟨q', _, hq, _, r⟩ := x.bor i o' e'
      rw [eb] at hq; cases hq
      obtain ⟨u, z⟩ := r.thereF hf
      rw [h] at z; cases z
    · have := x.keep p o hb e
      rw [h] at this; cases this
theorem vis_same (g : Same H H') : Le (vis c s σ H) (vis c s σ H') := hid_le fun b o n e => ⟨n, g b o e⟩
theorem StR.grow (x : StR hox K mg c s σ H) (g : Same H H') : StR hox K mg c s σ H' := by
  have l : Le (vis c s σ H) (vis c s σ H') := vis_same g
  refine ⟨x.len, fun i d e => ?_, fun i o e => ?_, fun i o e => ?_, x.brw, x.uni, x.bun, x.lnt, fun b o n e => g _ _ (x.keep b o n e), x.act, fun p ho e => ?_, x.hot⟩
  · obtain ⟨v, e1, r⟩ := x.val i d e
    exact ⟨v, e1, r.mono l⟩
  · obtain ⟨p, e1, n, r⟩ := x.own i o e
    exact ⟨p, e1, n, r.mono l fun _ _ u => g _ _⟩
  · obtain ⟨p, e1, b, z, r⟩ := x.bor i o e
    exact ⟨p, e1, b, z, r.mono l fun _ _ u => g _ _⟩
  · obtain ⟨h1, h2, h3, h4⟩ := x.tmp p ho e
    exact ⟨h1, h2, g _ _ h3, h4⟩

/-- from state to state -/
def Go (hox : Option Addr) (K : PySem.W.Frag) (mg : Str → Option Value) (c : Ct) (s : S) (σ : St) (H : Hp) (s' : S) (σ' : St) (H' : Hp) : Prop := StR hox K mg c s' σ' H' ∧ Le (vis c s σ H) (vis c s' σ' H')
theorem Go.refl (x : StR hox K mg c s σ H) : Go hox K mg c s σ H s σ H := ⟨x, Le.refl _⟩
theorem Go.trans {H1 : Hp} (a : Go hox K mg c s σ H s1 σ1 H1) (b : Go hox K mg c s1 σ1 H1 s' σ' H') : Go hox K mg c s σ H s' σ' H' := ⟨b.1, a.2.trans b.2⟩
theorem Go.grow (x : StR hox K mg c s σ H) (g : Same H H') : Go hox K mg c s σ H s σ H' := ⟨x.grow g, vis_same g⟩

/-- an exception's record -/
def ExcR (K : PySem.W.Frag) (mg : Str → Option Value) (G : Hp) (cls : Value) (dd : Option Addr) (x : Exc) : Prop :=
  (∃ C, cls = .ref C ∧ mg x.c = some (.ref C)) ∧ ((x.fs = [] ∧ dd = none) ∨ ∃ d xs, dd = some d ∧ G d = some (.xd xs) ∧ RepF K mg G xs x.fs)
theorem ExcR.mono {cls : Value} {dd : Option Addr} {x : Exc} (l : Le G G') (h : ExcR K mg G cls dd x) : ExcR K mg G' cls dd x := by
  obtain ⟨h1, h2 | ⟨d, xs, e, g, r⟩⟩ := h
  · exact ⟨h1, .inl h2⟩
  · exact ⟨h1, .inr ⟨d, xs, e, l.xd _ _ g, r.mono l⟩⟩
/-- frozen -/
def O.frz : O → Option D
  | .lst ds => some (.lst ds)
  | .dK ds => some (.dic ds)
  | .dT _ => none
  | .ins cn ds => some (.obj cn ds)
  | .wlk _ _ _ _ _ => none
def Sl.frz : Sl → Option D
  | .val d => some d
  | .own o => o.frz
  | .bor _ => none
theorem RepO.frz {h : Addr → Prop} {d : D} (r : RepO K mg G H p o) (n : ¬ h p) (l : Le G (hid h H)) (e : o.frz = some d) (nk : ∀ ds, o ≠ .dK ds) : Rep K mg (hid h H) (.ref p) d := by
  cases o with
  | lst ds =>
    obtain ⟨xs, e1, r⟩ := r
    cases e
    exact .lst (by rw [hid_no n]; exact e1) (r.mono l)
  | dK ds =>
    exact absurd rfl (nk ds)
  | dT ds => cases e
  | ins cn ds =>
    obtain ⟨C, dx, xs, e1, m, r⟩ := r
    cases e
    exact .obj m (by rw [hid_no n]; exact e1) (r.mono l)
  | wlk p1 p2 n ts ns => cases e
/-- the object that stood by itself is let go -/
theorem StR.unext {p : Addr} {ho : HO} (x : StR hox K mg (c.ext p ho) s σ H) : StR hox K mg c s σ H := by
  have l : Le (vis (c.ext p ho) s σ H) (vis c s σ H) := hid_le fun b o n e => ⟨fun z => n (by
    rcases z with z | ⟨u, z⟩ | z
    · exact .inl z
    · exact .inr (.inl ⟨u, .inl z⟩)
    · exact .inr (.inr z)), e⟩
  refine ⟨x.len, fun i d e => ?_, fun i o e => ?_, fun i o e => ?_, x.brw, x.uni, x.bun, x.lnt, x.keep, x.act, fun q u e => x.tmp q u (.inl e), x.hot⟩
  · obtain ⟨v, e1, r⟩ := x.val i d e
    exact ⟨v, e1, r.mono l⟩
  · obtain ⟨p, e1, n, r⟩ := x.own i o e
    exact ⟨p, e1, n, r.mono l fun _ _ _ h => h⟩
  · obtain ⟨p, e1, b, z, r⟩ := x.bor i o e
    exact ⟨p, e1, b, z, r.mono l fun _ _ _ h => h⟩
theorem vis_unext {p : Addr} {ho : HO} : Le (vis (c.ext p ho) s σ H) (vis c s σ H) := hid_le fun b o n e => ⟨fun z => n (by
    rcases z with z | ⟨u, z⟩ | z
    · exact .inl z
    · exact .inr (.inl ⟨u, .inl z⟩)
    · exact .inr (.inr z)), e⟩
/-- from state to state with a result: a datum, or a new list or dict that stands by itself -/
def GoR (hox : Option Addr) (K : PySem.W.Frag) (mg : Str → Option Value) (c : Ct) (s : S) (σ : St) (H : Hp) (s' : S) (σ' : St) (H' : Hp) (v : V) : Sl → Prop
  | .val d => Go hox K mg c s σ H s' σ' H' ∧ Rep K mg (vis c s' σ' H') v d
  | .own o => ∃ p ho, v = .ref p ∧ o.sub = [] ∧ ¬ hs c s' σ' p ∧ StR hox K mg (c.ext p ho) s' σ' H' ∧ Le (vis c s σ H) (vis (c.ext p ho) s' σ' H') ∧ RepO K mg (vis (c.ext p ho) s' σ' H') H' p o
  | .bor _ => False
theorem GoR.frz {H1 : Hp} {v : V} {r : Sl} {d : D} (x : GoR hox K mg c s σ H s' σ' H' v r) (e : r.frz = some d) (nk : ∀ ds, r ≠ .own (.dK ds)) : Go hox K mg c s σ H s' σ' H' ∧ Rep K mg (vis c s' σ' H') v d := by
  cases r with
  | val d' => cases e; exact x
  | own o =>
    obtain ⟨p, ho, rfl, _, n, st, l, r⟩ := x
    exact ⟨⟨st.unext, l.trans vis_unext⟩, r.frz n vis_unext e fun ds z => nk ds (by rw [z])⟩
  | bor o => cases e
/-- what is wanted of an outcome -/
def Res (hox : Option Addr) (K : PySem.W.Frag) (mg : Str → Option Value) (c : Ct) (s : S) (σ : St) (H : Hp) (W : WX) {α : Type} (P : α → S → Hp → Prop) : Out α → Prop
  | .ok a s' => ∀ H', Go hox K mg c s σ H s' σ H' → P a s' H'
  | .exc x s' => ∀ cls dd H', Go hox K mg c s σ H s' σ H' → ExcR K mg (vis c s' σ H') cls dd x → W cls dd σ H'
  | .bad => False
section
variable {W : WX} {α β : Type} {P P' : α → S → Hp → Prop} {P2 : β → S → Hp → Prop} {r : Out α}
theorem Res.after {H1 : Hp} (h : Res hox K mg c s σ H W P r) (g : Go hox K mg c s σ H s1 σ H1) : Res hox K mg c s1 σ H1 W P r := by
  cases r with
  | ok a s' => exact fun H' g' => h H' (g.trans g')
  | exc x s' => exact fun cls dd H' g' => h cls dd H' (g.trans g')
  | bad => exact h
theorem Res.split {k : α → S → Out β} (h : Res hox K mg c s σ H W P2 (r.bind k)) : Res hox K mg c s σ H W (fun a s1 H1 => Res hox K mg c s1 σ H1 W P2 (k a s1)) r := by
  cases r with
  | ok a s1 => exact fun H1 g => Res.after (r := k a s1) h g
  | exc x s' => exact h
  | bad => exact h
theorem Res.imp (h : Res hox K mg c s σ H W P r) (q : ∀ a s' H', Go hox K mg c s σ H s' σ H' → P a s' H' → P' a s' H') : Res hox K mg c s σ H W P' r := by
  cases r with
  | ok a s' => exact fun H' g => q a s' H' g (h H' g)
  | exc x s' => exact h
  | bad => exact h
end

/-! ### the judgements -/
abbrev MD := S → Out D
abbrev MO := S → Out Sl
abbrev MB := S → Out Bool
inductive AV where
  | val (d : D) | slot (i : Nat)
abbrev MA := S → Out (List AV)
section
variable (hox : Option Addr) (K : PySem.W.Frag) (mg : Str → Option Value) (W : WX)
def tD (m : MD) : TE := fun σ H Q => ∃ c s, StR hox K mg c s σ H ∧ Res hox K mg c s σ H W (fun d s' H' => ∀ v, Rep K mg (vis c s' σ H') v d → Q v H') (m s)
def ResO (c : Ct) (s : S) (σ : St) (H : Hp) (Q : VK) : Out Sl → Prop
  | .ok r s' => ∀ v H', GoR hox K mg c s σ H s' σ H' v r → Q v H'
  | .exc x s' => ∀ cls dd H', Go hox K mg c s σ H s' σ H' → ExcR K mg (vis c s' σ H') cls dd x → W cls dd σ H'
  | .bad => False
def tO (m : MO) : TE := fun σ H Q => ∃ c s, StR hox K mg c s σ H ∧ ResO hox K mg W c s σ H Q (m s)
def tB (m : MB) : TT := fun σ H Q => ∃ c s, StR hox K mg c s σ H ∧ Res hox K mg c s σ H W (fun b s' H' => Q b H') (m s)
inductive ArgsR (G : Hp) (s : S) (σ : St) : List V → List AV → Prop
  | nil : ArgsR G s σ [] []
  | val {v : V} {d : D} {vs : List V} {as : List AV} : Rep K mg G v d → ArgsR G s σ vs as → ArgsR G s σ (v :: vs) (.val d :: as)
  | slot {v : V} {i : Nat} {vs : List V} {as : List AV} : σ[i]? = some (some v) → ArgsR G s σ vs as → ArgsR G s σ (v :: vs) (.slot i :: as)
def tAr (m : MA) : TA := fun σ H Q => ∃ c s, StR hox K mg c s σ H ∧ Res hox K mg c s σ H W (fun as s' H' => ∀ vs, ArgsR K mg (vis c s' σ H') s' σ vs as → Q vs H') (m s)
end
abbrev SD (hox : Option Addr) (X : Cx) (W : WX) (e : Expr) (m : MD) : Prop := PE X e (tD hox X.K X.mg W m)
abbrev SO (hox : Option Addr) (X : Cx) (W : WX) (e : Expr) (m : MO) : Prop := PE X e (tO hox X.K X.mg W m)
abbrev SB (hox : Option Addr) (X : Cx) (W : WX) (e : Expr) (m : MB) : Prop := PT X e (tB hox X.K X.mg W m)
abbrev SA (hox : Option Addr) (X : Cx) (W : WX) (es : List Expr) (m : MA) : Prop := PA X es (tAr hox X.K X.mg W m)
end
theorem PE.imp {X : Cx} {e : Expr} {t t' : TE} (h : PE X e t) (i : ∀ σ H Q, t' σ H Q → t σ H Q) : PE X e t' := ⟨fun pins s σ H Q I q => h.run pins s σ H Q I (i σ H Q q)⟩
theorem PT.imp {X : Cx} {e : Expr} {t t' : TT} (h : PT X e t) (i : ∀ σ H Q, t' σ H Q → t σ H Q) : PT X e t' := ⟨fun pins s σ H Q I q => h.run pins s σ H Q I (i σ H Q q)⟩
theorem PA.imp {X : Cx} {e : List Expr} {t t' : TA} (h : PA X e t) (i : ∀ σ H Q, t' σ H Q → t σ H Q) : PA X e t' := ⟨fun pos pins s σ H Q I q => h.run pos pins s σ H Q I (i σ H Q q)⟩
theorem PS.imp {X : Cx} {e : Stmt} {t t' : TS} (h : PS X e t) (i : ∀ D σ H, t' D σ H → t D σ H) : PS X e t' := ⟨fun pins s σ H D I q => h.run pins s σ H D I (i D σ H q)⟩
theorem PSs.imp {X : Cx} {e : List Stmt} {t t' : TS} (h : PSs X e t) (i : ∀ D σ H, t' D σ H → t D σ H) : PSs X e t' := ⟨fun pins s σ H D I q => h.run pins s σ H D I (i D σ H q)⟩
theorem PI.imp {X : Cx} {tg e : Expr} {t t' : TI} (h : PI X tg e t) (i : ∀ σ H R, t' σ H R → t σ H R) : PI X tg e t' := ⟨fun pins s σ H R I q => h.run pins s σ H R I (i σ H R q)⟩
theorem PG.imp {X : Cx} {tg : Expr} {t t' : TG} (h : PG X tg t) (i : ∀ v σ H Q, t' v σ H Q → t v σ H Q) : PG X tg t' := ⟨fun pins s σ H v u Q I r q => h.run pins s σ H v u Q I r (i v σ H Q q)⟩

/-- what is read may be locked -/
theorem pe_lockv {X : Cx} {e : Expr} {t : TE} (h : PE X e t) : PE X e (fun σ H Q => t σ H fun v H1 => Q v H1 ∨ ∃ d u, v = .ref d ∧ H1 d = some u ∧ Mut (some u) ∧ ∀ od, Q v (L2.upd H1 d (.frz od u))) := by
  refine ⟨fun pins s σ H Q I hw => ?_⟩
  refine thn (h.run pins s σ _ _ I hw) fun v s1 ⟨x, H1, I1, r, q⟩ => ?_
  rcases q with q | ⟨d, u, ev, hd, mu, q⟩
  · exact ⟨x, H1, I1, r, q⟩
  · obtain ⟨od, I2⟩ := I1.lock hd mu
    exact ⟨x, _, I2, r, q od⟩
end Den

set_option Elab.async false
set_option linter.all false
set_option maxRecDepth 100000
set_option maxHeartbeats 4000000
namespace Den
variable {hox : Option Addr}
open PySem PySem.Spec PyProof.Rows L2

/-! ### slots -/
section
variable {K : PySem.W.Frag} {mg : Str → Option Value} {G G' H H' : Hp} {c : Ct} {s s' s1 : S} {σ σ' σ1 : St} {p : Addr} {o : O} {i : Nat}
theorem set_at {α : Type} {l : List α} {i j : Nat} {a : α} {x : α} (h : (l.set i a)[j]? = some x) : (i = j ∧ i < l.length ∧ a = x) ∨ (i ≠ j ∧ l[j]? = some x) := by
  by_cases e : i = j
  · subst e
    by_cases hl : i < l.length
    · rw [List.getElem?_set_self hl] at h
      exact .inl ⟨rfl, hl, Option.some.inj h⟩
    · rw [List.getElem?_eq_none (by rw [List.length_set]; omega)] at h
      cases h
  · rw [List.getElem?_set_ne e] at h
    exact .inr ⟨e, h⟩
theorem same_new {p : Addr} {ho : HO} (n : H p = none) : Same H (upd H p ho) := fun b o e => by rw [upd_ne (ne_of_none e n)]; exact e
/-- a new object that stands by itself -/
theorem StR.alloc {ho : HO} (x : StR hox K mg c s σ H) (n : H p = none) : StR hox K mg (c.ext p ho) s σ (upd H p ho) ∧ Le (vis c s σ H) (vis (c.ext p ho) s σ (upd H p ho)) ∧ ¬ hs c s σ p := by
  have nh := x.newHid n
  have l : Le (vis c s σ H) (vis (c.ext p ho) s σ (upd H p ho)) := hid_le fun b o nb e => by
    have ne : b ≠ p := ne_of_none e n
    refine ⟨fun z => ?_, by rw [upd_ne ne]; exact e⟩
    rcases z with z | z | z
    · exact nb (.inl z)
    · rcases z with ⟨u, z | z⟩
      · exact nb (.inr (.inl ⟨u, z⟩))
      · exact ne z.1
    · exact nb (.inr (.inr z))
  have g := same_new (ho := ho) n
  refine ⟨⟨x.len, fun i d e => ?_, fun i o e => ?_, fun i o e => ?_, x.brw, x.uni, x.bun, x.lnt, fun b o nb e => g _ _ (x.keep b o nb e), x.act, fun q u hq => ?_, x.hot⟩, l, nh⟩
  · obtain ⟨v, e1, r⟩ := x.val i d e
    exact ⟨v, e1, r.mono l⟩
  · obtain ⟨q, e1, m, r⟩ := x.own i o e
    exact ⟨q, e1, m, r.mono l fun _ _ u => g _ _⟩
  · obtain ⟨q, e1, b, z, r⟩ := x.bor i o e
    exact ⟨q, e1, b, z, r.mono l fun _ _ u => g _ _⟩
  · rcases hq with hq | ⟨rfl, rfl⟩
    · obtain ⟨h1, h2, h3, h4⟩ := x.tmp q u hq
      exact ⟨h1, h2, g _ _ h3, h4⟩
    · exact ⟨x.newBase n, fun z => nh (.inl z), upd_same, fun i o q e1 e2 hf => nh (.inr (.inr ⟨i, o, q, e1, e2, hf⟩))⟩
/-- what is not lent -/
def free (s : S) (i : Nat) : Bool := match s[i]? with
  | some (some (.bor _)) => false
  | some _ => true
  | none => false
theorem free_lt (h : free s i = true) : i < s.length := by
  unfold free at h
  cases e : s[i]? with
  | none => rw [e] at h; cases h
  | some x => exact (List.getElem?_eq_some_iff.mp e).1
theorem free_nb (h : free s i = true) (o : O) : s[i]? ≠ some (some (.bor o)) := fun z => by
  unfold free at h
  rw [z] at h; cases h
theorem StR.noB (x : StR hox K mg c s σ H) (h : free s i = true) (q : Addr) : c.B i ≠ some q := fun z => by
  obtain ⟨_, o, e⟩ := x.brw i q z
  exact free_nb h o e
/-- a slot takes a datum, or loses what it had -/
theorem StR.put (x : StR hox K mg c s σ H) (hf : free s i = true) (w : Option Sl) (v : Option V) (hw : ∀ d, w = some (.val d) → ∃ u, v = some u ∧ Rep K mg (vis c s σ H) u d) (hw2 : (∃ d, w = some (.val d)) ∨ w = none) :
    Go hox K mg c s σ H (s.set i w) (σ.set i v) H := by
  have sub : ∀ b, hs c (s.set i w) (σ.set i v) b → hs c s σ b := fun b h => by
    rcases h with h | h | ⟨j, o, q, e1, e2, hf2⟩
    · exact .inl h
    · exact .inr (.inl h)
    · rcases set_at e1 with ⟨_, _, z⟩ | ⟨ne, e1⟩
      · rcases hw2 with ⟨d, e⟩ | e
        · rw [e] at z; cases z
        · rw [e] at z; cases z
      · rw [List.getElem?_set_ne ne] at e2
        exact .inr (.inr ⟨j, o, q, e1, e2, hf2⟩)
  have l : Le (vis c s σ H) (vis c (s.set i w) (σ.set i v) H) := hid_le fun b o n e => ⟨fun z => n (sub b z), e⟩
  have hl := x.len
  have wno : ∀ {o : O}, w ≠ some (.own o) := fun {o} z => by
    rcases hw2 with ⟨d, e⟩ | e
    · rw [e] at z; cases z
    · rw [e] at z; cases z
  have wnb : ∀ {o : O}, w ≠ some (.bor o) := fun {o} z => by
    rcases hw2 with ⟨d, e⟩ | e
    · rw [e] at z; cases z
    · rw [e] at z; cases z
  have ow : ∀ {j : Nat} {o : O}, (s.set i w)[j]? = some (some (.own o)) → i ≠ j ∧ s[j]? = some (some (.own o)) := fun {j o} e => by
    rcases set_at e with ⟨rfl, _, z⟩ | r
    · exact absurd z wno
    · exact r
  have bw : ∀ {j : Nat} {o : O}, (s.set i w)[j]? = some (some (.bor o)) → i ≠ j ∧ s[j]? = some (some (.bor o)) := fun {j o} e => by
    rcases set_at e with ⟨rfl, _, z⟩ | r
    · exact absurd z wnb
    · exact r
  refine ⟨⟨by rw [List.length_set, List.length_set]; exact hl, fun j d e => ?_, fun j o e => ?_, fun j o e => ?_, fun j q e => ?_, fun j k oi oj p q b e1 e2 e3 e4 f1 f2 => ?_, fun j k oi oj p q b e1 e2 e3 e4 f1 f2 => ?_, fun b hb => ?_, x.keep, x.act, fun q u hq => ?_, x.hot⟩, l⟩
  · rcases set_at e with ⟨rfl, lt, z⟩ | ⟨ne, e⟩
    · obtain ⟨u, rfl, r⟩ := hw d z
      exact ⟨u, by rw [List.getElem?_set_self (by omega)], r.mono l⟩
    · obtain ⟨u, e1, r⟩ := x.val j d e
      exact ⟨u, by rw [List.getElem?_set_ne ne]; exact e1, r.mono l⟩
  · obtain ⟨ne, e⟩ := ow e
    obtain ⟨q, e1, m, r⟩ := x.own j o e
    exact ⟨q, by rw [List.getElem?_set_ne ne]; exact e1, m, r.mono l fun _ _ _ h => h⟩
  · obtain ⟨ne, e⟩ := bw e
    obtain ⟨q, e1, m, z, r⟩ := x.bor j o e
    exact ⟨q, by rw [List.getElem?_set_ne ne]; exact e1, m, z, r.mono l fun _ _ _ h => h⟩
  · obtain ⟨a, o, e'⟩ := x.brw j q e
    have ne : i ≠ j := fun z => by subst z; exact x.noB hf q e
    exact ⟨a, o, by rw [List.getElem?_set_ne ne]; exact e'⟩
  · obtain ⟨n1, e1⟩ := ow e1
    obtain ⟨n2, e2⟩ := ow e2
    rw [List.getElem?_set_ne n1] at e3
    rw [List.getElem?_set_ne n2] at e4
    exact x.uni j k oi oj p q b e1 e2 e3 e4 f1 f2
  · exact x.bun j k oi oj p q b (bw e1).2 (bw e2).2 e3 e4 f1 f2
  · obtain ⟨j, o, p, e, eb, f1⟩ := x.lnt b hb
    have ne : i ≠ j := fun z => by subst z; exact free_nb hf o e
    exact ⟨j, o, p, by rw [List.getElem?_set_ne ne]; exact e, eb, f1⟩
  · obtain ⟨h1, h2, h3, h4⟩ := x.tmp q u hq
    refine ⟨h1, h2, h3, fun j o p e1 e2 f1 => ?_⟩
    obtain ⟨ne, e1⟩ := ow e1
    rw [List.getElem?_set_ne ne] at e2
    exact h4 j o p e1 e2 f1
theorem set_same {α : Type} {l : List α} {i : Nat} {a : α} (h : l[i]? = some a) : l.set i a = l := by
  apply List.ext_getElem?
  intro j
  by_cases e : i = j
  · subst e
    rw [List.getElem?_set_self (List.getElem?_eq_some_iff.mp h).1, h]
  · rw [List.getElem?_set_ne e]
/-- a slot's list is read as a datum: it is written no more -/
theorem StR.freeze {d : D} (x : StR hox K mg c s σ H) (h : s[i]? = some (some (.own o))) (e : o.frz = some d) (nk : ∀ ds, o ≠ .dK ds) :
    ∃ p, σ[i]? = some (some (.ref p)) ∧ Go hox K mg c s σ H (s.set i (some (.val d))) σ H ∧ Rep K mg (vis c (s.set i (some (.val d))) σ H) (.ref p) d := by
  obtain ⟨p, e1, n, r⟩ := x.own i o h
  have hi : i < s.length := (List.getElem?_eq_some_iff.mp h).1
  have np : ¬ hs c (s.set i (some (.val d))) σ p := fun q => by
    rcases q with q | q | ⟨j, o', p', e2, e3, f⟩
    · exact (n p foot_self).1 q
    · obtain ⟨u, q⟩ := q
      exact (x.tmp p u q).2.2.2 i o p h e1 foot_self
    · rcases set_at e2 with ⟨_, _, z⟩ | ⟨ne, e2⟩
      · cases z
      · exact ne (x.uni i j o o' p p' p h e2 e1 e3 foot_self f)
  have ow : ∀ {j : Nat} {o2 : O}, (s.set i (some (.val d)))[j]? = some (some (.own o2)) → s[j]? = some (some (.own o2)) := fun {j o2} e => by
    rcases set_at e with ⟨_, _, z⟩ | ⟨_, r⟩
    · cases z
    · exact r
  have bw : ∀ {j : Nat} {o2 : O}, (s.set i (some (.val d)))[j]? = some (some (.bor o2)) → s[j]? = some (some (.bor o2)) := fun {j o2} e => by
    rcases set_at e with ⟨_, _, z⟩ | ⟨_, r⟩
    · cases z
    · exact r
  have sub : ∀ b, hs c (s.set i (some (.val d))) σ b → hs c s σ b := fun b q => by
    rcases q with q | q | ⟨j, o', p', e2, e3, f⟩
    · exact .inl q
    · exact .inr (.inl q)
    · exact .inr (.inr ⟨j, o', p', ow e2, e3, f⟩)
  have l : Le (vis c s σ H) (vis c (s.set i (some (.val d))) σ H) := hid_le fun b o n e => ⟨fun z => n (sub b z), e⟩
  have rp : Rep K mg (vis c (s.set i (some (.val d))) σ H) (.ref p) d := r.frz np l e nk
  refine ⟨p, e1, ⟨⟨by rw [List.length_set]; exact x.len, fun j d' e => ?_, fun j o e => ?_, fun j o e => ?_, fun j q e => ?_, fun j k oi oj p q b e1 e2 e3 e4 f1 f2 => ?_, fun j k oi oj p q b e1 e2 e3 e4 f1 f2 => ?_, fun b hb => ?_, x.keep, x.act, fun q u hq => ?_, x.hot⟩, l⟩, rp⟩
  · rcases set_at e with ⟨rfl, lt, z⟩ | ⟨ne, e⟩
    · cases z
      exact ⟨_, e1, rp⟩
    · obtain ⟨u, e1, r⟩ := x.val j d' e
      exact ⟨u, e1, r.mono l⟩
  · obtain ⟨q, e1, m, r⟩ := x.own j o (ow e)
    exact ⟨q, e1, m, r.mono l fun _ _ _ h => h⟩
  · obtain ⟨q, e1, m, z, r⟩ := x.bor j o (bw e)
    exact ⟨q, e1, m, z, r.mono l fun _ _ _ h => h⟩
  · obtain ⟨a, o', e'⟩ := x.brw j q e
    have ne : i ≠ j := fun z => by subst z; rw [h] at e'; cases e'
    exact ⟨a, o', by rw [List.getElem?_set_ne ne]; exact e'⟩
  · exact x.uni j k oi oj p q b (ow e1) (ow e2) e3 e4 f1 f2
  · exact x.bun j k oi oj p q b (bw e1) (bw e2) e3 e4 f1 f2
  · obtain ⟨j, o2, p2, e2, eb, f1⟩ := x.lnt b hb
    have ne : i ≠ j := fun z => by subst z; rw [h] at e2; cases e2
    exact ⟨j, o2, p2, by rw [List.getElem?_set_ne ne]; exact e2, eb, f1⟩
  · obtain ⟨h1, h2, h3, h4⟩ := x.tmp q u hq
    exact ⟨h1, h2, h3, fun j o p e1 e2 f1 => h4 j o p (ow e1) e2 f1⟩
/-- a slot takes the object that stands by itself -/
theorem StR.take {ho : HO} (x : StR hox K mg (c.ext p ho) s σ H) (n : ¬ hs c s σ p) (r : RepO K mg (vis (c.ext p ho) s σ H) H p o) (hf : free s i = true) (hsub : o.sub = []) :
    StR hox K mg c (s.set i (some (.own o))) (σ.set i (some (.ref p))) H ∧ Le (vis (c.ext p ho) s σ H) (vis c (s.set i (some (.own o))) (σ.set i (some (.ref p))) H) := by
  obtain ⟨t1, t2, t3, t4⟩ := x.tmp p ho (.inr ⟨rfl, rfl⟩)
  have hl := x.len
  have hi := free_lt hf
  have ow : ∀ {j : Nat} {o2 : O} {q : Addr}, (s.set i (some (.own o)))[j]? = some (some (.own o2)) → (σ.set i (some (.ref p)))[j]? = some (some (.ref q)) → (i = j ∧ o2 = o ∧ q = p) ∨ (i ≠ j ∧ s[j]? = some (some (.own o2)) ∧ σ[j]? = some (some (.ref q))) := fun {j o2 q} e e2 => by
    rcases set_at e with ⟨rfl, _, z⟩ | ⟨ne, r⟩
    · cases z
      rw [List.getElem?_set_self (by omega)] at e2
      cases e2
      exact .inl ⟨rfl, rfl, rfl⟩
    · rw [List.getElem?_set_ne ne] at e2
      exact .inr ⟨ne, r, e2⟩
  have sub : ∀ b, hs c (s.set i (some (.own o))) (σ.set i (some (.ref p))) b → hs (c.ext p ho) s σ b := fun b q => by
    rcases q with q | ⟨u, q⟩ | ⟨j, o', p', e2, e3, f⟩
    · exact .inl q
    · exact .inr (.inl ⟨u, .inl q⟩)
    · rcases ow e2 e3 with ⟨_, rfl, rfl⟩ | ⟨_, e2, e3⟩
      · exact .inr (.inl ⟨ho, .inr ⟨foot_one hsub f, rfl⟩⟩)
      · exact .inr (.inr ⟨j, o', p', e2, e3, f⟩)
  have l : Le (vis (c.ext p ho) s σ H) (vis c (s.set i (some (.own o))) (σ.set i (some (.ref p))) H) := hid_le fun b o n e => ⟨fun z => n (sub b z), e⟩
  refine ⟨⟨by rw [List.length_set, List.length_set]; exact hl, fun j d e => ?_, fun j o' e => ?_, fun j o' e => ?_, fun j q e => ?_, fun j k oi oj p1 q1 b e1 e2 e3 e4 f1 f2 => ?_, fun j k oi oj p1 q1 b e1 e2 e3 e4 f1 f2 => ?_, fun b hb => ?_, x.keep, x.act, fun q u hq => ?_, x.hot⟩, l⟩
  · rcases set_at e with ⟨_, _, z⟩ | ⟨ne, e⟩
    · cases z
    · obtain ⟨u, e1, r⟩ := x.val j d e
      exact ⟨u, by rw [List.getElem?_set_ne ne]; exact e1, r.mono l⟩
  · rcases set_at e with ⟨rfl, _, z⟩ | ⟨ne, e⟩
    · cases z
      exact ⟨p, by rw [List.getElem?_set_self (by omega)], fun b hb => by rw [foot_one hsub hb]; exact ⟨t2, t1⟩, r.mono l fun _ _ _ h => h⟩
    · obtain ⟨q, e1, m, r⟩ := x.own j o' e
      exact ⟨q, by rw [List.getElem?_set_ne ne]; exact e1, m, r.mono l fun _ _ _ h => h⟩
  · rcases set_at e with ⟨_, _, z⟩ | ⟨ne, e⟩
    · cases z
    · obtain ⟨q, e1, m, z, r⟩ := x.bor j o' e
      exact ⟨q, by rw [List.getElem?_set_ne ne]; exact e1, m, z, r.mono l fun _ _ _ h => h⟩
  · obtain ⟨a, o', e'⟩ := x.brw j q e
    have ne : i ≠ j := fun z => by subst z; exact x.noB hf q e
    exact ⟨a, o', by rw [List.getElem?_set_ne ne]; exact e'⟩
  · rcases ow e1 e3 with ⟨rfl, rfl, rfl⟩ | ⟨_, g1, g3⟩
    · rcases ow e2 e4 with ⟨z, _, _⟩ | ⟨_, e2, e4⟩
      · exact z
      · rw [foot_one hsub f1] at f2
        exact absurd f2 (t4 k oj q1 e2 e4)
    · rcases ow e2 e4 with ⟨rfl, rfl, rfl⟩ | ⟨_, g2, g4⟩
      · rw [foot_one hsub f2] at f1
        exact absurd f1 (t4 j oi p1 g1 g3)
      · exact x.uni j k oi oj p1 q1 b g1 g2 g3 g4 f1 f2
  · have bw : ∀ {j : Nat} {o2 : O}, (s.set i (some (.own o)))[j]? = some (some (.bor o2)) → s[j]? = some (some (.bor o2)) := fun {j o2} e => by
      rcases set_at e with ⟨_, _, z⟩ | ⟨_, r⟩
      · cases z
      · exact r
    exact x.bun j k oi oj p1 q1 b (bw e1) (bw e2) e3 e4 f1 f2
  · obtain ⟨j, o2, p2, e2, eb, f1⟩ := x.lnt b hb
    have ne : i ≠ j := fun z => by subst z; exact free_nb hf o2 e2
    exact ⟨j, o2, p2, by rw [List.getElem?_set_ne ne]; exact e2, eb, f1⟩
  · obtain ⟨h1, h2, h3, h4⟩ := x.tmp q u (.inl hq)
    refine ⟨h1, h2, h3, fun j o' p' e1 e2 f => ?_⟩
    rcases ow e1 e2 with ⟨rfl, rfl, rfl⟩ | ⟨_, e1, e2⟩
    · rw [← foot_one hsub f] at n
      exact n (.inr (.inl ⟨u, hq⟩))
    · exact h4 j o' p' e1 e2 f
/-- a slot gives its object away -/
theorem StR.give (x : StR hox K mg c s σ H) (h : s[i]? = some (some (.own o))) (hsub : o.sub = []) :
    ∃ p ho, σ[i]? = some (some (.ref p)) ∧ ¬ hs c (s.set i none) σ p ∧ StR hox K mg (c.ext p ho) (s.set i none) σ H ∧ Le (vis c s σ H) (vis (c.ext p ho) (s.set i none) σ H) ∧ RepO K mg (vis (c.ext p ho) (s.set i none) σ H) H p o := by
  obtain ⟨p, e1, n, r⟩ := x.own i o h
  obtain ⟨ho, hp⟩ := r.there
  have ow : ∀ {j : Nat} {o2 : O}, (s.set i none)[j]? = some (some (.own o2)) → i ≠ j ∧ s[j]? = some (some (.own o2)) := fun {j o2} e => by
    rcases set_at e with ⟨_, _, z⟩ | r
    · cases z
    · exact r
  have bw : ∀ {j : Nat} {o2 : O}, (s.set i none)[j]? = some (some (.bor o2)) → s[j]? = some (some (.bor o2)) := fun {j o2} e => by
    rcases set_at e with ⟨_, _, z⟩ | ⟨_, r⟩
    · cases z
    · exact r
  have np : ¬ hs c (s.set i none) σ p := fun q => by
    rcases q with q | q | ⟨j, o', p', e2, e3, f⟩
    · exact (n p foot_self).1 q
    · obtain ⟨u, q⟩ := q
      exact (x.tmp p u q).2.2.2 i o p h e1 foot_self
    · exact (ow e2).1 (x.uni i j o o' p p' p h (ow e2).2 e1 e3 foot_self f)
  have sub : ∀ b, hs (c.ext p ho) (s.set i none) σ b → hs c s σ b := fun b q => by
    rcases q with q | ⟨u, q⟩ | ⟨j, o', p', e2, e3, f⟩
    · exact .inl q
    · rcases q with q | ⟨rfl, rfl⟩
      · exact .inr (.inl ⟨u, q⟩)
      · exact .inr (.inr ⟨i, o, b, h, e1, foot_self⟩)
    · exact .inr (.inr ⟨j, o', p', (ow e2).2, e3, f⟩)
  have l : Le (vis c s σ H) (vis (c.ext p ho) (s.set i none) σ H) := hid_le fun b o n e => ⟨fun z => n (sub b z), e⟩
  refine ⟨p, ho, e1, np, ⟨by rw [List.length_set]; exact x.len, fun j d' e => ?_, fun j o e => ?_, fun j o e => ?_, fun j q e => ?_, fun j k oi oj p1 q1 b e1 e2 e3 e4 f1 f2 => ?_, fun j k oi oj p1 q1 b e1 e2 e3 e4 f1 f2 => ?_, fun b hb => ?_, x.keep, x.act, fun q u hq => ?_, x.hot⟩, l, r.mono l fun _ _ _ h => h⟩
  · rcases set_at e with ⟨_, _, z⟩ | ⟨ne, e⟩
    · cases z
    · obtain ⟨u, e1, r⟩ := x.val j d' e
      exact ⟨u, e1, r.mono l⟩
  · obtain ⟨q, e1, m, r⟩ := x.own j o (ow e).2
    exact ⟨q, e1, m, r.mono l fun _ _ _ h => h⟩
  · obtain ⟨q, e1, m, z, r⟩ := x.bor j o (bw e)
    exact ⟨q, e1, m, z, r.mono l fun _ _ _ h => h⟩
  · obtain ⟨a, o', e'⟩ := x.brw j q e
    have ne : i ≠ j := fun z => by subst z; rw [h] at e'; cases e'
    exact ⟨a, o', by rw [List.getElem?_set_ne ne]; exact e'⟩
  · exact x.uni j k oi oj p1 q1 b (ow e1).2 (ow e2).2 e3 e4 f1 f2
  · exact x.bun j k oi oj p1 q1 b (bw e1) (bw e2) e3 e4 f1 f2
  · obtain ⟨j, o2, p2, e2, eb, f1⟩ := x.lnt b hb
    have ne : i ≠ j := fun z => by subst z; rw [h] at e2; cases e2
    exact ⟨j, o2, p2, by rw [List.getElem?_set_ne ne]; exact e2, eb, f1⟩
  · rcases hq with hq | ⟨rfl, rfl⟩
    · obtain ⟨h1, h2, h3, h4⟩ := x.tmp q u hq
      exact ⟨h1, h2, h3, fun j o p e1 e2 f => h4 j o p (ow e1).2 e2 f⟩
    · exact ⟨(n q foot_self).2, (n q foot_self).1, hp, fun j o' p' e2 e3 f => (ow e2).1 (x.uni i j o o' q p' q h (ow e2).2 e1 e3 foot_self f)⟩
/-- the object that stands by itself is written -/
theorem StR.writeT {ho ho' : HO} (n : ¬ hs c s σ p) (x : StR hox K mg (c.ext p ho) s σ H) : StR hox K mg (c.ext p ho') s σ (upd H p ho') ∧ Le (vis (c.ext p ho) s σ H) (vis (c.ext p ho') s σ (upd H p ho')) := by
  obtain ⟨t1, t2, t3, t4⟩ := x.tmp p ho (.inr ⟨rfl, rfl⟩)
  have l : Le (vis (c.ext p ho) s σ H) (vis (c.ext p ho') s σ (upd H p ho')) := hid_le fun b o n e => by
    refine ⟨fun z => n ?_, by rw [upd_ne (fun z => n (.inr (.inl ⟨ho, .inr ⟨z, rfl⟩⟩)))]; exact e⟩
    rcases z with z | ⟨u, z | z⟩ | z
    · exact .inl z
    · exact .inr (.inl ⟨u, .inl z⟩)
    · exact .inr (.inl ⟨ho, .inr ⟨z.1, rfl⟩⟩)
    · exact .inr (.inr z)
  refine ⟨⟨x.len, fun j d e => ?_, fun j o e => ?_, fun j o e => ?_, x.brw, x.uni, x.bun, x.lnt, fun b o n e => ?_, x.act, fun q u hq => ?_, x.hot⟩, l⟩
  · obtain ⟨v, a1, r⟩ := x.val j d e
    exact ⟨v, a1, r.mono l⟩
  · obtain ⟨q, e1, m, r⟩ := x.own j o e
    exact ⟨q, e1, m, r.mono l fun b f u h => by rw [upd_ne (fun z => by subst z; exact t4 j o q e e1 f)]; exact h⟩
  · obtain ⟨q, e1, m, z, r⟩ := x.bor j o e
    exact ⟨q, e1, m, z, r.mono l fun b f u h => by rw [upd_ne (fun y => by subst y; exact t2 (z b f).1)]; exact h⟩
  · have t1' : c.H0 p = none := t1
    have e' : c.H0 b = some o := e
    rw [upd_ne (fun z => by subst z; rw [t1'] at e'; cases e')]
    exact x.keep b o n e
  · rcases hq with hq | ⟨rfl, rfl⟩
    · obtain ⟨h1, h2, h3, h4⟩ := x.tmp q u (.inl hq)
      have nq : q ≠ p := fun z => n (.inr (.inl ⟨u, by rw [← z]; exact hq⟩))
      exact ⟨h1, h2, by rw [upd_ne nq]; exact h3, h4⟩
    · exact ⟨t1, t2, upd_same, t4⟩

/-- a dict that stands by itself is locked: a datum -/
theorem GoR.lockK {v : V} {ds : List (Key × D)} (x : GoR hox K mg c s1 σ1 H1 s σ H v (.own (.dK ds))) :
    ∃ p xs, v = .ref p ∧ H p = some (.dK xs) ∧ ∀ od, Go hox K mg c s1 σ1 H1 s σ (upd H p (.frz od (.dK xs))) ∧ Rep K mg (vis c s σ (upd H p (.frz od (.dK xs)))) v (.dic ds) := by
  obtain ⟨p, ho, rfl, _, n, st, l, xs, e, r⟩ := x
  refine ⟨p, xs, rfl, e, fun od => ?_⟩
  obtain ⟨y, l2⟩ := st.writeT (ho' := .frz od (.dK xs)) n
  have l3 := l2.trans (vis_unext (c := c) (s := s) (σ := σ))
  exact ⟨⟨y.unext, l.trans l3⟩, .dic (by rw [vis, hid_no n]; exact upd_same) (r.mono l3)⟩
/-- a slot's dict is read as a datum: it is locked -/
theorem StR.freezeK {ds : List (Key × D)} (x : StR hox K mg c s σ H) (h : s[i]? = some (some (.own (.dK ds)))) :
    ∃ p xs, σ[i]? = some (some (.ref p)) ∧ H p = some (.dK xs) ∧ ∀ od, Go hox K mg c s σ H (s.set i (some (.val (.dic ds)))) σ (upd H p (.frz od (.dK xs))) ∧
      Rep K mg (vis c (s.set i (some (.val (.dic ds)))) σ (upd H p (.frz od (.dK xs)))) (.ref p) (.dic ds) := by
  have lt : i < s.length := (List.getElem?_eq_some_iff.mp h).1
  obtain ⟨p, ho, e1, n, st, l, xs, e, r⟩ := x.give h rfl
  refine ⟨p, xs, e1, e, fun od => ?_⟩
  obtain ⟨y, l2⟩ := st.writeT (ho' := .frz od (.dK xs)) n
  have l3 := l2.trans (vis_unext (c := c) (s := s.set i none) (σ := σ))
  have rp : Rep K mg (vis c (s.set i none) σ (upd H p (.frz od (.dK xs)))) (.ref p) (.dic ds) := .dic (by rw [vis, hid_no n]; exact upd_same) (r.mono l3)
  have hf : free (s.set i none) i = true := by unfold free; rw [List.getElem?_set_self lt]
  have g := y.unext.put hf (some (.val (.dic ds))) (some (.ref p)) (fun d e => by cases e; exact ⟨_, rfl, rp⟩) (.inl ⟨_, rfl⟩)
  rw [List.set_set, set_same e1] at g
  exact ⟨⟨g.1, (l.trans l3).trans g.2⟩, rp.mono g.2⟩
/-- what a slot's list or dict holds -/
def Sl.mu : Sl → Option O
  | .own o => some o
  | .bor o => some o
  | .val _ => none
def Sl.re : Sl → O → Sl
  | .own _, o => .own o
  | .bor _, o => .bor o
  | .val d, _ => .val d
theorem StR.mutF {w : Sl} (x : StR hox K mg c s σ H) (h : s[i]? = some (some w)) (e : w.mu = some o) : ∃ p, σ[i]? = some (some (.ref p)) ∧ (∀ b, foot p o b → hs c s σ b) ∧ RepO K mg (vis c s σ H) H p o := by
  cases w with
  | val d => cases e
  | own o' =>
    cases e
    obtain ⟨p, e1, n, r⟩ := x.own i o h
    exact ⟨p, e1, fun b f => .inr (.inr ⟨i, o, p, h, e1, f⟩), r⟩
  | bor o' =>
    cases e
    obtain ⟨p, e1, b, z, r⟩ := x.bor i o h
    exact ⟨p, e1, fun b f => .inl (z b f).1, r⟩
theorem StR.mut {w : Sl} (x : StR hox K mg c s σ H) (h : s[i]? = some (some w)) (e : w.mu = some o) : ∃ p, σ[i]? = some (some (.ref p)) ∧ hs c s σ p ∧ RepO K mg (vis c s σ H) H p o := by
  obtain ⟨p, e1, f, r⟩ := x.mutF h e
  exact ⟨p, e1, f p foot_self, r⟩
/-- it is written -/
theorem StR.writeF {w : Sl} {o' : O} (x : StR hox K mg c s σ H) (h : s[i]? = some (some w)) (e : w.mu = some o) (hp : σ[i]? = some (some (.ref p))) (hm : ∀ b, ¬ foot p o b → ∀ u, H b = some u → H' b = some u) (hsub : o'.sub = o.sub)
    (r' : RepO K mg (hid (hs c s σ) H') H' p o') : Go hox K mg c s σ H (s.set i (some (w.re o'))) σ H' := by
  obtain ⟨p', hp', hh, r⟩ := x.mutF h e
  rw [hp] at hp'; cases hp'
  have hi : i < s.length := (List.getElem?_eq_some_iff.mp h).1
  have ff : ∀ {b : Addr}, foot p o' b → foot p o b := fun {b} f => by
    unfold foot at f ⊢
    rw [hsub] at f; exact f
  have ow : ∀ {j : Nat} {o2 : O}, (s.set i (some (w.re o')))[j]? = some (some (.own o2)) → (i = j ∧ w = .own o ∧ o2 = o') ∨ (i ≠ j ∧ s[j]? = some (some (.own o2))) := fun {j o2} e1 => by
    rcases set_at e1 with ⟨rfl, _, z⟩ | r
    · cases w with
      | val d => cases e
      | own ow => cases e; cases z; exact .inl ⟨rfl, rfl, rfl⟩
      | bor ow => cases z
    · exact .inr r
  have bw : ∀ {j : Nat} {o2 : O}, (s.set i (some (w.re o')))[j]? = some (some (.bor o2)) → (i = j ∧ w = .bor o ∧ o2 = o') ∨ (i ≠ j ∧ s[j]? = some (some (.bor o2))) := fun {j o2} e1 => by
    rcases set_at e1 with ⟨rfl, _, z⟩ | r
    · cases w with
      | val d => cases e
      | own ow => cases z
      | bor ow => cases e; cases z; exact .inl ⟨rfl, rfl, rfl⟩
    · exact .inr r
  have sub : ∀ b, hs c (s.set i (some (w.re o'))) σ b → hs c s σ b := fun b q => by
    rcases q with q | q | ⟨j, o2, p2, e2, e3, f⟩
    · exact .inl q
    · exact .inr (.inl q)
    · rcases ow e2 with ⟨rfl, _, rfl⟩ | ⟨_, e2⟩
      · rw [hp] at e3; cases e3
        exact hh b (ff f)
      · exact .inr (.inr ⟨j, o2, p2, e2, e3, f⟩)
  have l : Le (vis c s σ H) (vis c (s.set i (some (w.re o'))) σ H') := hid_le fun b u n e => ⟨fun z => n (sub b z), hm b (fun z => n (hh b z)) u e⟩
  have r2 : RepO K mg (vis c (s.set i (some (w.re o'))) σ H') H' p o' := r'.mono (hid_le fun b u n e => ⟨fun z => n (sub b z), e⟩) fun _ _ _ h => h
  have oth : ∀ {j : Nat} {q b : Addr} {o2 : O}, i ≠ j → s[j]? = some (some (.own o2)) → σ[j]? = some (some (.ref q)) → foot q o2 b → ¬ foot p o b := fun {j q b o2} ne e1 e2 f z => by
    cases w with
    | val d => cases e
    | own ow => cases e; exact ne (x.uni i j o o2 p q b h e1 hp e2 z f)
    | bor ow =>
      cases e
      obtain ⟨p1, z1, b1, b2, _⟩ := x.bor i o h
      rw [hp] at z1; cases z1
      obtain ⟨p2, z2, n2, _⟩ := x.own j o2 e1
      rw [e2] at z2; cases z2
      exact (n2 b f).1 (b2 b z).1
  have othB : ∀ {j : Nat} {q b : Addr} {o2 : O}, i ≠ j → s[j]? = some (some (.bor o2)) → c.B j = some q → foot q o2 b → ¬ foot p o b := fun {j q b o2} ne e1 e2 f z => by
    cases w with
    | val d => cases e
    | own ow =>
      cases e
      obtain ⟨p2, z2, n2, _⟩ := x.own i o h
      rw [hp] at z2; cases z2
      obtain ⟨p1, z1, b1, b2, _⟩ := x.bor j o2 e1
      rw [e2] at b1; cases b1
      exact (n2 b z).1 (b2 b f).1
    | bor ow =>
      cases e
      obtain ⟨p1, z1, b1, _⟩ := x.bor i o h
      rw [hp] at z1; cases z1
      exact ne (x.bun i j o o2 p q b h e1 b1 e2 z f)
  refine ⟨⟨by rw [List.length_set]; exact x.len, fun j d e1 => ?_, fun j o2 e1 => ?_, fun j o2 e1 => ?_, fun j q e1 => ?_, fun j k oi oj p1 q1 b e1 e2 e3 e4 f1 f2 => ?_, fun j k oi oj p1 q1 b e1 e2 e3 e4 f1 f2 => ?_, fun b hb => ?_, fun b u nb eb => ?_, x.act, fun q u hq => ?_, x.hot⟩, l⟩
  · rcases set_at e1 with ⟨_, _, z⟩ | ⟨ne, e1⟩
    · cases w with
      | val d => cases e
      | own ow => cases z
      | bor ow => cases z
    · obtain ⟨u, e2, r⟩ := x.val j d e1
      exact ⟨u, e2, r.mono l⟩
  · rcases ow e1 with ⟨rfl, rfl, rfl⟩ | ⟨ne, e1⟩
    · obtain ⟨p1, z1, n1, _⟩ := x.own i o h
      rw [hp] at z1; cases z1
      exact ⟨p, hp, fun b f => n1 b (ff f), r2⟩
    · obtain ⟨q, e2, m, r⟩ := x.own j o2 e1
      exact ⟨q, e2, m, r.mono l fun b f u => hm b (oth ne e1 e2 f) u⟩
  · rcases bw e1 with ⟨rfl, rfl, rfl⟩ | ⟨ne, e1⟩
    · obtain ⟨p1, z1, b1, b2, _⟩ := x.bor i o h
      rw [hp] at z1; cases z1
      exact ⟨p, hp, b1, fun b f => b2 b (ff f), r2⟩
    · obtain ⟨q, e2, b1, b2, r⟩ := x.bor j o2 e1
      exact ⟨q, e2, b1, b2, r.mono l fun b f u => hm b (othB ne e1 b1 f) u⟩
  · obtain ⟨a, o2, e'⟩ := x.brw j q e1
    by_cases ne : i = j
    · subst ne
      rw [h] at e'; cases e'
      exact ⟨a, o', by rw [List.getElem?_set_self hi]; rfl⟩
    · exact ⟨a, o2, by rw [List.getElem?_set_ne ne]; exact e'⟩
  · rcases ow e1 with ⟨rfl, rfl, rfl⟩ | ⟨n1, g1⟩
    · rw [hp] at e3; cases e3
      rcases ow e2 with ⟨z, _, _⟩ | ⟨n2, g2⟩
      · exact z
      · exact absurd (ff f1) (oth n2 g2 e4 f2)
    · rcases ow e2 with ⟨rfl, rfl, rfl⟩ | ⟨n2, g2⟩
      · rw [hp] at e4; cases e4
        exact absurd (ff f2) (oth n1 g1 e3 f1)
      · exact x.uni j k oi oj p1 q1 b g1 g2 e3 e4 f1 f2
  · rcases bw e1 with ⟨rfl, rfl, rfl⟩ | ⟨n1, g1⟩
    · obtain ⟨p2, z1, b1, _⟩ := x.bor i o h
      rw [hp] at z1; cases z1
      rw [e3] at b1; cases b1
      rcases bw e2 with ⟨z, _, _⟩ | ⟨n2, g2⟩
      · exact z
      · exact absurd (ff f1) (othB n2 g2 e4 f2)
    · rcases bw e2 with ⟨rfl, rfl, rfl⟩ | ⟨n2, g2⟩
      · obtain ⟨p2, z1, b1, _⟩ := x.bor i o h
        rw [hp] at z1; cases z1
        rw [e4] at b1; cases b1
        exact absurd (ff f2) (othB n1 g1 e3 f1)
      · exact x.bun j k oi oj p1 q1 b g1 g2 e3 e4 f1 f2
  · obtain ⟨j, o2, p2, e2, eb, f1⟩ := x.lnt b hb
    by_cases ne : i = j
    · subst ne
      rw [h] at e2
      cases e2
      cases e
      exact ⟨i, o', p2, by rw [List.getElem?_set_self hi]; rfl, eb, by unfold foot at f1 ⊢; rw [hsub]; exact f1⟩
    · exact ⟨j, o2, p2, by rw [List.getElem?_set_ne ne]; exact e2, eb, f1⟩
  · have ne : ¬ foot p o b := fun z => by
      cases w with
      | val d => cases e
      | own ow =>
        cases e
        obtain ⟨p1, z1, n1, _⟩ := x.own i o h
        rw [hp] at z1; cases z1
        rw [(n1 b z).2] at eb; cases eb
      | bor ow =>
        cases e
        obtain ⟨p1, z1, b1, b2, _⟩ := x.bor i o h
        rw [hp] at z1; cases z1
        exact nb (b2 b z).2
    exact hm b ne u (x.keep b u nb eb)
  · obtain ⟨h1, h2, h3, h4⟩ := x.tmp q u hq
    have nq : ¬ foot p o q := fun z => by
      cases w with
      | val d => cases e
      | own ow => cases e; exact h4 i o p h hp z
      | bor ow =>
        cases e
        obtain ⟨p1, z1, b1, b2, _⟩ := x.bor i o h
        rw [hp] at z1; cases z1
        exact h2 (b2 q z).1
    refine ⟨h1, h2, hm q nq u h3, fun j o2 p2 e1 e2 f => ?_⟩
    rcases ow e1 with ⟨rfl, rfl, rfl⟩ | ⟨_, e1⟩
    · rw [hp] at e2; cases e2
      exact h4 i o p h hp (ff f)
    · exact h4 j o2 p2 e1 e2 f
theorem StR.write {w : Sl} {o' : O} (x : StR hox K mg c s σ H) (h : s[i]? = some (some w)) (e : w.mu = some o) (hp : σ[i]? = some (some (.ref p))) (hm : ∀ b u, b ≠ p → H b = some u → H' b = some u)
    (r' : RepO K mg (hid (hs c s σ) H') H' p o') (h1 : o.sub = [] := by rfl) (h2 : o'.sub = [] := by rfl) : Go hox K mg c s σ H (s.set i (some (w.re o'))) σ H' :=
  x.writeF h e hp (fun b n u => hm b u fun z => n (.inl z)) (h2.trans h1.symm) r'
end
end Den

set_option Elab.async false
set_option linter.all false
set_option maxRecDepth 100000
set_option maxHeartbeats 4000000
namespace Den
variable {hox : Option Addr}
open PySem PySem.Spec PyProof.Rows L2

/-! ### expressions -/
def mK (d : D) : MD := fun s => .ok d s
def mVar (i : Nat) : MD := fun s => match s[i]? with
  | some (some (.val d)) => .ok d s
  | some (some (.own o)) => match o.frz with
    | some d => .ok d (s.set i (some (.val d)))
    | none => .bad
  | _ => .bad
def o2 {α : Type} (x : Option α) (s : S) : Out α := match x with
  | some a => .ok a s
  | none => .bad
def mBin (g : D → D → Option D) (a b : MD) : MD := fun s => (a s).bind fun x s1 => (b s1).bind fun y s2 => o2 (g x y) s2
def mUn (g : D → Option D) (a : MD) : MD := fun s => (a s).bind fun x s1 => o2 (g x) s1
def mVal (m : MD) : MO := fun s => (m s).bind fun d s1 => .ok (.val d) s1
def mFrz (m : MO) : MD := fun s => (m s).bind fun r s1 => o2 r.frz s1
def mTest (m : MD) : MB := fun s => (m s).bind fun d s1 => match d with
  | .bl b => .ok b s1
  | _ => .bad
def mIf {α : Type} (t : MB) (a b : S → Out α) : S → Out α := fun s => (t s).bind fun c s1 => if c = true then a s1 else b s1
def bAnd (a b : MB) : MB := fun s => (a s).bind fun c s1 => if c = true then b s1 else .ok false s1
def bOr (a b : MB) : MB := fun s => (a s).bind fun c s1 => if c = true then .ok true s1 else b s1
def bNot (a : MB) : MB := fun s => (a s).bind fun c s1 => .ok (!c) s1
def mAnd (a b : MD) : MD := fun s => (a s).bind fun x s1 => match x with
  | .bl true => b s1
  | .bl false => .ok (.bl false) s1
  | _ => .bad
def mOr (a b : MD) : MD := fun s => (a s).bind fun x s1 => match x with
  | .bl true => .ok (.bl true) s1
  | .bl false => b s1
  | _ => .bad
def mNot (a : MD) : MD := fun s => (a s).bind fun x s1 => match x with
  | .bl c => .ok (.bl (!c)) s1
  | _ => .bad
abbrev ML := S → Out (List D)
def lNil : ML := fun s => .ok [] s
def lCons (m : MD) (r : ML) : ML := fun s => (m s).bind fun d s1 => (r s1).bind fun ds s2 => .ok (d :: ds) s2
/-- what D's are spliced by a star -/
def D.items : D → Option (List D)
  | .tup ds => some ds
  | .ktup ds => some ds
  | .lst ds => some ds
  | .scr ns => some (ns.map .int)
  | _ => none
def lStar (m : MD) (r : ML) : ML := fun s => (m s).bind fun d s1 => match d.items with
  | some ds => (r s1).bind fun es s2 => .ok (ds ++ es) s2
  | none => .bad
def fits (n : Nat) : Bool := decide (n ≤ sizeLine)
def mTup (l : ML) : MD := fun s => (l s).bind fun ds s1 => if fits ds.length = true then .ok (.tup ds) s1 else .bad
def mLst (l : ML) : MO := fun s => (l s).bind fun ds s1 => if fits ds.length = true then .ok (.own (.lst ds)) s1 else .bad
def mApp (g : List D → Option D) (l : ML) : MD := fun s => (l s).bind fun ds s1 => o2 (g ds) s1
def mAppL (g : List D → Option (List D)) (l : ML) : MO := fun s => (l s).bind fun ds s1 => match g ds with
  | some xs => .ok (.own (.lst xs)) s1
  | none => .bad
section
variable (hox : Option Addr) (K : PySem.W.Frag) (mg : Str → Option Value) (W : WX)
def tL (m : ML) : TA := fun σ H Q => ∃ c s, StR hox K mg c s σ H ∧ Res hox K mg c s σ H W (fun ds s' H' => ∀ vs, RepL K mg (vis c s' σ H') vs ds → Q vs H') (m s)
/-- a rule on values serves a function on data -/
def R2S (r : R2) (g : D → D → Option D) : Prop := ∀ (h : Addr → Prop) (H : Hp) (x y : V) (dx dy dz : D) (Q : VK), (∀ p, h p → ∃ o, H p = some o) → Rep K mg (hid h H) x dx → Rep K mg (hid h H) y dy → g dx dy = some dz →
  (∀ z H', Same H H' → Rep K mg (hid h H') z dz → Q z H') → r x y H Q
def R1S (r : V → Hp → VK → Prop) (g : D → Option D) : Prop := ∀ (h : Addr → Prop) (H : Hp) (x : V) (dx dz : D) (Q : VK), (∀ p, h p → ∃ o, H p = some o) → Rep K mg (hid h H) x dx → g dx = some dz →
  (∀ z H', Same H H' → Rep K mg (hid h H') z dz → Q z H') → r x H Q
def RCS (r : List V → Hp → VK → Prop) (g : List D → Option D) : Prop := ∀ (h : Addr → Prop) (H : Hp) (xs : List V) (ds : List D) (dz : D) (Q : VK), (∀ p, h p → ∃ o, H p = some o) → RepL K mg (hid h H) xs ds → g ds = some dz →
  (∀ z H', Same H H' → Rep K mg (hid h H') z dz → Q z H') → r xs H Q
def RLS (r : List V → Hp → VK → Prop) (g : List D → Option (List D)) : Prop := ∀ (h : Addr → Prop) (H : Hp) (xs : List V) (ds zs : List D) (Q : VK), (∀ p, h p → ∃ o, H p = some o) → RepL K mg (hid h H) xs ds → g ds = some zs →
  (∀ p ws, H p = none → RepL K mg (hid h H) ws zs → Q (.ref p) (upd H p (.lst ws))) → r xs H Q
end
abbrev SL (hox : Option Addr) (X : Cx) (W : WX) (es : List Expr) (m : ML) : Prop := PA X es (tL hox X.K X.mg W m)

section
variable {X : Cx} {W : WX} {a b e : Expr} {es rest : List Expr} {ma mb m : MD} {mo : MO} {ml : ML} {ta tb : MB} {pos p : Pos} {x : Str}
theorem sd_int {i : Int} {j : Nat} : SD hox X W (.Constant (.int i) j pos) (mK (.int i)) := PE.imp pe_int fun σ H Q ⟨c, s, st, q⟩ => q H (.refl st) _ (.int i)
theorem sd_bl {i : Bool} {j : Nat} : SD hox X W (.Constant (.bool i) j pos) (mK (.bl i)) := PE.imp pe_bl fun σ H Q ⟨c, s, st, q⟩ => q H (.refl st) _ (.bl i)
theorem sd_non {j : Nat} : SD hox X W (.Constant .none j pos) (mK .non) := PE.imp pe_non fun σ H Q ⟨c, s, st, q⟩ => q H (.refl st) _ .non
theorem sd_str {i : Str} {j : Nat} : SD hox X W (.Constant (.str i) j pos) (mK (.str i)) := PE.imp pe_str fun σ H Q ⟨c, s, st, q⟩ => q H (.refl st) _ (.str i)
theorem sd_var (i : Nat) (hN : X.N[i]? = some x := by rfl) (hv : Vis X.env.scope x := by first | exact Or.inl rfl | exact Or.inr (Or.inl rfl) | exact Or.inr (Or.inr rfl)) (hd : (x == ("__debug__" : Str)) = false := by decide)
    (hcd : (x == ("__classdict__" : Str)) = false := by decide) : SD hox X W (.Name x pos) (mVar i) := PE.imp (pe_lockv (pe_var hN hv hd hcd)) fun σ H Q ⟨c, s, st, q⟩ => by
  unfold mVar at q
  cases e : s[i]? with
  | none => rw [e] at q; exact q.elim
  | some w =>
    cases w with
    | none => rw [e] at q; exact q.elim
    | some w =>
      cases w with
      | val d =>
        rw [e] at q
        obtain ⟨v, e1, r⟩ := st.val i d e
        exact ⟨v, e1, .inl (q H (.refl st) v r)⟩
      | own o =>
        rw [e] at q
        by_cases nk : ∃ ds, o = .dK ds
        · obtain ⟨ds, rfl⟩ := nk
          obtain ⟨p, xs, e1, e2, g⟩ := st.freezeK e
          exact ⟨_, e1, .inr ⟨p, _, rfl, e2, trivial, fun od => q _ (g od).1 _ (g od).2⟩⟩
        cases z : o.frz with
        | none => simp only [z] at q; exact q.elim
        | some d =>
          simp only [z] at q
          obtain ⟨p, e1, g, r⟩ := st.freeze e z fun ds h => nk ⟨ds, h⟩
          exact ⟨_, e1, .inl (q H g _ r)⟩
      | bor o => rw [e] at q; exact q.elim
theorem st_hid {c : Ct} {s : S} {σ : St} {H : Hp} (st : StR hox X.K X.mg c s σ H) : ∀ p, hs c s σ p → ∃ o, H p = some o := fun _ h => st.hidden h
theorem sd_bin {op : Operator} {r : R2} {g : D → D → Option D} (hg : R2S X.K X.mg r g) (ho : OpR X (binaryOp op) r) (ha : SD hox X W a ma) (hb : SD hox X W b mb) : SD hox X W (.BinOp a op b pos) (mBin g ma mb) :=
  PE.imp (pe_op ho ha hb) fun σ H Q ⟨c, s, st, q⟩ => ⟨c, s, st, q.split.imp fun dx s1 H1 g1 q1 vx rx => ⟨c, s1, g1.1, q1.split.imp fun dy s2 H2 g2 q2 vy ry => by
    cases e : g dx dy with
    | none => unfold o2 at q2; simp only [e] at q2; exact q2.elim
    | some dz =>
      unfold o2 at q2; simp only [e] at q2
      exact hg _ H2 _ _ dx dy dz Q (st_hid g2.1) (rx.mono g2.2) ry e fun z H' sm rz => q2 H' (.grow g2.1 sm) z rz⟩⟩
theorem sd_cmp {op : CmpOp} {r : R2} {g : D → D → Option D} (hg : R2S X.K X.mg r g) (ho : OpR X (compareOp op) r) (hm : behindInMarks op b = false) (ha : SD hox X W a ma) (hb : SD hox X W b mb) : SD hox X W (.Compare a [op] [b] pos) (mBin g ma mb) :=
  PE.imp (pe_cmpR ho ha hb hm) fun σ H Q ⟨c, s, st, q⟩ => ⟨c, s, st, q.split.imp fun dx s1 H1 g1 q1 vx rx => ⟨c, s1, g1.1, q1.split.imp fun dy s2 H2 g2 q2 vy ry => by
    cases e : g dx dy with
    | none => unfold o2 at q2; simp only [e] at q2; exact q2.elim
    | some dz =>
      unfold o2 at q2; simp only [e] at q2
      exact hg _ H2 _ _ dx dy dz Q (st_hid g2.1) (rx.mono g2.2) ry e fun z H' sm rz => q2 H' (.grow g2.1 sm) z rz⟩⟩
theorem sd_ix {r : R2} {g : D → D → Option D} (hg : R2S X.K X.mg r g) (ho : IxR X r) (ha : SD hox X W a ma) (hb : SD hox X W b mb) (hs : PlainIx b := by exact fun _ _ => rfl) : SD hox X W (.Subscript a b pos) (mBin g ma mb) :=
  PE.imp (pe_ix ho ha hb hs) fun σ H Q ⟨c, s, st, q⟩ => ⟨c, s, st, q.split.imp fun dx s1 H1 g1 q1 vx rx => ⟨c, s1, g1.1, q1.split.imp fun dy s2 H2 g2 q2 vy ry => by
    cases e : g dx dy with
    | none => unfold o2 at q2; simp only [e] at q2; exact q2.elim
    | some dz =>
      unfold o2 at q2; simp only [e] at q2
      exact hg _ H2 _ _ dx dy dz Q (st_hid g2.1) (rx.mono g2.2) ry e fun z H' sm rz => q2 H' (.grow g2.1 sm) z rz⟩⟩
theorem sd_un {op : UnaryOp} {r : V → Hp → VK → Prop} {g : D → Option D} (hg : R1S X.K X.mg r g) (ho : UnR X (unaryOp op) r) (ha : SD hox X W a ma) : SD hox X W (.UnaryOp op a pos) (mUn g ma) :=
  PE.imp (pe_un ho ha) fun σ H Q ⟨c, s, st, q⟩ => ⟨c, s, st, q.split.imp fun dx s1 H1 g1 q1 vx rx => by
    cases e : g dx with
    | none => unfold o2 at q1; simp only [e] at q1; exact q1.elim
    | some dz =>
      unfold o2 at q1; simp only [e] at q1
      exact hg _ H1 _ dx dz Q (st_hid g1.1) rx e fun z H' sm rz => q1 H' (.grow g1.1 sm) z rz⟩
/-- a datum is a result -/
theorem so_val (h : SD hox X W e m) : SO hox X W e (mVal m) := PE.imp h fun σ H Q ⟨c, s, st, q⟩ => ⟨c, s, st, by
  unfold mVal at q
  cases e1 : m s with
  | ok d s1 => rw [e1] at q; exact fun H' g v r => q v H' ⟨g, r⟩
  | exc y s1 => rw [e1] at q; exact q
  | bad => rw [e1] at q; exact q⟩
theorem sd_frz (h : SO hox X W e mo) : SD hox X W e (mFrz mo) := PE.imp (pe_lockv h) fun σ H Q ⟨c, s, st, q⟩ => ⟨c, s, st, by
  unfold mFrz at q
  cases e1 : mo s with
  | ok r s1 =>
    rw [e1] at q
    intro v H' g
    cases e2 : r.frz with
    | none => unfold Out.bind o2 at q; simp only [e2] at q; exact q.elim
    | some d =>
      unfold Out.bind o2 at q; simp only [e2] at q
      by_cases nk : ∃ ds, r = .own (.dK ds)
      · obtain ⟨ds, rfl⟩ := nk
        cases e2
        obtain ⟨p, xs, ev, e3, gg⟩ := g.lockK
        exact .inr ⟨p, _, ev, e3, trivial, fun od => q _ (gg od).1 _ (gg od).2⟩
      · obtain ⟨g1, r1⟩ := g.frz (H1 := H') e2 fun ds h => nk ⟨ds, h⟩
        exact .inl (q H' g1 v r1)
  | exc y s1 => rw [e1] at q; exact q
  | bad => rw [e1] at q; exact q⟩
/-! tests -/
theorem sb_val (h : SD hox X W e m) (he : ∀ whole, isTrue e X.env whole = (do let v ← whole; standAt e.pos; holding [v] (truthy v)) := by intro _; rfl) : SB hox X W e (mTest m) :=
  PT.imp (pt_val h he) fun σ H Q ⟨c, s, st, q⟩ => ⟨c, s, st, q.split.imp fun d s1 H1 g1 q1 v r => by
    cases r with
    | bl b => exact ⟨b, rfl, q1 H1 (.refl g1.1)⟩
    | _ => exact q1.elim⟩
theorem sb_cmp {op : CmpOp} {r : R2} {g : D → D → Option D} (hg : R2S X.K X.mg r g) (ho : OpR X (compareOp op) r) (hm : behindInMarks op b = false) (ha : SD hox X W a ma) (hb : SD hox X W b mb) : SB hox X W (.Compare a [op] [b] pos) (mTest (mBin g ma mb)) :=
  PT.imp (pt_cmpR ho ha hb hm) fun σ H Q ⟨c, s, st, q⟩ => ⟨c, s, st, by
    have q : Res hox X.K X.mg c s σ H W (fun b s' H' => Q b H') ((ma s).bind fun x s1 => ((mb s1).bind fun y s2 => o2 (g x y) s2).bind fun d s1 => match d with | .bl b => .ok b s1 | _ => .bad) := by
      have : mTest (mBin g ma mb) s = ((ma s).bind fun x s1 => ((mb s1).bind fun y s2 => o2 (g x y) s2).bind fun d s1 => match d with | .bl b => .ok b s1 | _ => .bad) := by
        unfold mTest mBin
        cases ma s <;> rfl
      rw [this] at q; exact q
    refine q.split.imp fun dx s1 H1 g1 q1 vx rx => ⟨c, s1, g1.1, ?_⟩
    have q1 : Res hox X.K X.mg c s1 σ H1 W (fun b s' H' => Q b H') ((mb s1).bind fun y s2 => (o2 (g dx y) s2).bind fun d s1 => match d with | .bl b => .ok b s1 | _ => .bad) := by
      cases e : mb s1 <;> (rw [e] at q1; exact q1)
    refine q1.split.imp fun dy s2 H2 g2 q2 vy ry => ?_
    cases e : g dx dy with
    | none => unfold o2 at q2; simp only [e] at q2; exact q2.elim
    | some dz =>
      unfold o2 at q2; simp only [e] at q2
      refine hg _ H2 _ _ dx dy dz _ (st_hid g2.1) (rx.mono g2.2) ry e fun z H' sm rz => ?_
      cases rz with
      | bl b => exact ⟨b, rfl, q2 H' (.grow g2.1 sm)⟩
      | _ => exact q2.elim⟩
theorem sb_not (h : SB hox X W a ta) : SB hox X W (.UnaryOp .Not a pos) (bNot ta) := PT.imp (pt_not h) fun σ H Q ⟨c, s, st, q⟩ => ⟨c, s, st, q.split.imp fun b s1 H1 g1 q1 => q1 H1 (.refl g1.1)⟩
abbrev SW (hox : Option Addr) (X : Cx) (W : WX) (e : Expr) (m : MB) : Prop := PW X e (tB hox X.K X.mg W m)
theorem PW.imp {e : Expr} {t t' : TT} (h : PW X e t) (i : ∀ σ H Q, t' σ H Q → t σ H Q) : PW X e t' := ⟨fun wh pins s σ H Q I q => h.run wh pins s σ H Q I (i σ H Q q)⟩
theorem sw_and1 (h : SB hox X W a ta) : SW hox X W (.BoolOp .And [a] pos) ta := pw_and1 h
theorem sw_and (ha : SB hox X W a ta) (hb : SW hox X W (.BoolOp .And (b :: rest) pos) tb) : SW hox X W (.BoolOp .And (a :: b :: rest) pos) (bAnd ta tb) :=
  PW.imp (pw_and ha hb) fun σ H Q ⟨c, s, st, q⟩ => ⟨c, s, st, q.split.imp fun b s1 H1 g1 q1 => by
    cases b with
    | true => rw [if_pos rfl] at q1 ⊢; exact ⟨c, s1, g1.1, q1⟩
    | false => rw [if_neg Bool.false_ne_true] at q1 ⊢; exact q1 H1 (.refl g1.1)⟩
theorem sb_w (h : SW hox X W e ta) : SB hox X W e ta := PW.pt h
/-! bools as values -/
theorem sd_one {op : BoolOp} (h : SD hox X W a ma) : SD hox X W (.BoolOp op [a] pos) ma := pe_one h
theorem sd_and (ha : SD hox X W a ma) (hb : SD hox X W (.BoolOp .And (b :: rest) pos) mb) : SD hox X W (.BoolOp .And (a :: b :: rest) pos) (mAnd ma mb) :=
  PE.imp (pe_and ha hb) fun σ H Q ⟨c, s, st, q⟩ => ⟨c, s, st, q.split.imp fun d s1 H1 g1 q1 v r => by
    cases r with
    | bl b =>
      cases b with
      | true => exact ⟨true, rfl, by rw [if_pos rfl]; exact ⟨c, s1, g1.1, q1⟩⟩
      | false => exact ⟨false, rfl, by rw [if_neg Bool.false_ne_true]; exact q1 H1 (.refl g1.1) _ (.bl false)⟩
    | _ => exact q1.elim⟩
theorem sd_not (ha : SD hox X W a ma) : SD hox X W (.UnaryOp .Not a pos) (mNot ma) :=
  PE.imp (pe_not ha) fun σ H Q ⟨c, s, st, q⟩ => ⟨c, s, st, q.split.imp fun d s1 H1 g1 q1 v r => by
    cases r with
    | bl b => exact ⟨b, rfl, q1 H1 (.refl g1.1) _ (.bl (!b))⟩
    | _ => exact q1.elim⟩
theorem sd_if {t : Expr} (ht : SB hox X W t ta) (ha : SD hox X W a ma) (hb : SD hox X W b mb) : SD hox X W (.IfExp t a b pos) (mIf ta ma mb) :=
  PE.imp (pe_ifExp ht ha hb) fun σ H Q ⟨c, s, st, q⟩ => ⟨c, s, st, q.split.imp fun b s1 H1 g1 q1 => by
    cases b with
    | true => rw [if_pos rfl] at q1 ⊢; exact ⟨c, s1, g1.1, q1⟩
    | false => rw [if_neg Bool.false_ne_true] at q1 ⊢; exact ⟨c, s1, g1.1, q1⟩⟩
/-- as pe_chain: a op b op' c, b asked once -/
def mChain (g g' : D → D → Option D) (a b c : MD) : MD := fun s => (a s).bind fun x s1 => (b s1).bind fun y s2 => match g x y with
  | some (.bl true) => (c s2).bind fun z s3 => o2 (g' y z) s3
  | some (.bl false) => .ok (.bl false) s2
  | _ => .bad
/-! lists of values -/
theorem sl_nil : SL hox X W [] lNil := PA.imp pa_nil fun σ H Q ⟨c, s, st, q⟩ => q H (.refl st) [] .nil
theorem sl_cons (ha : SD hox X W e m) (hr : SL hox X W es ml) (hs : starEach (e :: es) X.env = (false, eval e X.env) :: starEach es X.env := by rfl) : SL hox X W (e :: es) (lCons m ml) :=
  PA.imp (pa_cons ha hr hs) fun σ H Q ⟨c, s, st, q⟩ => ⟨c, s, st, q.split.imp fun d s1 H1 g1 q1 v r => ⟨c, s1, g1.1, q1.split.imp fun ds s2 H2 g2 q2 vs rs => q2 H2 (.refl g2.1) (v :: vs) (.cons (r.mono g2.2) rs)⟩⟩
theorem RepL.length {K : PySem.W.Frag} {mg : Str → Option Value} {G : Hp} {vs : List V} {ds : List D} (h : RepL K mg G vs ds) : vs.length = ds.length := by
  induction ds generalizing vs with
  | nil => cases h; rfl
  | cons d ds ih => cases h with | cons _ h => rw [List.length_cons, List.length_cons, ih h]
theorem RepL.append {K : PySem.W.Frag} {mg : Str → Option Value} {G : Hp} {vs ws : List V} {ds es : List D} (h : RepL K mg G vs ds) (h' : RepL K mg G ws es) : RepL K mg G (vs ++ ws) (ds ++ es) := by
  induction ds generalizing vs with
  | nil => cases h; exact h'
  | cons d ds ih => cases h with | cons a h => exact .cons a (ih h)
theorem fits_le {n : Nat} (h : fits n = true) : n ≤ sizeLine := of_decide_eq_true h
theorem sd_tup {x1 : Nat} (h : SL hox X W es ml) : SD hox X W (.Tuple es x1 pos) (mTup ml) :=
  PE.imp (pe_tup h) fun σ H Q ⟨c, s, st, q⟩ => ⟨c, s, st, q.split.imp fun ds s1 H1 g1 q1 vs rs => by
    by_cases f : fits ds.length = true
    · rw [if_pos f] at q1
      refine ⟨by rw [rs.length]; exact fits_le f, fun p n => ?_⟩
      have g := Go.grow (K := X.K) (mg := X.mg) g1.1 (same_new (ho := .tup vs) n)
      refine q1 _ g _ (.tup ?_ (rs.mono g.2))
      have nh : ¬ hs c s1 σ p := g1.1.newHid n
      exact (hid_no nh).trans upd_same
    · rw [if_neg f] at q1; exact q1.elim⟩
theorem so_lst (h : SL hox X W es ml) : SO hox X W (.List es pos) (mLst ml) :=
  PE.imp (pe_lst h) fun σ H Q ⟨c, s, st, q⟩ => ⟨c, s, st, by
    unfold mLst at q
    cases e1 : ml s with
    | ok ds s1 =>
      rw [e1] at q
      intro H1 g1 vs rs
      by_cases f : fits ds.length = true
      · have q : ResO hox X.K X.mg W c s σ H Q (if fits ds.length = true then .ok (.own (.lst ds)) s1 else .bad) := q
        rw [if_pos f] at q
        refine ⟨by rw [rs.length]; exact fits_le f, fun p n => ?_⟩
        obtain ⟨a1, a2, a3⟩ := g1.1.alloc (ho := .lst vs) n
        exact q _ _ ⟨p, _, rfl, rfl, a3, a1, g1.2.trans a2, vs, upd_same, rs.mono a2⟩
      · have q : ResO hox X.K X.mg W c s σ H Q (if fits ds.length = true then .ok (.own (.lst ds)) s1 else .bad) := q
        rw [if_neg f] at q; exact q.elim
    | exc y s1 => rw [e1] at q; exact q
    | bad => rw [e1] at q; exact q⟩
/-! calls of built-ins -/
theorem sd_callB {id : String} {r : List V → Hp → VK → Prop} {g : List D → Option D} (hg : RCS X.K X.mg r g) (hc : CallR X (.builtin id) r) (hG : Gl X x) (hm : X.mg x = none) (hv : bootBuiltins x = some (.builtin id)) (ha : SL hox X W (e :: es) ml)
    (hn : x ≠ "__name__" := by decide) (hdb : (x == ("__debug__" : Str)) = false := by decide)
    (he : starEach (e :: es) X.env = (false, eval e X.env) :: starEach es X.env := by rfl) (hpl : (backTo pos (starEach es X.env)).any (·.1) = false := by rfl) : SD hox X W (.Call (.Name x p) (e :: es) [] pos) (mApp g ml) :=
  PE.imp (pe_callB hc hG hm hv ha hn hdb he hpl) fun σ H Q ⟨c, s, st, q⟩ => ⟨c, s, st, q.split.imp fun ds s1 H1 g1 q1 vs rs => by
    cases e : g ds with
    | none => unfold o2 at q1; simp only [e] at q1; exact q1.elim
    | some dz =>
      unfold o2 at q1; simp only [e] at q1
      exact hg _ H1 _ ds dz Q (st_hid g1.1) rs e fun z H' sm rz => q1 H' (.grow g1.1 sm) z rz⟩
theorem sd_callT {T : String} {r : List V → Hp → VK → Prop} {g : List D → Option D} (hg : RCS X.K X.mg r g) (hc : CallR X (.type T) r) (hG : Gl X x) (hm : X.mg x = none) (hv : bootBuiltins x = some (.type T)) (ha : SL hox X W (e :: es) ml)
    (hn : x ≠ "__name__" := by decide) (hdb : (x == ("__debug__" : Str)) = false := by decide)
    (he : starEach (e :: es) X.env = (false, eval e X.env) :: starEach es X.env := by rfl) (hpl : (backTo pos (starEach es X.env)).any (·.1) = false := by rfl) : SD hox X W (.Call (.Name x p) (e :: es) [] pos) (mApp g ml) :=
  PE.imp (pe_callTy hc hG hm hv ha hn hdb he hpl) fun σ H Q ⟨c, s, st, q⟩ => ⟨c, s, st, q.split.imp fun ds s1 H1 g1 q1 vs rs => by
    cases e : g ds with
    | none => unfold o2 at q1; simp only [e] at q1; exact q1.elim
    | some dz =>
      unfold o2 at q1; simp only [e] at q1
      exact hg _ H1 _ ds dz Q (st_hid g1.1) rs e fun z H' sm rz => q1 H' (.grow g1.1 sm) z rz⟩
end
end Den

set_option Elab.async false
set_option linter.all false
set_option maxRecDepth 100000
set_option maxHeartbeats 4000000
namespace Den
variable {hox : Option Addr}
open PySem PySem.Spec PyProof.Rows L2

/-! ### statements -/
inductive Fl where
  | nx | rt (r : Sl) | bk | ct
abbrev MS := S → Out Fl
section
variable (hox : Option Addr) (K : PySem.W.Frag) (mg : Str → Option Value) (W : WX)
def ResS (c : Ct) (s : S) (σ : St) (H : Hp) (D : Ends) : Out Fl → Prop
  | .ok .nx s' => ∀ σ' H', Go hox K mg c s σ H s' σ' H' → D.nx σ' H'
  | .ok (.rt r) s' => ∀ v σ' H', GoR hox K mg c s σ H s' σ' H' v r → D.rt v H'
  | .ok .bk s' => ∀ σ' H', Go hox K mg c s σ H s' σ' H' → D.bk σ' H'
  | .ok .ct s' => ∀ σ' H', Go hox K mg c s σ H s' σ' H' → D.ct σ' H'
  | .exc x s' => ∀ cls dd σ' H', Go hox K mg c s σ H s' σ' H' → ExcR K mg (vis c s' σ' H') cls dd x → W cls dd σ' H'
  | .bad => False
def tS (m : MS) : TS := fun D σ H => ∃ c s, StR hox K mg c s σ H ∧ ResS hox K mg W c s σ H D (m s)
end
abbrev SS (hox : Option Addr) (X : Cx) (W : WX) (st : Stmt) (m : MS) : Prop := PS X st (tS hox X.K X.mg W m)
abbrev SSs (hox : Option Addr) (X : Cx) (W : WX) (st : List Stmt) (m : MS) : Prop := PSs X st (tS hox X.K X.mg W m)
section
variable {K : PySem.W.Frag} {mg : Str → Option Value} {W : WX} {c : Ct} {s s' s1 : S} {σ σ' σ1 : St} {H H' H1 : Hp} {D D' : Ends} {r : Out Fl}
theorem GoR.pre {v : V} {r : Sl} (g : Go hox K mg c s σ H s1 σ1 H1) (h : GoR hox K mg c s1 σ1 H1 s' σ' H' v r) : GoR hox K mg c s σ H s' σ' H' v r := by
  cases r with
  | val d => exact ⟨g.trans h.1, h.2⟩
  | own o =>
    obtain ⟨p, ho, e, hz, n, st, l, q⟩ := h
    exact ⟨p, ho, e, hz, n, st, g.2.trans l, q⟩
  | bor o => exact h
theorem ResS.after (h : ResS hox K mg W c s σ H D r) (g : Go hox K mg c s σ H s1 σ1 H1) : ResS hox K mg W c s1 σ1 H1 D r := by
  cases r with
  | ok f s' =>
    cases f with
    | nx => exact fun σ' H' g' => h σ' H' (g.trans g')
    | rt r => exact fun v σ' H' g' => h v σ' H' (g'.pre g)
    | bk => exact fun σ' H' g' => h σ' H' (g.trans g')
    | ct => exact fun σ' H' g' => h σ' H' (g.trans g')
  | exc x s' => exact fun cls dd σ' H' g' => h cls dd σ' H' (g.trans g')
  | bad => exact h
/-- an expression ahead of what follows -/
theorem ResS.split {α : Type} {o : Out α} {k : α → S → Out Fl} (h : ResS hox K mg W c s σ H D (o.bind k)) : Res hox K mg c s σ H W (fun a s1 H1 => ResS hox K mg W c s1 σ H1 D (k a s1)) o := by
  cases o with
  | ok a s1 => exact fun H1 g => ResS.after (r := k a s1) h g
  | exc x s' => exact fun cls dd H' g' => h cls dd σ H' g'
  | bad => exact h
theorem ResS.splitO {o : Out Sl} {k : Sl → S → Out Fl} (h : ResS hox K mg W c s σ H D (o.bind k)) : ResO hox K mg W c s σ H (fun v H1 => ∃ r s1, o = .ok r s1 ∧ GoR hox K mg c s σ H s1 σ H1 v r ∧ ResS hox K mg W c s σ H D (k r s1)) o := by
  cases o with
  | ok r s1 => exact fun v H1 g => ⟨r, s1, rfl, g, h⟩
  | exc x s' => exact fun cls dd H' g' => h cls dd σ H' g'
  | bad => exact h
end
def mSeq (a b : MS) : MS := fun s => (a s).bind fun f s1 => match f with
  | .nx => b s1
  | .rt r => .ok (.rt r) s1
  | .bk => .ok .bk s1
  | .ct => .ok .ct s1
def mNx : MS := fun s => .ok .nx s
section
variable {X : Cx} {W : WX} {st : Stmt} {rest : List Stmt} {a b : MS} {e : Expr} {m : MD} {mo : MO} {pos : Pos} {x : Str} {ml : ML}
theorem ss_nil : SSs hox X W [] mNx := PSs.imp pss_nil fun D σ H ⟨c, s, st, q⟩ => q σ H (.refl st)
theorem seq_imp {K : PySem.W.Frag} {mg : Str → Option Value} {D : Ends} {σ : St} {H : Hp} (h : tS hox K mg W (mSeq a b) D σ H) : tS hox K mg W a { D with nx := tS hox K mg W b D } σ H := by
  obtain ⟨c, s, st, q⟩ := h
  refine ⟨c, s, st, ?_⟩
  unfold mSeq at q
  cases e : a s with
  | ok f s1 =>
    rw [e] at q
    cases f with
    | nx => exact fun σ' H' g => ⟨c, s1, g.1, ResS.after (r := b s1) q g⟩
    | rt r => exact q
    | bk => exact q
    | ct => exact q
  | exc y s1 => rw [e] at q; exact q
  | bad => rw [e] at q; exact q
theorem ss_cons (h1 : SS hox X W st a) (h2 : SSs hox X W rest b) : SSs hox X W (st :: rest) (mSeq a b) := PSs.imp (pss_cons h1 h2) fun D σ H h => seq_imp h
theorem ss_one (h1 : SS hox X W st a) : SSs hox X W [st] a := pss_one h1
def mDrop (m : MO) : MS := fun s => (m s).bind fun _ s1 => .ok .nx s1
theorem GoR.go {K : PySem.W.Frag} {mg : Str → Option Value} {c : Ct} {s s' : S} {σ σ' : St} {H H' : Hp} {v : V} {r : Sl} (g : GoR hox K mg c s σ H s' σ' H' v r) : Go hox K mg c s σ H s' σ' H' := by
  cases r with
  | val d => exact g.1
  | own o =>
    obtain ⟨p, ho, e, _, n, st, l, q⟩ := g
    exact ⟨st.unext, l.trans vis_unext⟩
  | bor o => exact g.elim
theorem ResO.imp {K : PySem.W.Frag} {mg : Str → Option Value} {W : WX} {c : Ct} {s : S} {σ : St} {H : Hp} {Q Q' : VK} {r : Out Sl} (h : ResO hox K mg W c s σ H Q r) (i : ∀ v H', Q v H' → Q' v H') : ResO hox K mg W c s σ H Q' r := by
  cases r with
  | ok r s1 => exact fun v H' g => i _ _ (h v H' g)
  | exc y s1 => exact h
  | bad => exact h
theorem ss_expr (he : SO hox X W e mo) (hs : swapsWith e none pos.line X.env = pure false := by rfl) : SS hox X W (.Expr e pos) (mDrop mo) :=
  PS.imp (ps_expr he hs) fun D σ H ⟨c, s, st, q⟩ => ⟨c, s, st, (ResS.splitO q).imp fun v H1 ⟨r, s1, e1, g, q1⟩ => q1 σ H1 g.go⟩
def mRet (m : MO) : MS := fun s => (m s).bind fun r s1 => .ok (.rt r) s1
theorem ss_ret (he : SO hox X W e mo) : SS hox X W (.Return (some e) pos) (mRet mo) :=
  PS.imp (ps_ret he) fun D σ H ⟨c, s, st, q⟩ => ⟨c, s, st, (ResS.splitO q).imp fun v H1 ⟨r, s1, e1, g, q1⟩ => q1 v σ H1 g⟩
def mTake (i : Nat) : MO := fun s => match s[i]? with
  | some (some (.val d)) => .ok (.val d) s
  | some (some (.own o)) => if o.sub.isEmpty = true then .ok (.own o) (s.set i none) else .bad
  | _ => .bad
def mRetN : MS := fun s => .ok (.rt (.val .non)) s
def mIfS (t : MB) (a b : MS) : MS := fun s => (t s).bind fun k s1 => if k = true then a s1 else b s1
theorem ss_if {t : Expr} {sa sb : List Stmt} {mt : MB} (ht : SB hox X W t mt) (ha : SSs hox X W sa a) (hb : SSs hox X W sb b) : SS hox X W (.If t sa sb pos) (mIfS mt a b) :=
  PS.imp (ps_if ht ha hb) fun D σ H ⟨c, s, st, q⟩ => ⟨c, s, st, (ResS.split q).imp fun k s1 H1 g q1 => by
    cases k with
    | true => rw [if_pos rfl] at q1 ⊢; exact ⟨c, s1, g.1, q1⟩
    | false => rw [if_neg Bool.false_ne_true] at q1 ⊢; exact ⟨c, s1, g.1, q1⟩⟩
/-- x = e -/
def put (i : Nat) (r : Sl) (s : S) : Out Fl := match r with
  | .bor _ => .bad
  | r => if free s i = true then .ok .nx (s.set i (some r)) else .bad
def mSet (i : Nat) (m : MO) : MS := fun s => (m s).bind fun r s1 => put i r s1
theorem put_ok {K : PySem.W.Frag} {mg : Str → Option Value} {W : WX} {c : Ct} {s s1 : S} {σ : St} {H H1 : Hp} {v : V} {r : Sl} {i : Nat} {D : Ends} (g : GoR hox K mg c s σ H s1 σ H1 v r) (q : ResS hox K mg W c s σ H D (put i r s1)) : D.nx (σ.set i (some v)) H1 := by
  unfold put at q
  cases r with
  | val d =>
    simp only at q
    by_cases f : free s1 i = true
    · rw [if_pos f] at q
      exact q _ _ (g.1.trans (g.1.1.put f _ _ (fun d' e => by cases e; exact ⟨v, rfl, g.2⟩) (.inl ⟨d, rfl⟩)))
    · rw [if_neg f] at q; exact q.elim
  | own o =>
    simp only at q
    by_cases f : free s1 i = true
    · rw [if_pos f] at q
      obtain ⟨p, ho, rfl, hz, n, st, l, r⟩ := g
      obtain ⟨st2, l2⟩ := st.take n r f hz
      exact q _ _ ⟨st2, l.trans l2⟩
    · rw [if_neg f] at q; exact q.elim
  | bor o => exact q.elim
theorem ss_set (i : Nat) {pos' : Pos} (hN : X.N.Nodup) (he : SO hox X W e mo) (hi : X.N[i]? = some x := by rfl) (hx : Loc X.env.scope x := by first | exact Or.inl rfl | exact Or.inr rfl) (hs : swapsWith e (some (.Name x pos')) pos.line X.env = pure false := by rfl) (hf : X.fn x = true ∨ X.env.scope.names.lookup x = some .local := by first | exact .inl rfl | exact .inr rfl | assumption) :
    SS hox X W (.Assign [.Name x pos'] e pos) (mSet i mo) :=
  PS.imp (ps_set hN hi hx he hs hf) fun D σ H ⟨c, s, st, q⟩ => ⟨c, s, st, (ResS.splitO q).imp fun v H1 ⟨r, s1, e1, g, q1⟩ => put_ok g q1⟩
/-- a, b = e1, e2 -/
def mPar (i j : Nat) (l : ML) : MS := fun s => (l s).bind fun ds s1 => match ds with
  | [d, e] => if free s1 i = true ∧ free s1 j = true then .ok .nx ((s1.set i (some (.val d))).set j (some (.val e))) else .bad
  | _ => .bad
/-! targets -/
abbrev MG := D → S → Option S
def tG (hox : Option Addr) (K : PySem.W.Frag) (mg : Str → Option Value) (js : List Nat) (g : MG) : TG := fun v σ H Q => ∃ c s d, StR hox K mg c s σ H ∧ Rep K mg (vis c s σ H) v d ∧ ∃ s', g d s = some s' ∧ ∀ σ' H', Go hox K mg c s σ H s' σ' H' → σ'.length = σ.length → (∀ j, j ∉ js → σ'[j]? = σ[j]?) → Q σ' H'
abbrev SG (hox : Option Addr) (X : Cx) (js : List Nat) (tg : Expr) (g : MG) : Prop := PG X tg (tG hox X.K X.mg js g)
def gN (i : Nat) : MG := fun d s => if free s i = true then some (s.set i (some (.val d))) else none
theorem sg_name (i : Nat) (hN : X.N.Nodup) (hi : X.N[i]? = some x := by rfl) (hx : Loc X.env.scope x := by first | exact Or.inl rfl | exact Or.inr rfl) (hf : X.fn x = true ∨ X.env.scope.names.lookup x = some .local := by first | exact .inl rfl | exact .inr rfl | assumption) : SG hox X [i] (.Name x pos) (gN i) :=
  PG.imp (pg_name hN hi hx hf) fun v σ H Q ⟨c, s, d, st, r, s', e, q⟩ => by
    unfold gN at e
    by_cases f : free s i = true
    · rw [if_pos f] at e
      cases e
      refine q _ _ (st.put f _ _ (fun d' e => by cases e; exact ⟨v, rfl, r⟩) (.inl ⟨d, rfl⟩)) (by rw [List.length_set]) fun j hj => ?_
      rw [List.getElem?_set_ne (fun z => hj (by rw [z]; exact List.mem_singleton_self _))]
    · rw [if_neg f] at e; cases e
abbrev MGs := List D → S → Option S
def tGs (hox : Option Addr) (K : PySem.W.Frag) (mg : Str → Option Value) (js : List Nat) (g : MGs) : TGs := fun vs σ H Q => ∃ c s ds, StR hox K mg c s σ H ∧ RepL K mg (vis c s σ H) vs ds ∧ ∃ s', g ds s = some s' ∧ ∀ σ' H', Go hox K mg c s σ H s' σ' H' → σ'.length = σ.length → (∀ j, j ∉ js → σ'[j]? = σ[j]?) → Q σ' H'
abbrev SGs (hox : Option Addr) (X : Cx) (js : List Nat) (tg : List Expr) (g : MGs) : Prop := PGs X tg (tGs hox X.K X.mg js g)
theorem PGs.imp {X : Cx} {tg : List Expr} {t t' : TGs} (h : PGs X tg t) (i : ∀ v σ H Q, t' v σ H Q → t v σ H Q) : PGs X tg t' := ⟨fun pins s σ H v u Q I r q => h.run pins s σ H v u Q I r (i v σ H Q q)⟩
def gsNil : MGs := fun ds s => match ds with
  | [] => some s
  | _ => none
def gsCons (g : MG) (r : MGs) : MGs := fun ds s => match ds with
  | d :: ds => (g d s).bind fun s1 => r ds s1
  | [] => none
def gT (n : Nat) (g : MGs) : MG := fun d s => match d with
  | .tup ds => if ds.length = n then g ds s else none
  | _ => none
def mAsg (m : MD) (g : MG) : MS := fun s => (m s).bind fun d s1 => match g d s1 with
  | some s2 => .ok .nx s2
  | none => .bad
/-! for -/
abbrev MI := S → Out (List D)
def ItOk (K : PySem.W.Frag) (mg : Str → Option Value) (J : It) (G : Hp) (ds : List D) : Prop :=
  (∀ (i : Nat) d (h : Addr → Prop) H1, ds[i]? = some d → (∀ p, h p → ∃ o, H1 p = some o) → Le G (hid h H1) → J.go i H1 ∧ ∀ x H', J.yld i H1 x H' → Same H1 H' ∧ Rep K mg (hid h H') x d) ∧
  ∀ (h : Addr → Prop) H1, Le G (hid h H1) → J.stop ds.length H1
def tI (hox : Option Addr) (K : PySem.W.Frag) (mg : Str → Option Value) (W : WX) (m : MI) : TI := fun σ H R => ∃ c s, StR hox K mg c s σ H ∧ Res hox K mg c s σ H W (fun ds s' H' => ∀ J, ItOk K mg J (vis c s' σ H') ds → R J H') (m s)
abbrev SI (hox : Option Addr) (X : Cx) (W : WX) (tg iter : Expr) (m : MI) : Prop := PI X tg iter (tI hox X.K X.mg W m)
def loop (g : MG) (b : MS) : List D → S → Out Fl
  | [], s => .ok .nx s
  | d :: ds, s => match g d s with
    | none => .bad
    | some s1 => match b s1 with
      | .ok .nx s2 => loop g b ds s2
      | .ok .ct s2 => loop g b ds s2
      | .ok .bk s2 => .ok .nx s2
      | .ok (.rt r) s2 => .ok (.rt r) s2
      | .exc x s2 => .exc x s2
      | .bad => .bad
def mFor (mi : MI) (g : MG) (b : MS) : MS := fun s => (mi s).bind fun ds s1 => loop g b ds s1
theorem ss_for {js : List Nat} {tg iter : Expr} {body : List Stmt} {mi : MI} {g : MG} {b : MS} (hp : PassesOwn (model X.prog X.w) X.A X.env X.xe) (hc : X.calm = true) (hi : SI hox X W tg iter mi) (hg : SG hox X js tg g) (hb : SSs hox X W body b)
    (hs : ∀ x, foldedSetIterable iter X.env x = pure x := by intro _; rfl) : SS hox X W (.For tg iter body [] pos) (mFor mi g b) :=
  PS.imp (ps_for hp hc hi hg hb hs) fun D σ H ⟨c, s, st, q⟩ => ⟨c, s, st, (ResS.split q).imp fun ds s1 H1 g1 q1 J hJ => by
    refine ⟨fun i m σ' H' => m = ds.length - i ∧ i ≤ ds.length ∧ ∃ t, StR hox X.K X.mg c t σ' H' ∧ Le (vis c s1 σ H1) (vis c t σ' H') ∧ ResS hox X.K X.mg W c t σ' H' D (loop g b (ds.drop i) t),
      ⟨ds.length, by simp, Nat.zero_le _, s1, g1.1, Le.refl _, q1⟩, ?_⟩
    rintro i m σ2 H2 ⟨rfl, hi, t, st2, l2, q2⟩
    by_cases hlt : i < ds.length
    · refine .inr ?_
      have hd : ds[i]? = some ds[i] := List.getElem?_eq_getElem hlt
      obtain ⟨go, yld⟩ := hJ.1 i ds[i] (Den.hs c t σ2) H2 hd (fun p h => st2.hidden h) l2
      have ed : ds.drop i = ds[i] :: ds.drop (i + 1) := by rw [List.drop_eq_getElem_cons hlt]
      rw [ed] at q2
      refine ⟨go, fun σ' H' => ∃ t', StR hox X.K X.mg c t' σ' H' ∧ Le (vis c s1 σ H1) (vis c t' σ' H') ∧ ResS hox X.K X.mg W c t' σ' H' D (loop g b (ds.drop (i + 1)) t'), fun σ' H' ⟨t', a1, a2, a3⟩ => ⟨ds.length - (i + 1), by omega, rfl, hlt, t', a1, a2, a3⟩, fun x H' y => ?_⟩
      obtain ⟨sm, rx⟩ := yld x H' y
      have g2 := Go.grow st2 sm
      refine ⟨c, t, ds[i], g2.1, rx, ?_⟩
      unfold loop at q2
      cases e1 : g ds[i] t with
      | none => simp only [e1] at q2; exact q2.elim
      | some s3 =>
        simp only [e1] at q2
        refine ⟨s3, rfl, fun σ3 H3 g3 _ _ => ⟨c, s3, g3.1, ?_⟩⟩
        have gg := g2.trans g3
        cases e2 : b s3 with
        | ok f s4 =>
          simp only [e2] at q2
          cases f with
          | nx => exact fun σ4 H4 g4 => ⟨s4, g4.1, l2.trans (gg.trans g4).2, q2.after (gg.trans g4)⟩
          | ct => exact fun σ4 H4 g4 => ⟨s4, g4.1, l2.trans (gg.trans g4).2, q2.after (gg.trans g4)⟩
          | bk => exact fun σ4 H4 g4 => q2 σ4 H4 (gg.trans g4)
          | rt r => exact fun v σ4 H4 g4 => q2 v σ4 H4 (g4.pre gg)
        | exc y s4 => simp only [e2] at q2; exact fun cls dd σ4 H4 g4 => q2 cls dd σ4 H4 (gg.trans g4)
        | bad => simp only [e2] at q2; exact q2.elim
    · have e : i = ds.length := by omega
      subst e
      rw [List.drop_length] at q2
      exact .inl ⟨hJ.2 _ H2 l2, q2 σ2 H2 (.refl st2)⟩⟩
/-! while -/
def wloop (t : MB) (b : MS) : Nat → S → Out Fl
  | 0, _ => .bad
  | n + 1, s => match t s with
    | .ok true s1 => match b s1 with
      | .ok .nx s2 => wloop t b n s2
      | .ok .ct s2 => wloop t b n s2
      | .ok .bk s2 => .ok .nx s2
      | .ok (.rt r) s2 => .ok (.rt r) s2
      | .exc x s2 => .exc x s2
      | .bad => .bad
    | .ok false s1 => .ok .nx s1
    | .exc x s1 => .exc x s1
    | .bad => .bad
def mWhile (t : MB) (b : MS) (fuel : S → Nat) : MS := fun s => wloop t b (fuel s) s
end
end Den

set_option Elab.async false
set_option linter.all false
set_option maxRecDepth 100000
set_option maxHeartbeats 4000000
namespace Den
variable {hox : Option Addr}
open PySem PySem.Spec PyProof.Rows L2

section
variable {K : PySem.W.Frag} {mg : Str → Option Value} {G G' H H' : Hp} {c : Ct} {s s' t : S} {σ σ' τ : St} {p : Addr} {o : O} {i : Nat}
theorem RepL.get : ∀ {i : Nat} {xs : List V} {ds : List D} {d : D}, RepL K mg G xs ds → ds[i]? = some d → ∃ x, xs[i]? = some x ∧ Rep K mg G x d
  | _, _, [], _, _, e => by simp at e
  | 0, _, d :: ds, _, h, e => by
    cases h with
    | cons a b =>
      rw [List.getElem?_cons_zero] at e
      cases e
      exact ⟨_, rfl, a⟩
  | i + 1, _, d :: ds, d', h, e => by
    cases h with
    | cons a b =>
      rw [List.getElem?_cons_succ] at e
      obtain ⟨x, e1, r⟩ := RepL.get (i := i) b e
      exact ⟨x, by rw [List.getElem?_cons_succ]; exact e1, r⟩
/-- slots that hold no object may be changed -/
theorem StR.swap (x : StR hox K mg c t τ H) (hl : s'.length = t.length) (hl2 : σ'.length = τ.length)
    (h : ∀ j : Nat, (s'[j]? = t[j]? ∧ σ'[j]? = τ[j]?) ∨ ((∀ o, t[j]? ≠ some (some (.own o)) ∧ t[j]? ≠ some (some (.bor o))) ∧
      (s'[j]? = some none ∨ ∃ d v, s'[j]? = some (some (.val d)) ∧ σ'[j]? = some (some v) ∧ Rep K mg (vis c t τ H) v d))) :
    StR hox K mg c s' σ' H ∧ (∀ b, hs c s' σ' b ↔ hs c t τ b) := by
  have own1 : ∀ (j : Nat) o, s'[j]? = some (some (.own o)) → t[j]? = some (some (.own o)) ∧ σ'[j]? = τ[j]? := fun j o e => by
    rcases h j with ⟨e1, e2⟩ | ⟨_, e1 | ⟨d, v, e1, _⟩⟩
    · exact ⟨e1 ▸ e, e2⟩
    · rw [e] at e1; cases e1
    · rw [e] at e1; cases e1
  have own2 : ∀ (j : Nat) o, t[j]? = some (some (.own o)) → s'[j]? = some (some (.own o)) ∧ σ'[j]? = τ[j]? := fun j o e => by
    rcases h j with ⟨e1, e2⟩ | ⟨n, _⟩
    · exact ⟨e1.trans e, e2⟩
    · exact absurd e (n o).1
  have bor1 : ∀ (j : Nat) o, s'[j]? = some (some (.bor o)) → t[j]? = some (some (.bor o)) ∧ σ'[j]? = τ[j]? := fun j o e => by
    rcases h j with ⟨e1, e2⟩ | ⟨_, e1 | ⟨d, v, e1, _⟩⟩
    · exact ⟨e1 ▸ e, e2⟩
    · rw [e] at e1; cases e1
    · rw [e] at e1; cases e1
  have bor2 : ∀ (j : Nat) o, t[j]? = some (some (.bor o)) → s'[j]? = some (some (.bor o)) := fun j o e => by
    rcases h j with ⟨e1, e2⟩ | ⟨n, _⟩
    · exact e1.trans e
    · exact absurd e (n o).2
  have hh : ∀ b, hs c s' σ' b ↔ hs c t τ b := fun b => by
    constructor
    · rintro (z | z | ⟨j, o, q, e1, e2, f⟩)
      · exact .inl z
      · exact .inr (.inl z)
      · obtain ⟨a1, a2⟩ := own1 j o e1
        exact .inr (.inr ⟨j, o, q, a1, a2 ▸ e2, f⟩)
    · rintro (z | z | ⟨j, o, q, e1, e2, f⟩)
      · exact .inl z
      · exact .inr (.inl z)
      · obtain ⟨a1, a2⟩ := own2 j o e1
        exact .inr (.inr ⟨j, o, q, a1, a2.trans e2, f⟩)
  have l : Le (vis c t τ H) (vis c s' σ' H) := hid_le fun b o n e => ⟨fun z => n ((hh b).mp z), e⟩
  refine ⟨⟨by rw [hl, hl2]; exact x.len, fun j d e => ?_, fun j o e => ?_, fun j o e => ?_, fun j q e => ?_, fun j k oi oj p q b e1 e2 e3 e4 f1 f2 => ?_, fun j k oi oj p q b e1 e2 => x.bun j k oi oj p q b (bor1 j oi e1).1 (bor1 k oj e2).1, fun b z => ?_, x.keep, x.act, fun q u hq => ?_, x.hot⟩, hh⟩
  · rcases h j with ⟨e1, e2⟩ | ⟨n, e1 | ⟨d', v, e1, e2, r⟩⟩
    · obtain ⟨v, a1, r⟩ := x.val j d (e1 ▸ e)
      exact ⟨v, e2.trans a1, r.mono l⟩
    · rw [e] at e1; cases e1
    · rw [e] at e1; cases e1
      exact ⟨v, e2, r.mono l⟩
  · obtain ⟨a1, a2⟩ := own1 j o e
    obtain ⟨q, e1, m, r⟩ := x.own j o a1
    exact ⟨q, a2.trans e1, m, r.mono l fun _ _ _ h => h⟩
  · obtain ⟨a1, a2⟩ := bor1 j o e
    obtain ⟨q, e1, m, z, r⟩ := x.bor j o a1
    exact ⟨q, a2.trans e1, m, z, r.mono l fun _ _ _ h => h⟩
  · obtain ⟨a, o, e'⟩ := x.brw j q e
    exact ⟨a, o, bor2 j o e'⟩
  · obtain ⟨a1, a2⟩ := own1 j oi e1
    obtain ⟨b1, b2⟩ := own1 k oj e2
    exact x.uni j k oi oj p q b a1 b1 (a2 ▸ e3) (b2 ▸ e4) f1 f2
  · obtain ⟨j, o, p, e, eb, f⟩ := x.lnt b z
    exact ⟨j, o, p, bor2 j o e, eb, f⟩
  · obtain ⟨h1, h2, h3, h4⟩ := x.tmp q u hq
    refine ⟨h1, h2, h3, fun j o p e1 e2 f => ?_⟩
    obtain ⟨a1, a2⟩ := own1 j o e1
    exact h4 j o p a1 (a2 ▸ e2) f
end
/-! ### comprehensions -/
def wipeS (s : S) : List Nat → S
  | [] => s
  | v :: vs => (wipeS s vs).set v none
def plainAt (s : S) (v : Nat) : Bool := match s[v]? with
  | some (some (.val _)) => true
  | some none => true
  | _ => false
def restore (t s : S) : List Nat → S
  | [] => t
  | v :: vs => (restore t s vs).set v (s[v]?.getD none)
theorem wipeS_length (s : S) : ∀ vs, (wipeS s vs).length = s.length
  | [] => rfl
  | v :: vs => by unfold wipeS; rw [List.length_set, wipeS_length s vs]
theorem restore_length (t s : S) : ∀ vs, (restore t s vs).length = t.length
  | [] => rfl
  | v :: vs => by unfold restore; rw [List.length_set, restore_length t s vs]
theorem wipe_at {α : Type} (f : List (Option α) → List Nat → List (Option α)) (h0 : ∀ s, f s [] = s) (h1 : ∀ s v vs, f s (v :: vs) = (f s vs).set v none) (s : List (Option α)) (j : Nat) :
    ∀ vs, (j ∈ vs → j < s.length → (f s vs)[j]? = some none) ∧ (j ∉ vs → (f s vs)[j]? = s[j]?) ∧ (f s vs).length = s.length
  | [] => ⟨by simp, fun _ => by rw [h0], by rw [h0]⟩
  | v :: vs => by
    obtain ⟨a, b, l⟩ := wipe_at f h0 h1 s j vs
    rw [h1]
    refine ⟨fun hj lt => ?_, fun hj => ?_, by rw [List.length_set]; exact l⟩
    · by_cases e : v = j
      · subst e; rw [List.getElem?_set_self (by omega)]
      · rw [List.getElem?_set_ne e]
        exact a ((List.mem_cons.mp hj).resolve_left (fun z => e z.symm)) lt
    · rw [List.getElem?_set_ne (fun z => hj (by rw [z]; exact List.mem_cons_self))]
      exact b (fun z => hj (List.mem_cons_of_mem _ z))
theorem wipeS_at (s : S) (j : Nat) (vs : List Nat) : (j ∈ vs → j < s.length → (wipeS s vs)[j]? = some none) ∧ (j ∉ vs → (wipeS s vs)[j]? = s[j]?) :=
  let h := wipe_at wipeS (fun _ => rfl) (fun _ _ _ => rfl) s j vs; ⟨h.1, h.2.1⟩
theorem wipeV_at (s : St) (j : Nat) (vs : List Nat) : (j ∈ vs → j < s.length → (wipe s vs)[j]? = some none) ∧ (j ∉ vs → (wipe s vs)[j]? = s[j]?) :=
  let h := wipe_at wipe (fun _ => rfl) (fun _ _ _ => rfl) s j vs; ⟨h.1, h.2.1⟩
theorem restore_at (t s : S) (j : Nat) : ∀ vs, (j ∈ vs → j < t.length → (restore t s vs)[j]? = some (s[j]?.getD none)) ∧ (j ∉ vs → (restore t s vs)[j]? = t[j]?)
  | [] => ⟨by simp, fun _ => rfl⟩
  | v :: vs => by
    obtain ⟨a, b⟩ := restore_at t s j vs
    unfold restore
    refine ⟨fun hj lt => ?_, fun hj => ?_⟩
    · by_cases e : v = j
      · subst e; rw [List.getElem?_set_self (by rw [restore_length]; exact lt)]
      · rw [List.getElem?_set_ne e]
        exact a ((List.mem_cons.mp hj).resolve_left (fun z => e z.symm)) lt
    · rw [List.getElem?_set_ne (fun z => hj (by rw [z]; exact List.mem_cons_self))]
      exact b (fun z => hj (List.mem_cons_of_mem _ z))
theorem wipe_eq {σ τ : St} {vs : List Nat} (l : σ.length = τ.length) (h : ∀ j, j ∉ vs → σ[j]? = τ[j]?) : wipe σ vs = wipe τ vs := by
  apply List.ext_getElem?
  intro j
  by_cases hj : j ∈ vs
  · by_cases lt : j < τ.length
    · rw [(wipeV_at σ j vs).1 hj (by omega), (wipeV_at τ j vs).1 hj lt]
    · rw [List.getElem?_eq_none (by rw [wipe_length]; omega), List.getElem?_eq_none (by rw [wipe_length]; omega)]
  · rw [(wipeV_at σ j vs).2 hj, (wipeV_at τ j vs).2 hj, h j hj]
theorem plain_not {s : S} {v : Nat} (h : plainAt s v = true) : ∀ o, s[v]? ≠ some (some (.own o)) ∧ s[v]? ≠ some (some (.bor o)) := fun o => by
  unfold plainAt at h
  refine ⟨fun z => ?_, fun z => ?_⟩
  · rw [z] at h; cases h
  · rw [z] at h; cases h
def cloop (vs : List Nat) (g : MG) (tt : MB) (te : MD) : List D → S → Out (List D)
  | [], s => .ok [] s
  | d :: ds, s => match g d s with
    | none => .bad
    | some s1 => match tt s1 with
      | .ok true s2 => match te s2 with
        | .ok y s3 => if vs.all (plainAt s3) = true then match cloop vs g tt te ds (wipeS s3 vs) with
          | .ok ys s4 => .ok (y :: ys) s4
          | _ => .bad
          else .bad
        | _ => .bad
      | .ok false s2 => if vs.all (plainAt s2) = true then cloop vs g tt te ds (wipeS s2 vs) else .bad
      | _ => .bad
def compOut (vs : List Nat) (g : MG) (tt : MB) (te : MD) (ds : List D) (s1 : S) : Out Sl :=
  if vs.all (plainAt s1) = true then match cloop vs g tt te ds (wipeS s1 vs) with
    | .ok zs t => if fits zs.length = true then .ok (.own (.lst zs)) (restore t s1 vs) else .bad
    | _ => .bad
  else .bad
def mComp (vs : List Nat) (mi : MI) (g : MG) (tt : MB) (te : MD) : MO := fun s => (mi s).bind fun ds s1 => compOut vs g tt te ds s1
abbrev STs (hox : Option Addr) (X : Cx) (W : WX) (ifs : List Expr) (m : MB) : Prop := PTs X ifs (tB hox X.K X.mg W m)
def bYes : MB := fun s => .ok true s
abbrev W0 : WX := fun _ _ _ _ => False
theorem PTs.imp {X : Cx} {e : List Expr} {t t' : TT} (h : PTs X e t) (i : ∀ σ H Q, t' σ H Q → t σ H Q) : PTs X e t' := ⟨fun pins s σ H Q I q => h.run pins s σ H Q I (i σ H Q q)⟩
section
variable {X : Cx} {W : WX}
theorem sts_nil : STs hox X W [] bYes := PTs.imp pts_nil fun σ H Q ⟨c, s, st, q⟩ => q H (.refl st)
theorem sts_one {e : Expr} {m : MB} (h : SB hox X W e m) : STs hox X W [e] m := pts_one h
/-- the slots of the block's own names -/
theorem StR.wiped {K : PySem.W.Frag} {mg : Str → Option Value} {H : Hp} {c : Ct} {s : S} {σ : St} {vs : List Nat} (x : StR hox K mg c s σ H) (h : vs.all (plainAt s) = true) :
    StR hox K mg c (wipeS s vs) (wipe σ vs) H ∧ (∀ b, hs c (wipeS s vs) (wipe σ vs) b ↔ hs c s σ b) := by
  refine x.swap (wipeS_length s vs) (wipe_length σ vs) fun j => ?_
  by_cases hj : j ∈ vs
  · by_cases lt : j < s.length
    · exact .inr ⟨plain_not (List.all_eq_true.mp h j hj), .inl ((wipeS_at s j vs).1 hj lt)⟩
    · refine .inl ⟨?_, ?_⟩
      · rw [List.getElem?_eq_none (by rw [wipeS_length]; omega), List.getElem?_eq_none (by omega)]
      · have := x.len
        rw [List.getElem?_eq_none (by rw [wipe_length]; omega), List.getElem?_eq_none (by omega)]
  · exact .inl ⟨(wipeS_at s j vs).2 hj, (wipeV_at σ j vs).2 hj⟩
theorem StR.unwiped {K : PySem.W.Frag} {mg : Str → Option Value} {H H1 : Hp} {c c1 : Ct} {s t : S} {σ : St} {vs : List Nat} (x : StR hox K mg c t (wipe σ vs) H) (y : StR hox K mg c1 s σ H1) (l : Le (vis c1 s σ H1) (vis c t (wipe σ vs) H)) (h : vs.all (plainAt s) = true)
    (h2 : vs.all (plainAt t) = true) : StR hox K mg c (restore t s vs) σ H ∧ (∀ b, hs c (restore t s vs) σ b ↔ hs c t (wipe σ vs) b) := by
  have hlen : σ.length = t.length := by have := x.len; rw [wipe_length] at this; exact this
  refine x.swap (restore_length t s vs) (by rw [wipe_length]) fun j => ?_
  by_cases hj : j ∈ vs
  · by_cases lt : j < t.length
    · refine .inr ⟨plain_not (List.all_eq_true.mp h2 j hj), ?_⟩
      have e := (restore_at t s j vs).1 hj lt
      have p := List.all_eq_true.mp h j hj
      unfold plainAt at p
      cases e1 : s[j]? with
      | none => rw [e1] at p; cases p
      | some w =>
        cases w with
        | none => rw [e1] at e; exact .inl e
        | some w =>
          cases w with
          | val d =>
            rw [e1] at e
            obtain ⟨v, a1, r⟩ := y.val j d e1
            exact .inr ⟨d, v, e, a1, r.mono l⟩
          | own o => rw [e1] at p; cases p
          | bor o => rw [e1] at p; cases p
    · refine .inl ⟨?_, ?_⟩
      · rw [List.getElem?_eq_none (by rw [restore_length]; omega), List.getElem?_eq_none (by omega)]
      · rw [List.getElem?_eq_none (by omega), List.getElem?_eq_none (by rw [wipe_length]; omega)]
  · exact .inl ⟨(restore_at t s j vs).2 hj, ((wipeV_at σ j vs).2 hj).symm⟩
theorem wiped_plain {vs : List Nat} {u : S} (hu : vs.all (plainAt u) = true) : vs.all (plainAt (wipeS u vs)) = true := List.all_eq_true.mpr fun j hj => by
  have p := List.all_eq_true.mp hu j hj
  have lt : j < u.length := by
    unfold plainAt at p
    cases e : u[j]? with
    | none => rw [e] at p; cases p
    | some w => exact (List.getElem?_eq_some_iff.mp e).1
  unfold plainAt
  rw [(wipeS_at u j vs).1 hj lt]
theorem Le.hsub {H : Hp} {h h' : Addr → Prop} (e : ∀ b, h' b → h b) : Le (hid h H) (hid h' H) := hid_le fun b o n q => ⟨fun z => n (e b z), q⟩
theorem lc_imp {K : PySem.W.Frag} {mg : Str → Option Value} {vs js : List Nat} {mi : MI} {g : MG} {tt : MB} {te : MD} {σ : St} {H : Hp} {Q : VK} (hj : ∀ j ∈ js, j ∈ vs) (hh : tO hox K mg W (mComp vs mi g tt te) σ H Q) :
    tLc (tI hox K mg W mi) (tG hox K mg js g) (tB hox K mg W0 tt) (tD hox K mg W0 te) vs σ H Q := by
  obtain ⟨c, s, st, q⟩ := hh
  refine ⟨c, s, st, ?_⟩
  have q : Res hox K mg c s σ H W (fun ds s1 H1 => ResO hox K mg W c s1 σ H1 Q (compOut vs g tt te ds s1)) (mi s) := by
    unfold mComp at q
    cases e1 : mi s with
    | ok ds s1 =>
      rw [e1] at q
      intro H1 g1
      have q : ResO hox K mg W c s σ H Q (compOut vs g tt te ds s1) := q
      cases e2 : compOut vs g tt te ds s1 with
      | ok r s2 => rw [e2] at q; exact fun v H' g' => q v H' (g'.pre g1)
      | exc y s2 => rw [e2] at q; exact fun cls dd H' g' => q cls dd H' (g1.trans g')
      | bad => rw [e2] at q; exact q
    | exc y s1 => rw [e1] at q; exact q
    | bad => rw [e1] at q; exact q
  refine q.imp fun ds s1 H1 g1 q1 J hJ D nD => ?_
  have st1 := g1.1
  unfold compOut at q1
  by_cases f : vs.all (plainAt s1) = true
  · rw [if_pos f] at q1
    cases e1 : cloop vs g tt te ds (wipeS s1 vs) with
    | ok ZS T =>
      simp only [e1] at q1
      by_cases fz : fits ZS.length = true
      · rw [if_pos fz] at q1
        obtain ⟨stA, lA, nA⟩ := st1.alloc (ho := .lst []) nD
        obtain ⟨stW, hW⟩ := stA.wiped f
        have lW : Le (vis (c.ext D (.lst [])) s1 σ (upd H1 D (.lst []))) (vis (c.ext D (.lst [])) (wipeS s1 vs) (wipe σ vs) (upd H1 D (.lst []))) := Le.hsub fun b z => (hW b).mp z
        have nW : ¬ hs c (wipeS s1 vs) (wipe σ vs) D := fun z => nA (by
          rcases z with z | z | ⟨j, o, q, e1, e2, f⟩
          · exact .inl z
          · exact .inr (.inl z)
          · by_cases hj : j ∈ vs
            · by_cases lt : j < s1.length
              · rw [(wipeS_at s1 j vs).1 hj lt] at e1; cases e1
              · rw [List.getElem?_eq_none (by rw [wipeS_length]; omega)] at e1; cases e1
            · rw [(wipeS_at s1 j vs).2 hj] at e1
              rw [(wipeV_at σ j vs).2 hj] at e2
              exact .inr (.inr ⟨j, o, q, e1, e2, f⟩))
        refine ⟨fun i m H' => m = ds.length - i ∧ i ≤ ds.length ∧ ∃ t acc xs, StR hox K mg (c.ext D (.lst xs)) t (wipe σ vs) H' ∧ ¬ hs c t (wipe σ vs) D ∧ Le (vis c s1 σ H1) (vis (c.ext D (.lst xs)) t (wipe σ vs) H') ∧ RepL K mg (vis (c.ext D (.lst xs)) t (wipe σ vs) H') xs acc ∧
          ∃ zs, cloop vs g tt te (ds.drop i) t = .ok zs T ∧ acc ++ zs = ZS ∧ vs.all (plainAt t) = true,
          ⟨ds.length, by simp, Nat.zero_le _, wipeS s1 vs, [], [], stW, nW, lA.trans lW, .nil, ZS, e1, rfl, wiped_plain f⟩, ?_⟩
        rintro i m H2 ⟨rfl, hi, t, acc, xs, st2, n2, l2, rL, zs, ec, ea, pt⟩
        by_cases hlt : i < ds.length
        · refine .inr ?_
          have hd : ds[i]? = some ds[i] := List.getElem?_eq_getElem hlt
          obtain ⟨go, yld⟩ := hJ.1 i ds[i] _ H2 hd (fun p h => st2.hidden h) l2
          have ed : ds.drop i = ds[i] :: ds.drop (i + 1) := by rw [List.drop_eq_getElem_cons hlt]
          rw [ed] at ec
          refine ⟨go, fun H' => ∃ t acc xs, StR hox K mg (c.ext D (.lst xs)) t (wipe σ vs) H' ∧ ¬ hs c t (wipe σ vs) D ∧ Le (vis c s1 σ H1) (vis (c.ext D (.lst xs)) t (wipe σ vs) H') ∧ RepL K mg (vis (c.ext D (.lst xs)) t (wipe σ vs) H') xs acc ∧
            ∃ zs, cloop vs g tt te (ds.drop (i + 1)) t = .ok zs T ∧ acc ++ zs = ZS ∧ vs.all (plainAt t) = true, fun H' h => ⟨ds.length - (i + 1), by omega, rfl, hlt, h⟩, fun x H' y => ?_⟩
          obtain ⟨sm, rx⟩ := yld x H' y
          have gy := Go.grow st2 sm
          refine ⟨c.ext D (.lst xs), t, ds[i], gy.1, rx, ?_⟩
          unfold cloop at ec
          cases e2 : g ds[i] t with
          | none => simp only [e2] at ec; cases ec
          | some s3 =>
            simp only [e2] at ec
            refine ⟨s3, rfl, fun σ3 H3 g3 l3 k3 => ?_⟩
            have w3 : wipe σ3 vs = wipe σ vs := by
              rw [wipe_eq (τ := wipe σ vs) (vs := vs) l3 fun j hjv => k3 j fun z => hjv (hj j z)]
              exact wipe_eq (by rw [wipe_length]) fun j hjv => (wipeV_at σ j vs).2 hjv
            refine ⟨?_, c.ext D (.lst xs), s3, g3.1, ?_⟩
            · exact w3
            have gg := gy.trans g3
            -- the turn's end: the slots of the block forgotten
            have fin : ∀ {s5 : S} {H5 : Hp} {ys : List V} {as : List Den.D} {zs : List Den.D}, StR hox K mg (c.ext D (.lst ys)) s5 σ3 H5 → Le (vis (c.ext D (.lst xs)) t (wipe σ vs) H2) (vis (c.ext D (.lst ys)) s5 σ3 H5) → RepL K mg (vis (c.ext D (.lst ys)) s5 σ3 H5) ys as → vs.all (plainAt s5) = true →
                cloop vs g tt te (ds.drop (i + 1)) (wipeS s5 vs) = .ok zs T → as ++ zs = ZS → ∃ t acc xs, StR hox K mg (c.ext D (.lst xs)) t (wipe σ vs) H5 ∧ ¬ hs c t (wipe σ vs) D ∧ Le (vis c s1 σ H1) (vis (c.ext D (.lst xs)) t (wipe σ vs) H5) ∧ RepL K mg (vis (c.ext D (.lst xs)) t (wipe σ vs) H5) xs acc ∧
                ∃ zs, cloop vs g tt te (ds.drop (i + 1)) t = .ok zs T ∧ acc ++ zs = ZS ∧ vs.all (plainAt t) = true := by
              intro s5 H5 ys as zs st5 l5 r5 p5 c5 e5
              obtain ⟨st6, h6⟩ := st5.wiped p5
              rw [w3] at st6 h6
              have l6 : Le (vis (c.ext D (.lst ys)) s5 σ3 H5) (vis (c.ext D (.lst ys)) (wipeS s5 vs) (wipe σ vs) H5) := Le.hsub fun b z => (h6 b).mp z
              refine ⟨wipeS s5 vs, as, ys, st6, fun z => ?_, l2.trans (l5.trans l6), r5.mono l6, zs, c5, e5, wiped_plain p5⟩
              obtain ⟨_, b2, _, b4⟩ := st6.tmp D _ (.inr ⟨rfl, rfl⟩)
              rcases z with z | z | ⟨j, o, q, a1, a2, f⟩
              · exact b2 z
              · exact n2 (.inr (.inl z))
              · exact b4 j o q a1 a2 f
            cases e3 : tt s3 with
            | ok b s4 =>
              intro H4 g4
              have gg4 := gg.trans g4
              cases b with
              | true =>
                simp only [e3] at ec
                show if true = true then _ else _
                rw [if_pos rfl]
                refine ⟨c.ext D (.lst xs), s4, g4.1, ?_⟩
                cases e4 : te s4 with
                | ok y s5 =>
                  intro H5 g5 v rv
                  simp only [e4] at ec
                  by_cases f5 : vs.all (plainAt s5) = true
                  · rw [if_pos f5] at ec
                    have gg5 := gg4.trans g5
                    obtain ⟨b1, b2, b3, b4⟩ := g5.1.tmp D _ (.inr ⟨rfl, rfl⟩)
                    cases e5 : cloop vs g tt te (ds.drop (i + 1)) (wipeS s5 vs) with
                    | ok ys s6 =>
                      simp only [e5] at ec
                      cases ec
                      have n5 : ¬ hs c s5 σ3 D := fun z => by
                        rcases z with z | z | ⟨j, o, q, a1, a2, f⟩
                        · exact b2 z
                        · exact n2 (.inr (.inl z))
                        · exact b4 j o q a1 a2 f
                      obtain ⟨st7, l7⟩ := StR.writeT (ho' := .lst (xs ++ [v])) n5 g5.1
                      have lz : xs.length < sizeLine := by
                        have h1 := rL.length
                        have h2 : ZS.length ≤ sizeLine := fits_le fz
                        rw [← ea, List.length_append, List.length_cons] at h2
                        omega
                      refine ⟨xs, b3, lz, fin st7 (gg5.2.trans l7) ((rL.mono (gg5.2.trans l7)).append (.cons (rv.mono l7) .nil)) f5 e5 ?_⟩
                      rw [List.append_assoc]
                      exact ea
                    | exc x s6 => simp only [e5] at ec; cases ec
                    | bad => simp only [e5] at ec; cases ec
                  · rw [if_neg f5] at ec; cases ec
                | exc x s5 => simp only [e4] at ec; cases ec
                | bad => simp only [e4] at ec; cases ec
              | false =>
                simp only [e3] at ec
                show if false = true then _ else _
                rw [if_neg Bool.false_ne_true]
                by_cases f5 : vs.all (plainAt s4) = true
                · rw [if_pos f5] at ec
                  exact fin g4.1 gg4.2 (rL.mono gg4.2) f5 ec ea
                · rw [if_neg f5] at ec; cases ec
            | exc x s4 => simp only [e3] at ec; cases ec
            | bad => simp only [e3] at ec; cases ec
        · have e : i = ds.length := by omega
          subst e
          rw [List.drop_length] at ec
          unfold cloop at ec
          cases ec
          refine .inl ⟨hJ.2 _ H2 l2, ?_⟩
          obtain ⟨st3, h3⟩ := st2.unwiped st1 l2 f pt
          have l3 : Le (vis (c.ext D (.lst xs)) T (wipe σ vs) H2) (vis (c.ext D (.lst xs)) (restore T s1 vs) σ H2) := Le.hsub fun b z => (h3 b).mp z
          obtain ⟨b1, b2, b3, b4⟩ := st3.tmp D _ (.inr ⟨rfl, rfl⟩)
          rw [List.append_nil] at ea
          subst ea
          refine q1 _ H2 ⟨D, .lst xs, rfl, rfl, fun z => ?_, st3, l2.trans l3, xs, b3, rL.mono l3⟩
          rcases z with z | z | ⟨j, o, q, a1, a2, f⟩
          · exact b2 z
          · exact n2 (.inr (.inl z))
          · exact b4 j o q a1 a2 f
      · rw [if_neg fz] at q1; exact q1.elim
    | exc x t => simp only [e1] at q1; exact q1.elim
    | bad => simp only [e1] at q1; exact q1.elim
  · rw [if_neg f] at q1; exact q1.elim
theorem so_lc {elt tg iter : Expr} {ifs : List Expr} {scope : Scope} {pos : Pos} {js : List Nat} {mi : MI} {g : MG} {tt : MB} {te : MD} (own : List (Str × Nat)) (hc : X.calm = true) (hN : X.N.Nodup) (hi : SI hox X W tg iter mi) (ok : BlkOk X.N X.env.scope scope own)
    (hg : ∀ (s : Shared) (H : Hp) (C : Addr) (cl : List (Str × Addr)) (fp : List Addr), SG hox (X.blk s H scope (compEnvC scope cl C X.env) fp) js tg g)
    (ht : ∀ (s : Shared) (H : Hp) (C : Addr) (cl : List (Str × Addr)) (fp : List Addr), STs hox (X.blk s H scope (compEnvC scope cl C X.env) fp) W0 ifs tt)
    (he : ∀ (s : Shared) (H : Hp) (C : Addr) (cl : List (Str × Addr)) (fp : List Addr), SD hox (X.blk s H scope (compEnvC scope cl C X.env) fp) W0 elt te) (hj : ∀ j ∈ js, j ∈ own.map (·.2) := by decide) (hs : ∀ x, foldedSetIterable iter X.env x = pure x := by intro _; rfl) :
    SO hox X W (.ListComp elt [⟨tg, iter, ifs, 0⟩] scope pos) (mComp (own.map (·.2)) mi g tt te) :=
  PE.imp (pe_lc hc hN hi ok hg ht he hs) fun σ H Q h => lc_imp hj h
end
end Den

set_option Elab.async false
set_option linter.all false
set_option maxRecDepth 100000
set_option maxHeartbeats 4000000
/-! enumerate of a tuple -/
namespace PySem
open Sem (wp)
end PySem
namespace Den
variable {hox : Option Addr}
open PySem PySem.Spec PyProof.Rows L2

def IteT (K : PySem.W.Frag) (a : Addr) : It :=
  ⟨fun i H => ∃ (xs : List V) (x : V), SqT K H a xs ∧ xs[i]? = some x, fun i H v H' => ∃ T x, v = .ref T ∧ H T = none ∧ H' = upd H T (.tup [.int (i : Nat), x]) ∧ ∀ xs, SqT K H a xs → xs[i]? = some x, fun i H => ∃ xs : List V, SqT K H a xs ∧ xs.length ≤ i⟩
end Den

set_option Elab.async false
set_option linter.all false
set_option maxRecDepth 100000
set_option maxHeartbeats 4000000
namespace Den
variable {hox : Option Addr}
open PySem PySem.Spec PyProof.Rows L2

/-! ### what a for walks -/
def iSeq (m : MD) : MI := fun s => (m s).bind fun d s1 => match d.items with
  | some ds => .ok ds s1
  | none => .bad
def i62 (j : Int) : Bool := decide (-(2 ^ 62) ≤ j) && decide (j < 2 ^ 62)
def rngD (i : Int) (n : Nat) : List D := (List.range n).map fun k => .int (i + (k : Nat))
def iR1 (ml : ML) : MI := fun s => (ml s).bind fun ds s1 => match ds with
  | [.int j] => if i62 j = true then .ok (rngD 0 j.toNat) s1 else .bad
  | _ => .bad
def iR2 (ml : ML) : MI := fun s => (ml s).bind fun ds s1 => match ds with
  | [.int i, .int j] => if (i62 i && i62 j) = true then .ok (rngD i (j - i).toNat) s1 else .bad
  | _ => .bad
def enumD : Nat → List D → List D
  | _, [] => []
  | i, d :: ds => .tup [.int (i : Nat), d] :: enumD (i + 1) ds
def iEn (ml : ML) : MI := fun s => (ml s).bind fun ds s1 => match ds with
  | [d] => match d.items with
    | some xs => .ok (enumD 0 xs) s1
    | none => .bad
  | _ => .bad
def zipD (xs ys : List D) : List D := List.zipWith (fun x y => .tup [x, y]) xs ys
def iZp (ml : ML) : MI := fun s => (ml s).bind fun ds s1 => match ds with
  | [.tup xs, .tup ys] => .ok (zipD xs ys) s1
  | [.lst xs, .lst ys] => .ok (zipD xs ys) s1
  | _ => .bad
section
variable {K : PySem.W.Frag} {mg : Str → Option Value} {G : Hp}
theorem repL_ints : ∀ ns : List Int, RepL K mg G (ns.map V.int) (ns.map D.int)
  | [] => .nil
  | n :: ns => .cons (.int n) (repL_ints ns)
theorem itOk_l {a : Addr} {xs : List V} {ds : List D} (h : SqL K G a xs) (r : RepL K mg G xs ds) : ItOk K mg (Itl K a) G ds :=
  ⟨fun i d h1 H1 e nh l => by
    obtain ⟨x, e1, rx⟩ := r.get e
    have h2 : SqL K H1 a xs := Le.sqL hid_base (l.sqL h)
    exact ⟨⟨xs, x, h2, e1⟩, fun y H' ⟨eh, f⟩ => by
      subst eh
      rw [f xs h2] at e1; cases e1
      exact ⟨Same.refl _, rx.mono l⟩⟩, fun h1 H1 l => ⟨xs, Le.sqL hid_base (l.sqL h), by rw [r.length]; exact Nat.le_refl _⟩⟩
theorem itOk_t {a : Addr} {xs : List V} {ds : List D} (h : SqT K G a xs) (r : RepL K mg G xs ds) : ItOk K mg (Itt K a) G ds :=
  ⟨fun i d h1 H1 e nh l => by
    obtain ⟨x, e1, rx⟩ := r.get e
    have h2 : SqT K H1 a xs := Le.sqT hid_base (l.sqT h)
    exact ⟨⟨xs, x, h2, e1⟩, fun y H' ⟨eh, f⟩ => by
      subst eh
      rw [f xs h2] at e1; cases e1
      exact ⟨Same.refl _, rx.mono l⟩⟩, fun h1 H1 l => ⟨xs, Le.sqT hid_base (l.sqT h), by rw [r.length]; exact Nat.le_refl _⟩⟩
theorem itOk_r {lo : Int} {n : Nat} : ItOk K mg (Itr lo n) G (rngD lo n) :=
  ⟨fun i d h1 H1 e nh l => by
    unfold rngD at e
    rw [List.getElem?_map] at e
    have hi : i < n := by
      cases z : (List.range n)[i]? with
      | none => rw [z] at e; cases e
      | some k => have := (List.getElem?_eq_some_iff.mp z).1; simpa using this
    rw [List.getElem?_range hi] at e
    cases e
    exact ⟨hi, fun y H' ⟨eh, f⟩ => by subst eh f; exact ⟨Same.refl _, .int _⟩⟩, fun h1 H1 l => by
      show n ≤ _
      unfold rngD
      rw [List.length_map, List.length_range]
      exact Nat.le_refl _⟩
end
section
variable {X : Cx} {W : WX} {tg l e e2 : Expr} {m : MD} {ml : ML} {p pos tpos : Pos} {elts : List Expr} {kk : Nat}
theorem si_seq (h : SD hox X W l m) : SI hox X W tg l (iSeq m) := by
  refine ⟨fun pins s σ H R I ⟨c, t, st, q⟩ => ?_⟩
  refine thn (h.run pins s σ H (fun x H1 => ∃ d ds c t, StR hox X.K X.mg c t σ H1 ∧ Rep X.K X.mg (vis c t σ H1) x d ∧ d.items = some ds ∧ ∀ J, ItOk X.K X.mg J (vis c t σ H1) ds → R J H1) I ⟨c, t, st, q.split.imp fun d t1 H1 g1 q1 v r => ?_⟩) fun v s1 ⟨x, H1, I1, r1, q1⟩ => ?_
  · cases e : d.items with
    | none => simp only [e] at q1; exact q1.elim
    | some ds => simp only [e] at q1; exact ⟨d, ds, c, t1, g1.1, r, e, q1 H1 (.refl g1.1)⟩
  · obtain ⟨d, ds, c, t, st1, rd, e, q⟩ := q1
    cases d with
    | lst es =>
      cases e
      obtain ⟨a, xs, rfl, hq, rl⟩ : ∃ a xs, x = .ref a ∧ SqL X.K (vis c t σ H1) a xs ∧ RepL X.K X.mg (vis c t σ H1) xs ds := by cases rd with | lst a b => exact ⟨_, _, rfl, .of a, b⟩
      cases r1
      obtain ⟨its, rv, p, hz⟩ := I1.list (Le.sqL hid_base hq)
      refine wpAny_pyIter_list p.isList ?_
      refine ⟨s1.heap.objs.size, [s1.heap.objs.size], _, _, H1, rfl, I1.kept (t' := s1.toks) fun b o e => Heap.get?_push_of_some _ e, turn_list a _, ⟨_, Heap.get?_push_size _ rfl, rfl, rfl⟩, fun b hb => ?_, q _ (itOk_l hq rl)⟩
      have e : b = s1.heap.objs.size := by simpa using hb
      subst e
      exact I1.fpOk (Nat.le_refl _) (I1.hok.fresh (Nat.le_refl _))
    | scr ns =>
      cases e
      obtain ⟨a, xs, rfl, hq, rl⟩ : ∃ a xs, x = .ref a ∧ SqL X.K (vis c t σ H1) a xs ∧ RepL X.K X.mg (vis c t σ H1) xs (ns.map .int) := by cases rd with | scr a => exact ⟨_, _, rfl, a, repL_ints ns⟩
      cases r1
      obtain ⟨its, rv, p, hz⟩ := I1.list (Le.sqL hid_base hq)
      refine wpAny_pyIter_list p.isList ?_
      refine ⟨s1.heap.objs.size, [s1.heap.objs.size], _, _, H1, rfl, I1.kept (t' := s1.toks) fun b o e => Heap.get?_push_of_some _ e, turn_list a _, ⟨_, Heap.get?_push_size _ rfl, rfl, rfl⟩, fun b hb => ?_, q _ (itOk_l hq rl)⟩
      have e : b = s1.heap.objs.size := by simpa using hb
      subst e
      exact I1.fpOk (Nat.le_refl _) (I1.hok.fresh (Nat.le_refl _))
    | tup es =>
      cases e
      obtain ⟨a, xs, rfl, hq, rl⟩ : ∃ a xs, x = .ref a ∧ SqT X.K (vis c t σ H1) a xs ∧ RepL X.K X.mg (vis c t σ H1) xs ds := by cases rd with | tup a b => exact ⟨_, _, rfl, .inl (.inl a), b⟩
      cases r1
      obtain ⟨its, rv, p, hz⟩ := I1.tuple (Le.sqT hid_base hq)
      refine wpAny_pyIter_tuple (show s1.heap.IsTuple a its.toArray from p) ?_
      refine ⟨s1.heap.objs.size, [s1.heap.objs.size], _, _, H1, rfl, I1.kept (t' := s1.toks) fun b o e => Heap.get?_push_of_some _ e, turn_tuple a _, ⟨_, Heap.get?_push_size _ rfl, rfl, rfl⟩, fun b hb => ?_, q _ (itOk_t hq rl)⟩
      have e : b = s1.heap.objs.size := by simpa using hb
      subst e
      exact I1.fpOk (Nat.le_refl _) (I1.hok.fresh (Nat.le_refl _))
    | ktup es =>
      cases e
      obtain ⟨a, xs, rfl, hq, rl⟩ : ∃ a xs, x = .ref a ∧ SqT X.K (vis c t σ H1) a xs ∧ RepL X.K X.mg (vis c t σ H1) xs ds := by cases rd with | ktup a b => exact ⟨_, _, rfl, a, b⟩
      cases r1
      obtain ⟨its, rv, p, hz⟩ := I1.tuple (Le.sqT hid_base hq)
      refine wpAny_pyIter_tuple (show s1.heap.IsTuple a its.toArray from p) ?_
      refine ⟨s1.heap.objs.size, [s1.heap.objs.size], _, _, H1, rfl, I1.kept (t' := s1.toks) fun b o e => Heap.get?_push_of_some _ e, turn_tuple a _, ⟨_, Heap.get?_push_size _ rfl, rfl, rfl⟩, fun b hb => ?_, q _ (itOk_t hq rl)⟩
      have e : b = s1.heap.objs.size := by simpa using hb
      subst e
      exact I1.fpOk (Nat.le_refl _) (I1.hok.fresh (Nat.le_refl _))
    | _ => cases e
theorem i62_iff {j : Int} (h : i62 j = true) : -(2 ^ 62) ≤ j ∧ j < 2 ^ 62 := by
  unfold i62 at h
  rw [Bool.and_eq_true] at h
  exact ⟨of_decide_eq_true h.1, of_decide_eq_true h.2⟩
theorem iR1_inv {ds : List D} {t : S} {o : Out (List D)} (h : (match ds with | [.int j] => if i62 j = true then Out.ok (rngD 0 j.toNat) t else .bad | _ => .bad) = o) : o = .bad ∨ ∃ j, ds = [.int j] ∧ i62 j = true ∧ o = .ok (rngD 0 j.toNat) t := by
  subst h
  split
  · rename_i j
    by_cases f : i62 j = true
    · rw [if_pos f]
      exact .inr ⟨j, rfl, f, rfl⟩
    · rw [if_neg f]; exact .inl rfl
  · exact .inl rfl
theorem si_r1 (hg : Gl X "range") (hm : X.mg "range" = none) (ha : SL hox X W [e] ml) (hs : starEach [e] X.env = [(false, eval e X.env)] := by rfl) : SI hox X W tg (.Call (.Name "range" p) [e] [] pos) (iR1 ml) :=
  PI.imp (pi_range1 hg hm ha hs) fun σ H R ⟨c, t, st, q⟩ => ⟨c, t, st, q.split.imp fun ds t1 H1 g1 q1 vs rs => by
    rcases iR1_inv (ds := ds) (t := t1) rfl with z | ⟨j, rfl, f, z⟩
    · rw [z] at q1; exact q1.elim
    · rw [z] at q1
      match vs, rs with
      | _, .cons r1 .nil =>
        cases r1
        exact ⟨j, rfl, (i62_iff f).1, (i62_iff f).2, q1 H1 (.refl g1.1) _ itOk_r⟩⟩
end
end Den

set_option Elab.async false
set_option linter.all false
set_option maxRecDepth 100000
set_option maxHeartbeats 4000000
namespace Den
variable {hox : Option Addr}
open PySem PySem.Spec PyProof.Rows L2

section
variable {K : PySem.W.Frag} {mg : Str → Option Value} {G G' H H' : Hp} {c : Ct} {s s' t : S} {σ σ' τ : St} {p : Addr} {o : O} {i : Nat}
theorem hs_ext {ho : HO} {b : Addr} : hs (c.ext p ho) s σ b ↔ hs c s σ b ∨ b = p := by
  constructor
  · rintro (z | ⟨u, z | z⟩ | z)
    · exact .inl (.inl z)
    · exact .inl (.inr (.inl ⟨u, z⟩))
    · exact .inr z.1
    · exact .inl (.inr (.inr z))
  · rintro ((z | ⟨u, z⟩ | z) | z)
    · exact .inl z
    · exact .inr (.inl ⟨u, .inl z⟩)
    · exact .inr (.inr z)
    · exact .inr (.inl ⟨ho, .inr ⟨z, rfl⟩⟩)
/-- a call has made an object that now stands by itself -/
theorem StR.allocG {ho : HO} (x : StR hox K mg c s σ H) (n : H p = none) (g : Same H H') (hp : H' p = some ho) : StR hox K mg (c.ext p ho) s σ H' ∧ Le (vis c s σ H) (vis (c.ext p ho) s σ H') ∧ ¬ hs c s σ p := by
  have nh := x.newHid n
  have l : Le (vis c s σ H) (vis (c.ext p ho) s σ H') := hid_le fun b o nb e => by
    refine ⟨fun z => ?_, g b o e⟩
    rcases hs_ext.mp z with z | z
    · exact nb z
    · exact ne_of_none e n z
  refine ⟨⟨x.len, fun i d e => ?_, fun i o e => ?_, fun i o e => ?_, x.brw, x.uni, x.bun, x.lnt, fun b o nb e => g _ _ (x.keep b o nb e), x.act, fun q u hq => ?_, x.hot⟩, l, nh⟩
  · obtain ⟨v, e1, r⟩ := x.val i d e
    exact ⟨v, e1, r.mono l⟩
  · obtain ⟨q, e1, m, r⟩ := x.own i o e
    exact ⟨q, e1, m, r.mono l fun _ _ u => g _ _⟩
  · obtain ⟨q, e1, b, z, r⟩ := x.bor i o e
    exact ⟨q, e1, b, z, r.mono l fun _ _ u => g _ _⟩
  · rcases hq with hq | ⟨rfl, rfl⟩
    · obtain ⟨h1, h2, h3, h4⟩ := x.tmp q u hq
      exact ⟨h1, h2, g _ _ h3, h4⟩
    · exact ⟨x.newBase n, fun z => nh (.inl z), hp, fun i o q e1 e2 f => nh (.inr (.inr ⟨i, o, q, e1, e2, f⟩))⟩
end

/-! ### what a def promises -/
abbrev FP := List D → Out Sl
abbrev FL := O → List D → Out Sl
def Keep (B : Addr → Prop) (H H' : Hp) : Prop := ∀ b o, ¬ B b → H b = some o → H' b = some o
section
variable (hox : Option Addr) (K : PySem.W.Frag) (mg : Str → Option Value)
def EndP (A B : Addr → Prop) (H : Hp) (R : S → Hp → Prop) (Q : VK) (E : XK) : Out Sl → Prop
  | .ok (.val d) s' => ∀ v H', Keep B H H' → R s' H' → Rep K mg (hid A H') v d → Q v H'
  | .ok (.own o) s' => ∀ p H', o.sub = [] → H p = none → Keep B H H' → R s' H' → RepO K mg (hid (fun b => A b ∨ b = p) H') H' p o → Q (.ref p) H'
  | .exc x s' => ∀ cls dd H', Keep B H H' → R s' H' → ExcR K mg (hid A H') cls dd x → E cls dd H'
  | _ => False
def spP (n : Nat) (F : FP) : Sp := fun vs H Q E => ∃ A ds, (∀ p, A p → ∃ o, H p = some o) ∧ ds.length = n ∧ RepL K mg (hid A H) vs ds ∧ EndP K mg A (fun _ => False) H (fun _ _ => True) Q E (F ds)
def LentR (A : Addr → Prop) (p : Addr) : S → Hp → Prop := fun s' H' => ∀ o', s'[0]? = some (some (Sl.bor o')) → RepO K mg (hid A H') H' p o'
def spL (n : Nat) (F : FL) : Sp := fun vs H Q E => ∃ A p o vs' ds, vs = .ref p :: vs' ∧ (∀ p, A p → ∃ o, H p = some o) ∧ (∀ b, foot p o b → A b) ∧ ds.length + 1 = n ∧ RepO K mg (hid A H) H p o ∧ RepL K mg (hid A H) vs' ds ∧
  EndP K mg A (foot p o) H (LentR K mg A p) Q E (F o ds)
end
def fin : Out Fl → Out Sl
  | .ok .nx s => .ok (.val .non) s
  | .ok (.rt r) s => .ok r s
  | .exc x s => .exc x s
  | _ => .bad
def init (N : Nat) (ds : List D) : S := ds.map (fun d => some (.val d)) ++ List.replicate (N - ds.length) none
def runP (N n : Nat) (m : MS) : FP := fun ds => if ds.length = n then fin (m (init N ds)) else .bad
def runL (N n : Nat) (m : MS) : FL := fun o ds => if ds.length + 1 = n then fin (m (some (.bor o) :: init (N - 1) ds)) else .bad
section
variable {P : Program} {w : World} {K : PySem.W.Frag} {mg : Str → Option Value} {base : Heap}
theorem init_at {N : Nat} {ds : List D} {i : Nat} {w : Sl} (h : (init N ds)[i]? = some (some w)) : ∃ d, ds[i]? = some d ∧ w = .val d := by
  unfold init at h
  by_cases hi : i < ds.length
  · rw [List.getElem?_append_left (by simpa using hi), List.getElem?_map] at h
    cases e : ds[i]? with
    | none => rw [e] at h; cases h
    | some d => rw [e] at h; cases h; exact ⟨d, rfl, rfl⟩
  · rw [List.getElem?_append_right (by simpa using hi), List.getElem?_replicate] at h
    split at h <;> cases h
theorem start_at {N : List Str} {vs : List V} {i : Nat} {v : V} (h : vs[i]? = some v) : (L2.start N vs)[i]? = some (some v) := by
  unfold L2.start
  have hi := (List.getElem?_eq_some_iff.mp h).1
  rw [List.getElem?_append_left (by simpa using hi), List.getElem?_map, h]
  rfl
theorem stR_start {N : List Str} {A : Addr → Prop} {H : Hp} {vs : List V} {ds : List D} (hot : ∀ a, hox = some a → ∃ oe, H a = some (ExA a oe) ∧ CtxF oe) (hA : ∀ p, A p → ∃ o, H p = some o) (r : RepL K mg (hid A H) vs ds) (hl : ds.length ≤ N.length) :
    StR hox K mg ⟨H, A, fun _ => none, fun _ _ => False, fun _ => False⟩ (init N.length ds) (L2.start N vs) H := by
  have hh : ∀ b, hs ⟨H, A, fun _ => none, fun _ _ => False, fun _ => False⟩ (init N.length ds) (L2.start N vs) b → A b := fun b z => by
    rcases z with z | ⟨u, z⟩ | ⟨i, o, q, e, _⟩
    · exact z
    · exact z.elim
    · obtain ⟨d, _, z⟩ := init_at e
      cases z
  have l : Le (hid A H) (vis ⟨H, A, fun _ => none, fun _ _ => False, fun _ => False⟩ (init N.length ds) (L2.start N vs) H) := hid_le fun b o n e => ⟨fun z => n (hh b z), e⟩
  refine ⟨?_, fun i d e => ?_, fun i o e => ?_, fun i o e => ?_, fun i q e => (by cases e), fun i j oi oj p q b e => ?_, fun i j oi oj p q b _ _ e => (by cases e), fun b z => z.elim, fun b o _ e => e, hA, fun q u hq => hq.elim, fun a e => (hot a e).imp fun oe z => ⟨z.1, z.2, id⟩⟩
  · unfold init L2.start
    rw [List.length_append, List.length_append, List.length_map, List.length_map, List.length_replicate, List.length_replicate, r.length]
  · obtain ⟨d', e1, z⟩ := init_at e
    cases z
    obtain ⟨x, e2, rx⟩ := r.get e1
    exact ⟨x, start_at e2, rx.mono l⟩
  · obtain ⟨d', e1, z⟩ := init_at e
    cases z
  · obtain ⟨d', e1, z⟩ := init_at e
    cases z
  · obtain ⟨d', e1, z⟩ := init_at e
    cases z
theorem Le.toBase {c : Ct} {s : S} {σ : St} {H : Hp} : Le (vis c s σ H) (hid c.A H) := hid_le fun b o n e => ⟨fun z => n (.inl z), e⟩
theorem end_of {c : Ct} {s0 : S} {σ0 : St} {H : Hp} {Q : VK} {E : XK} {B : Addr → Prop} {R : S → Hp → Prop} {o : Out Fl} (hc : c.H0 = H) (hB : ∀ b, c.L b → B b) (hR : ∀ s' σ' H', StR hox K mg c s' σ' H' → R s' H')
    (h : EndP K mg c.A B H R Q E (fin o)) : ResS hox K mg (fun cls d _ H => E cls d H) c s0 σ0 H { nx := fun _ H' => Q .non H', rt := Q } o := by
  subst hc
  have keep : ∀ {s' : S} {σ' : St} {H' : Hp}, StR hox K mg c s' σ' H' → Keep B c.H0 H' := fun {s' σ' H'} x b o nb e => x.keep b o (fun z => nb (hB b z)) e
  cases o with
  | ok f s' =>
    cases f with
    | nx => exact fun σ' H' g => h .non H' (keep g.1) (hR _ _ _ g.1) .non
    | rt r =>
      intro v σ' H' g
      cases r with
      | val d => exact h v H' (keep g.1.1) (hR _ _ _ g.1.1) (g.2.mono Le.toBase)
      | own o =>
        obtain ⟨p, ho, rfl, hz, n, st, l, r⟩ := g
        obtain ⟨t1, t2, t3, t4⟩ := st.tmp p ho (.inr ⟨rfl, rfl⟩)
        refine h p H' hz t1 (keep st.unext) (hR _ _ _ st.unext) (r.mono (hid_le fun b o nb e => ⟨fun z => nb ?_, e⟩) fun _ _ _ h => h)
        rcases z with z | z
        · exact hs_ext.mpr (.inl (.inl z))
        · exact hs_ext.mpr (.inr z)
      | bor o => exact h.elim
    | bk => exact h.elim
    | ct => exact h.elim
  | exc x s' => exact fun cls dd σ' H' g r => h cls dd H' (keep g.1) (hR _ _ _ g.1) (r.mono Le.toBase)
  | bad => exact h
theorem okXN {CX : CXT} {x qual : Str} {st : Stmt} {f : Addr} {fd : FuncData} {N ps : List Str} {k : Nat} {sp : Sp} (F : Fun K x qual st f fd) (S : FnScope N ps (defScope st)) (len : ∀ vs H Q E, sp vs H Q E → vs.length = ps.length)
    (hbody : ∀ (cdv : Value) (A : Around) (outer : List Env) (s : Shared) (H : Hp) (vs : List V) (Q : VK) (E : XK), Room k (A.deeper (envOfC qual (defScope st) s.heap.objs.size f cdv)) → sp vs H Q E →
      ∃ t, PSs (cxOf CX P w K mg base N qual (defScope st) f cdv A outer s H E) (defBody st) t ∧ t { nx := fun _ H' => Q .non H', rt := Q } (start N vs) H) : FnOk P w K mg base CX (k + 1) f fd ps sp := by
  obtain ⟨oc, od, kV, doc, pm, an, cdv, ct, osl, rfl, lk, hcd⟩ := F.ex
  exact fn_of lk hcd S len fun A outer s H vs Q E hr hsp => hbody cdv A outer s H vs Q E hr hsp
/-- THE RULE for a def: its body's function -/
theorem fn_P {x qual : Str} {st : Stmt} {f : Addr} {fd : FuncData} {N ps : List Str} {k : Nat} {m : MS} (F : Fun K x qual st f fd) (S : FnScope N ps (defScope st))
    (h : ∀ (cdv : Value) (A : Around) (outer : List Env) (s : Shared) (H : Hp) (E : XK), Room k (A.deeper (envOfC qual (defScope st) s.heap.objs.size f cdv)) →
      SSs none (cxOf (L2N.CX P w) P w K mg base N qual (defScope st) f cdv A outer s H E) (fun cls d _ H => E cls d H) (defBody st) m) :
    FnOk P w K mg base (L2N.CX P w) (k + 1) f fd ps (spP K mg ps.length (runP N.length ps.length m)) := by
  refine okXN F S (fun vs H Q E ⟨A, ds, _, hl, r, _⟩ => by rw [r.length, hl]) fun cdv A outer s H vs Q E hr ⟨A', ds, hA, hl, r, q⟩ => ?_
  refine ⟨_, h cdv A outer s H E hr, ⟨H, A', fun _ => none, fun _ _ => False, fun _ => False⟩, init N.length ds, ?_, ?_⟩
  · have hpl : ps.length ≤ N.length := by have := congrArg List.length S.pre; rw [List.length_take] at this; omega
    exact stR_start (hox := none) (fun a e => by cases e) hA r (by omega)
  · unfold runP at q
    rw [if_pos hl] at q
    exact end_of (hox := none) (c := ⟨H, A', fun _ => none, fun _ _ => False, fun _ => False⟩) rfl (fun b z => z.elim) (fun _ _ _ _ => trivial) q
theorem stR_startL {N : List Str} {A : Addr → Prop} {H : Hp} {p : Addr} {o : O} {vs : List V} {ds : List D} (hn : hox = none) (hA : ∀ p, A p → ∃ o, H p = some o) (hp : ∀ b, foot p o b → A b) (ro : RepO K mg (hid A H) H p o) (r : RepL K mg (hid A H) vs ds) (hl : ds.length + 1 ≤ N.length) :
    StR hox K mg ⟨H, A, fun i => if i = 0 then some p else none, fun _ _ => False, foot p o⟩ (some (.bor o) :: init (N.length - 1) ds) (L2.start N (.ref p :: vs)) H := by
  have at0 : ∀ {i : Nat} {w : Sl}, (some (Sl.bor o) :: init (N.length - 1) ds)[i]? = some (some w) → (i = 0 ∧ w = .bor o) ∨ ∃ j d, i = j + 1 ∧ ds[j]? = some d ∧ w = .val d := fun {i w} e => by
    cases i with
    | zero => rw [List.getElem?_cons_zero] at e; cases e; exact .inl ⟨rfl, rfl⟩
    | succ j =>
      rw [List.getElem?_cons_succ] at e
      obtain ⟨d, e1, z⟩ := init_at e
      exact .inr ⟨j, d, rfl, e1, z⟩
  have hh : ∀ b, hs ⟨H, A, fun i => if i = 0 then some p else none, fun _ _ => False, foot p o⟩ (some (.bor o) :: init (N.length - 1) ds) (L2.start N (.ref p :: vs)) b → A b := fun b z => by
    rcases z with z | ⟨u, z⟩ | ⟨i, o', q, e, _⟩
    · exact z
    · exact z.elim
    · rcases at0 e with ⟨_, z⟩ | ⟨j, d, _, _, z⟩
      · cases z
      · cases z
  have l : Le (hid A H) (vis ⟨H, A, fun i => if i = 0 then some p else none, fun _ _ => False, foot p o⟩ (some (.bor o) :: init (N.length - 1) ds) (L2.start N (.ref p :: vs)) H) := hid_le fun b o n e => ⟨fun z => n (hh b z), e⟩
  have isB : ∀ {i : Nat} {q : Addr}, (if i = 0 then some p else none : Option Addr) = some q → i = 0 ∧ q = p := fun {i q} e => by
    by_cases z : i = 0
    · rw [if_pos z] at e; cases e; exact ⟨z, rfl⟩
    · rw [if_neg z] at e; cases e
  refine ⟨?_, fun i d e => ?_, fun i o' e => ?_, fun i o' e => ?_, fun i q e => ?_, fun i j oi oj p q b e => ?_, fun i j oi oj p q b _ _ e e2 => ?_, fun b z => ?_, fun b o _ e => e, hA, fun q u hq => hq.elim, fun a e => (by rw [hn] at e; cases e)⟩
  · unfold init L2.start
    rw [List.length_append, List.length_map, List.length_cons, List.length_replicate, List.length_cons, List.length_append, List.length_map, List.length_replicate, r.length]
    omega
  · rcases at0 e with ⟨_, z⟩ | ⟨j, d', rfl, e1, z⟩
    · cases z
    · cases z
      obtain ⟨x, e2, rx⟩ := r.get e1
      exact ⟨x, start_at (by rw [List.getElem?_cons_succ]; exact e2), rx.mono l⟩
  · rcases at0 e with ⟨_, z⟩ | ⟨j, d', rfl, e1, z⟩
    · cases z
    · cases z
  · rcases at0 e with ⟨rfl, z⟩ | ⟨j, d', rfl, e1, z⟩
    · cases z
      exact ⟨p, start_at rfl, rfl, fun b f => ⟨hp b f, f⟩, ro.mono l fun _ _ _ h => h⟩
    · cases z
  · obtain ⟨rfl, rfl⟩ := isB e
    exact ⟨hp _ foot_self, o, rfl⟩
  · rcases at0 e with ⟨_, z⟩ | ⟨j, d', rfl, e1, z⟩
    · cases z
    · cases z
  · obtain ⟨rfl, _⟩ := isB e
    obtain ⟨rfl, _⟩ := isB e2
    intro _ _
    rfl
  · exact ⟨0, o, p, rfl, rfl, z⟩
/-- .. a def that is lent its first argument -/
theorem fn_L {x qual : Str} {st : Stmt} {f : Addr} {fd : FuncData} {N ps : List Str} {k : Nat} {m : MS} (F : Fun K x qual st f fd) (S : FnScope N ps (defScope st))
    (h : ∀ (cdv : Value) (A : Around) (outer : List Env) (s : Shared) (H : Hp) (E : XK), Room k (A.deeper (envOfC qual (defScope st) s.heap.objs.size f cdv)) →
      SSs none (cxOf (L2N.CX P w) P w K mg base N qual (defScope st) f cdv A outer s H E) (fun cls d _ H => E cls d H) (defBody st) m) :
    FnOk P w K mg base (L2N.CX P w) (k + 1) f fd ps (spL K mg ps.length (runL N.length ps.length m)) := by
  refine okXN F S (fun vs H Q E ⟨A, p, o, vs', ds, e, _, _, hl, _, r, _⟩ => by rw [e, List.length_cons, r.length, hl]) fun cdv A outer s H vs Q E hr ⟨A', p, o, vs', ds, e, hA, hp, hl, ro, r, q⟩ => ?_
  subst e
  refine ⟨_, h cdv A outer s H E hr, ⟨H, A', fun i => if i = 0 then some p else none, fun _ _ => False, foot p o⟩, some (.bor o) :: init (N.length - 1) ds, ?_, ?_⟩
  · have hpl : ps.length ≤ N.length := by have := congrArg List.length S.pre; rw [List.length_take] at this; omega
    exact stR_startL (hox := none) rfl hA hp ro r (by omega)
  · unfold runL at q
    rw [if_pos hl] at q
    have hR : ∀ s' σ' H', StR none K mg ⟨H, A', fun i => if i = 0 then some p else none, fun _ _ => False, foot p o⟩ s' σ' H' → LentR K mg A' p s' H' := fun s' σ' H' x o' e => by
      obtain ⟨q', e1, e2, _, r'⟩ := x.bor 0 o' e
      cases e2
      exact r'.mono Le.toBase fun _ _ _ h => h
    exact end_of (hox := none) (c := ⟨H, A', fun i => if i = 0 then some p else none, fun _ _ => False, foot p o⟩) rfl (fun b z => z) hR q
end
/-! ### calls of defs -/
def mCall (F : FP) (n : Nat) (ml : ML) : MO := fun s => (ml s).bind fun ds s1 => if ds.length = n then match F ds with
  | .ok (.val d) _ => .ok (.val d) s1
  | .ok (.own o) _ => .ok (.own o) s1
  | .exc x _ => .exc x s1
  | _ => .bad
  else .bad
def mutAt (s : S) (i : Nat) : Option (Sl × O) := match s[i]? with
  | some (some (.own o)) => some (.own o, o)
  | some (some (.bor o)) => some (.bor o, o)
  | _ => none
theorem mutAt_some {s : S} {i : Nat} {w : Sl} {o : O} (h : mutAt s i = some (w, o)) : s[i]? = some (some w) ∧ w.mu = some o := by
  unfold mutAt at h
  split at h
  · rename_i o' e
    cases h; exact ⟨e, rfl⟩
  · rename_i o' e
    cases h; exact ⟨e, rfl⟩
  · cases h
def Sl.sub : Sl → List Addr
  | .own o => o.sub
  | .bor o => o.sub
  | .val _ => []
theorem sub_mu {w : Sl} {o : O} (e : w.mu = some o) : w.sub = o.sub := by
  cases w <;> cases e <;> rfl
def lentOut (i : Nat) (w : Sl) (s1 : S) : Out Sl → Out Sl
  | .ok r s' => match r, s'[0]? with
    | .val d, some (some (Sl.bor o')) => if w.sub = o'.sub then .ok (.val d) (s1.set i (some (w.re o'))) else .bad
    | _, _ => .bad
  | .exc x s' => match s'[0]? with
    | some (some (Sl.bor o')) => if w.sub = o'.sub then .exc x (s1.set i (some (w.re o'))) else .bad
    | _ => .bad
  | .bad => .bad
def mCallL (i : Nat) (F : FL) (n : Nat) (ml : ML) : MO := fun s => match mutAt s i with
  | none => .bad
  | some _ => (ml s).bind fun ds s1 => match mutAt s1 i with
    | none => .bad
    | some (w, o) => if ds.length + 1 = n then lentOut i w s1 (F o ds) else .bad
theorem ResO.after {K : PySem.W.Frag} {mg : Str → Option Value} {W : WX} {c : Ct} {s s1 : S} {σ : St} {H H1 : Hp} {Q : VK} {r : Out Sl} (h : ResO hox K mg W c s σ H Q r) (g : Go hox K mg c s σ H s1 σ H1) : ResO hox K mg W c s1 σ H1 Q r := by
  cases r with
  | ok r s2 => exact fun v H' g' => h v H' (g'.pre g)
  | exc y s2 => exact fun cls dd H' g' => h cls dd H' (g.trans g')
  | bad => exact h
theorem ResO.split {K : PySem.W.Frag} {mg : Str → Option Value} {W : WX} {c : Ct} {s : S} {σ : St} {H : Hp} {Q : VK} {α : Type} {o : Out α} {k : α → S → Out Sl} (h : ResO hox K mg W c s σ H Q (o.bind k)) : Res hox K mg c s σ H W (fun a s1 H1 => ResO hox K mg W c s1 σ H1 Q (k a s1)) o := by
  cases o with
  | ok a s1 => exact fun H1 g => ResO.after (r := k a s1) h g
  | exc x s' => exact h
  | bad => exact h
section
variable {X : Cx} {W : WX} {k n : Nat} {f : Addr} {fd : FuncData} {ps : List Str} {e : Expr} {es : List Expr} {ml : ML} {x y : Str} {p py pos : Pos}
theorem so_call {F : FP} (FK : FnOk X.prog X.w X.K X.mg X.base (L2N.CX X.prog X.w) k f fd ps (spP X.K X.mg n F)) (hr : Room k X.A) (hm : X.mg x = some (.ref f)) (hk : PySem.W.keepIn X.K (.ref f) = true) (hb : Binds X.K fd ps []) (tk : L2N.Takes X W)
    (ha : SL hox X W (e :: es) ml) (hg : Gl X x := by rfl) (hdb : (x == ("__debug__" : Str)) = false := by decide) (he : starEach (e :: es) X.env = (false, eval e X.env) :: starEach es X.env := by rfl) (hpl : (backTo pos (starEach es X.env)).any (·.1) = false := by rfl) :
    SO hox X W (.Call (.Name x p) (e :: es) [] pos) (mCall F n ml) :=
  PE.imp (pe_callS FK hr hg hm hk hb (fun σ => L2N.passAt tk σ) ha hdb he hpl) fun σ H Q ⟨c, s, st, q⟩ => ⟨c, s, st, q.split.imp fun ds s1 H1 g1 q1 vs rs => by
    by_cases hl : ds.length = n
    · rw [if_pos hl] at q1
      refine ⟨hs c s1 σ, ds, fun p h => g1.1.hidden h, hl, rs, ?_⟩
      cases e1 : F ds with
      | ok r s' =>
        cases r with
        | val d =>
          simp only [e1] at q1
          intro v H' kp _ rv
          have sm : Same H1 H' := fun b o e => kp b o (fun z => z) e
          exact q1 v H' ⟨.grow g1.1 sm, rv⟩
        | own o =>
          simp only [e1] at q1
          intro p H' hz n kp _ ro
          have sm : Same H1 H' := fun b o e => kp b o (fun z => z) e
          obtain ⟨ho, hp⟩ := ro.there
          obtain ⟨a1, a2, a3⟩ := g1.1.allocG n sm hp
          refine q1 _ H' ⟨p, ho, rfl, hz, a3, a1, a2, ro.mono (Le.hsub fun b z => hs_ext.mp z) fun _ _ _ h => h⟩
        | bor o => simp only [e1] at q1; exact q1.elim
      | exc y s' =>
        simp only [e1] at q1
        intro cls dd H' kp _ r
        have sm : Same H1 H' := fun b o e => kp b o (fun z => z) e
        exact q1 cls dd H' (.grow g1.1 sm) r
      | bad => simp only [e1] at q1; exact q1.elim
    · rw [if_neg hl] at q1; exact q1.elim⟩
theorem so_callL (i : Nat) {F : FL} (FK : FnOk X.prog X.w X.K X.mg X.base (L2N.CX X.prog X.w) k f fd ps (spL X.K X.mg n F)) (hr : Room k X.A) (hm : X.mg x = some (.ref f)) (hk : PySem.W.keepIn X.K (.ref f) = true) (hb : Binds X.K fd ps []) (tk : L2N.Takes X W)
    (ha : SL hox X W es ml) (hN : X.N[i]? = some y := by rfl) (hv : Vis X.env.scope y := by first | exact Or.inl rfl | exact Or.inr (Or.inl rfl) | exact Or.inr (Or.inr rfl)) (hg : Gl X x := by rfl) (hd : (y == ("__debug__" : Str)) = false := by decide)
    (hcd : (y == ("__classdict__" : Str)) = false := by decide) (hdb : (x == ("__debug__" : Str)) = false := by decide) (he : starEach (.Name y py :: es) X.env = (false, eval (.Name y py) X.env) :: starEach es X.env := by rfl) (hpl : (backTo pos (starEach es X.env)).any (·.1) = false := by rfl) :
    SO hox X W (.Call (.Name x p) (.Name y py :: es) [] pos) (mCallL i F n ml) :=
  PE.imp (pe_callS FK hr hg hm hk hb (fun σ => L2N.passAt tk σ) (pa_cons (pe_var hN hv hd hcd) ha he) hdb he hpl) fun σ H Q ⟨c, s, st, q⟩ => by
    unfold mCallL at q
    cases e0 : mutAt s i with
    | none => simp only [e0] at q; exact q.elim
    | some w0 =>
      simp only [e0] at q
      obtain ⟨w0, o0⟩ := w0
      obtain ⟨e1, e2⟩ := mutAt_some e0
      obtain ⟨p, hp, _, _⟩ := st.mut e1 e2
      refine ⟨.ref p, hp, c, s, st, q.split.imp fun ds s1 H1 g1 q1 vs rs => ?_⟩
      cases e3 : mutAt s1 i with
      | none => simp only [e3] at q1; exact q1.elim
      | some wo =>
        obtain ⟨w, o⟩ := wo
        simp only [e3] at q1
        obtain ⟨e4, e5⟩ := mutAt_some e3
        obtain ⟨p', hp', hh, ro⟩ := g1.1.mutF e4 e5
        rw [hp] at hp'; cases hp'
        by_cases hl : ds.length + 1 = n
        · rw [if_pos hl] at q1
          refine ⟨hs c s1 σ, p, o, vs, ds, rfl, fun p h => g1.1.hidden h, hh, hl, ro, rs, ?_⟩
          unfold lentOut at q1
          have go : ∀ {H' : Hp} {o' : O}, w.sub = o'.sub → Keep (foot p o) H1 H' → RepO X.K X.mg (hid (hs c s1 σ) H') H' p o' → Go hox X.K X.mg c s1 σ H1 (s1.set i (some (w.re o'))) σ H' := fun {H' o'} hz kp r => g1.1.writeF e4 e5 hp (fun b nb u e => kp b u nb e) (hz.symm.trans (sub_mu e5)) r
          have sub : ∀ (o' : O), w.sub = o'.sub → ∀ b, hs c (s1.set i (some (w.re o'))) σ b → hs c s1 σ b := fun o' hz b z => by
            rcases z with z | z | ⟨j, o2, p2, e2, e3, f⟩
            · exact .inl z
            · exact .inr (.inl z)
            · rcases set_at e2 with ⟨rfl, _, z⟩ | ⟨ne, e2⟩
              · rw [hp] at e3; cases e3
                refine hh b ?_
                have ez : o2.sub = o.sub := by
                  cases w with
                  | val d => cases e5
                  | own ow =>
                    cases z
                    exact hz.symm.trans (sub_mu e5)
                  | bor ow => cases z
                unfold foot at f ⊢
                rw [ez] at f
                exact f
              · exact .inr (.inr ⟨j, o2, p2, e2, e3, f⟩)
          cases e6 : F o ds with
          | ok r s' =>
            cases r with
            | val d =>
              simp only [e6] at q1
              intro v H' kp lr rv
              split at q1
              · rename_i d' o' heq1 heq2
                cases heq1
                by_cases hz : w.sub = o'.sub
                · rw [if_pos hz] at q1
                  have g := go hz kp (lr o' heq2)
                  exact q1 v H' ⟨g, rv.mono (Le.hsub (sub o' hz))⟩
                · rw [if_neg hz] at q1
                  exact q1.elim
              · exact q1.elim
            | own u => simp only [e6] at q1; exact q1.elim
            | bor u => simp only [e6] at q1; exact q1.elim
          | exc z s' =>
            simp only [e6] at q1
            intro cls dd H' kp lr r
            split at q1
            · rename_i o' heq2
              by_cases hz : w.sub = o'.sub
              · rw [if_pos hz] at q1
                have g := go hz kp (lr o' heq2)
                exact q1 cls dd H' g (r.mono (Le.hsub (sub o' hz)))
              · rw [if_neg hz] at q1
                exact q1.elim
            · exact q1.elim
          | bad => simp only [e6] at q1; exact q1.elim
        · rw [if_neg hl] at q1; exact q1.elim
end
end Den

set_option Elab.async false
set_option linter.all false
set_option maxRecDepth 100000
set_option maxHeartbeats 4000000
/-! tuples: repeated once or not at all, turned about -/
namespace L2
open PySem PySem.Spec PyProof.Rows
theorem den_mul1 (l : Addr) (items : Array Value) (n : Nat) (dd : Option Addr) (sl : Array (Option Value)) (x : Int) (u : Tok) (c0 : (decide (x < -(2 ^ 63)) || decide (x ≥ 2 ^ 63)) = false) (c1 : (items.isEmpty || x == 1) = true) :
    Meets (Builtin.«tuple.__mul__» ⟨[.ref l, .int x u], []⟩) (fun _ R s => s.heap.get? l = some { cls := .type "tuple", dict := dd, data := .seq items n, slots := sl } ∧ R (.ok (.ret (Value.ref l))) s) :=
  .of_wp fun prog w A R s h => by
    obtain ⟨hp, g, d, tk, os⟩ := s
    obtain ⟨hl, h⟩ := h
    have f1 := AutoSeq1.idx_int
    wp_walk using wpAny_loadPart' hl
    repeat (first
      | (refine wpAny_ite_false (decide_eq_false (by rw [c0]; exact Bool.false_ne_true)) ?_; wp_walk using wpAny_loadPart' hl)
      | (refine wpAny_ite_true (decide_eq_true c1) ?_; wp_walk using wpAny_loadPart' hl))
    all_goals first | exact ⟨_, rfl, h⟩ | exact h
theorem den_mul0 (l : Addr) (items : Array Value) (n : Nat) (dd : Option Addr) (sl : Array (Option Value)) (x : Int) (u : Tok) (c0 : (decide (x < -(2 ^ 63)) || decide (x ≥ 2 ^ 63)) = false) (c1 : (items.isEmpty || x == 1) = false) (c2 : (decide (x ≤ 0) || items.isEmpty) = true) :
    Meets (Builtin.«tuple.__mul__» ⟨[.ref l, .int x u], []⟩) (fun _ R s => s.heap.get? l = some { cls := .type "tuple", dict := dd, data := .seq items n, slots := sl } ∧
      R (.ok (.ret (Value.ref s.heap.objs.size))) { s with heap := s.heap.push { cls := Value.type "tuple", data := Data.seq #[] }, toks := s.toks }) :=
  .of_wp fun prog w A R s h => by
    obtain ⟨hp, g, d, tk, os⟩ := s
    obtain ⟨hl, h⟩ := h
    have f1 := AutoSeq1.idx_int
    wp_walk using wpAny_loadPart' hl
    repeat (first
      | (refine wpAny_ite_false (decide_eq_false (by rw [c0]; exact Bool.false_ne_true)) ?_; wp_walk using wpAny_loadPart' hl)
      | (refine wpAny_ite_false (decide_eq_false (by rw [c1]; exact Bool.false_ne_true)) ?_; wp_walk using wpAny_loadPart' hl)
      | (refine wpAny_ite_true (decide_eq_true c2) ?_; wp_walk using wpAny_loadPart' hl))
    all_goals first | exact ⟨_, rfl, h⟩ | exact h
end L2
namespace L2
open PySem PySem.Spec PyProof.Rows
section
variable {X : Cx}
/-- t * k, any k -/
def repT (xs : List V) (k : Int) : List V := (List.replicate k.toNat xs).flatten
def rRepA (K : PySem.W.Frag) : R2 := fun x y H Q => ∃ l k xs, x = .ref l ∧ y = .int k ∧ SqT K H l xs ∧ xs ≠ [] ∧ -1000 ≤ k ∧ k ≤ 1000 ∧ xs.length ≤ 1000 ∧
  (k = 1 → Q (.ref l) H) ∧ (k ≠ 1 → ∀ p, H p = none → Q (.ref p) (upd H p (.tup (List.replicate k.toNat xs).flatten)))
theorem op_repA : OpR X (binaryOp .Mult) (rRepA X.K) := by
  intro pins s σ H x y v u Q I rx ry h
  obtain ⟨l, k, xs, rfl, rfl, hT, hne, h1, h2, hz, q1, q2⟩ := h
  by_cases hk : 2 ≤ k
  · exact op_repT pins s σ H _ _ v u Q I rx ry ⟨l, k, xs, rfl, rfl, hT, hne, hk, h2, hz, q2 (by omega)⟩
  cases rx
  obtain ⟨t, rfl⟩ := ry
  obtain ⟨its, r, ⟨⟨cls, dd, data, sl⟩, ho, hc, n, hd⟩, hs⟩ := I.tuple hT
  simp only at hc hd
  subst hc hd
  have hle : its.length = xs.length := r.length.symm
  have hn : its ≠ [] := fun e => hne (by
    rw [e] at hle
    exact List.eq_nil_of_length_eq_zero hle.symm)
  have hi : its.toArray.isEmpty = false := by
    cases its with
    | nil => exact absurd rfl hn
    | cons a b => rfl
  have c0 : (decide (k < -(2 ^ 63)) || decide (k ≥ 2 ^ 63)) = false := by
    rw [decide_eq_false (by omega), decide_eq_false (by omega)] <;> rfl
  by_cases h1k : k = 1
  · subst h1k
    have c1 : (its.toArray.isEmpty || (1 : Int) == 1) = true := by rw [hi]; rfl
    refine wpAny_binaryOp_repeat_ref (T := "tuple") (U := "int") (by decide) ⟨_, ho, rfl⟩ (fun s' => typeIs_int s' 1 t) noFill_tuple_mul F.fills_int_mul F.slot_int_rmul repeat_tuple F.slot_int_index.lookup
      (call_meets F.slot_int_rmul (typeIs_int s 1 t) F.entry_int_rmul (F.args_int_rmul_2 _ _) (int_rmul_tuple 1 t l its.toArray n dd sl)
        ⟨ho, rfl, ⟨_, ho, rfl⟩, call_meets F.slot_tuple_mul ⟨_, ho, rfl⟩ F.entry_tuple_mul (F.args_tuple_mul_2 _ _) (den_mul1 l its.toArray n dd sl 1 t c0 c1) ⟨ho, ?_⟩⟩)
    exact ⟨.ref l, H, I, rfl, q1 rfl⟩
  · have c1 : (its.toArray.isEmpty || k == 1) = false := by
      rw [hi, Bool.false_or]
      exact beq_eq_false_iff_ne.mpr h1k
    have c2 : (decide (k ≤ 0) || its.toArray.isEmpty) = true := by
      rw [decide_eq_true (by omega)]; rfl
    refine wpAny_binaryOp_repeat_ref (T := "tuple") (U := "int") (by decide) ⟨_, ho, rfl⟩ (fun s' => typeIs_int s' k t) noFill_tuple_mul F.fills_int_mul F.slot_int_rmul repeat_tuple F.slot_int_index.lookup
      (call_meets F.slot_int_rmul (typeIs_int s k t) F.entry_int_rmul (F.args_int_rmul_2 _ _) (int_rmul_tuple k t l its.toArray n dd sl)
        ⟨ho, rfl, ⟨_, ho, rfl⟩, call_meets F.slot_tuple_mul ⟨_, ho, rfl⟩ F.entry_tuple_mul (F.args_tuple_mul_2 _ _) (den_mul0 l its.toArray n dd sl k t c0 c1 c2) ⟨ho, ?_⟩⟩)
    have e0 : (List.replicate k.toNat xs).flatten = [] := by rw [show k.toNat = 0 by omega]; rfl
    have q3 := q2 h1k
    rw [e0] at q3
    refine ⟨.ref s.heap.objs.size, _, I.laid (t' := s.toks) (o := .tup []) (fun b ob q => Heap.get?_push_of_some _ q) (Nat.le_refl _) ?_, rfl, q3 _ (I.hok.fresh (Nat.le_refl _))⟩
    exact ⟨Nat.zero_le _, [], .nil, IsTup.new _ _⟩
def tRevT (K : PySem.W.Frag) (te : TE) : TE := fun σ H Q => te σ H fun x H1 => ∃ a xs, x = .ref a ∧ SqT K H1 a xs ∧ ((xs.length ≤ 0 → False) → ∀ p, H1 p = none → Q (.ref p) (upd H1 p (.tup xs.reverse))) ∧ (xs = [] → ∀ p, H1 p = none → Q (.ref p) (upd H1 p (.tup [])))
def tRevA (K : PySem.W.Frag) (te : TE) : TE := fun σ H Q => te σ H fun x H1 => ∃ a xs, x = .ref a ∧ SqT K H1 a xs ∧ ∀ p, H1 p = none → Q (.ref p) (upd H1 p (.tup xs.reverse))
end
end L2

set_option Elab.async false
set_option linter.all false
set_option maxRecDepth 100000
set_option maxHeartbeats 4000000
namespace Den
variable {hox : Option Addr}
open PySem PySem.Spec PyProof.Rows L2

/-! ### operators on data -/
section
variable {K : PySem.W.Frag} {mg : Str → Option Value} {h : Addr → Prop} {H : Hp}
theorem new_lst {p : Addr} {ws : List V} {zs : List D} (nh : ∀ p, h p → ∃ o, H p = some o) (n : H p = none) (r : RepL K mg (hid h H) ws zs) : Rep K mg (hid h (upd H p (.lst ws))) (.ref p) (.lst zs) := by
  have np : ¬ h p := fun z => by
    obtain ⟨o, e⟩ := nh p z
    rw [n] at e; cases e
  exact .lst ((hid_no np).trans upd_same) (r.mono (hid_le fun b o nb e => ⟨nb, same_new n b o e⟩))
theorem new_tup {p : Addr} {ws : List V} {zs : List D} (nh : ∀ p, h p → ∃ o, H p = some o) (n : H p = none) (r : RepL K mg (hid h H) ws zs) : Rep K mg (hid h (upd H p (.tup ws))) (.ref p) (.tup zs) := by
  have np : ¬ h p := fun z => by
    obtain ⟨o, e⟩ := nh p z
    rw [n] at e; cases e
  exact .tup ((hid_no np).trans upd_same) (r.mono (hid_le fun b o nb e => ⟨nb, same_new n b o e⟩))
end
def gAdd : D → D → Option D
  | .int i, .int j => some (.int (i + j))
  | .str x, .str y => if fits (x.length + y.length) = true then some (.str (x ++ y)) else none
  | .tup xs, .tup ys => if fits (xs.length + ys.length) = true then some (.tup (xs ++ ys)) else none
  | .lst xs, .lst ys => if fits (xs.length + ys.length) = true then some (.lst (xs ++ ys)) else none
  | _, _ => none
def rAdds (K : PySem.W.Frag) : R2 := fun x y H Q => rI0 (fun i j => .int (i + j)) x y H Q ∨ (∃ i j, x = .str i ∧ y = .str j ∧ i.length + j.length ≤ sizeLine ∧ Q (.str (i ++ j)) H) ∨ rCatA K x y H Q ∨ rCat x y H Q
theorem op_adds {X : Cx} : OpR X (binaryOp .Add) (rAdds X.K) := op_add.or (op_add_str.or (op_catA.or op_cat))
theorem r2_add {K : PySem.W.Frag} {mg : Str → Option Value} : R2S K mg (rAdds K) gAdd := by
  intro h H x y dx dy dz Q nh rx ry e q
  unfold gAdd at e
  split at e
  · cases rx; cases ry; cases e
    exact .inl ⟨_, _, rfl, rfl, q _ H (Same.refl _) (.int _)⟩
  · split at e
    · rename_i f
      cases rx; cases ry; cases e
      exact .inr (.inl ⟨_, _, rfl, rfl, fits_le f, q _ H (Same.refl _) (.str _)⟩)
    · cases e
  · split at e
    · rename_i xs ys f
      cases e
      obtain ⟨a, vs, rfl, ht, rl⟩ : ∃ a vs, x = .ref a ∧ (hid h H) a = some (.tup vs) ∧ RepL K mg (hid h H) vs xs := by cases rx with | tup a b => exact ⟨_, _, rfl, a, b⟩
      obtain ⟨b, ws, rfl, ht', rl'⟩ : ∃ a vs, y = .ref a ∧ (hid h H) a = some (.tup vs) ∧ RepL K mg (hid h H) vs ys := by cases ry with | tup a b => exact ⟨_, _, rfl, a, b⟩
      refine .inr (.inr (.inl ⟨a, b, vs, ws, rfl, rfl, .inl (.inl (hid_some ht).2), .inl (.inl (hid_some ht').2), by rw [rl.length, rl'.length]; exact fits_le f, fun z => ?_, fun _ z => ?_, fun _ _ p n => ?_⟩))
      · subst z
        cases rl
        exact q _ H (Same.refl _) (.tup ht' rl')
      · subst z
        cases rl'
        rw [List.append_nil] at q
        exact q _ H (Same.refl _) (.tup ht rl)
      · exact q _ _ (same_new n) (new_tup nh n (rl.append rl'))
    · cases e
  · split at e
    · rename_i xs ys f
      cases e
      obtain ⟨a, vs, rfl, ht, rl⟩ : ∃ a vs, x = .ref a ∧ (hid h H) a = some (.lst vs) ∧ RepL K mg (hid h H) vs xs := by cases rx with | lst a b => exact ⟨_, _, rfl, a, b⟩
      obtain ⟨b, ws, rfl, ht', rl'⟩ : ∃ a vs, y = .ref a ∧ (hid h H) a = some (.lst vs) ∧ RepL K mg (hid h H) vs ys := by cases ry with | lst a b => exact ⟨_, _, rfl, a, b⟩
      exact .inr (.inr (.inr ⟨a, b, vs, ws, rfl, rfl, (hid_some ht).2, (hid_some ht').2, by rw [rl.length, rl'.length]; exact fits_le f, fun p n => q _ _ (same_new n) (new_lst nh n (rl.append rl'))⟩))
    · cases e
  · cases e
def gSub : D → D → Option D
  | .int i, .int j => some (.int (i - j))
  | _, _ => none
def i64 (i : Int) : Bool := decide (-(2 ^ 64) < i) && decide (i < 2 ^ 64)
theorem i64_iff {j : Int} (h : i64 j = true) : -(2 ^ 64) < j ∧ j < 2 ^ 64 := by
  unfold i64 at h
  rw [Bool.and_eq_true] at h
  exact ⟨of_decide_eq_true h.1, of_decide_eq_true h.2⟩
def gMul : D → D → Option D
  | .int i, .int j => if (i64 i || i64 j) = true then some (.int (i * j)) else none
  | .tup xs, .int k => if (!xs.isEmpty && decide (-1000 ≤ k) && decide (k ≤ 1000) && decide (xs.length ≤ 1000)) = true then some (.tup (List.replicate k.toNat xs).flatten) else none
  | .lst xs, .int k => if (decide (-1000 ≤ k) && decide (k ≤ 1000) && decide (xs.length ≤ 1000)) = true then some (.lst (List.replicate k.toNat xs).flatten) else none
  | _, _ => none
def rMuls (K : PySem.W.Frag) : R2 := fun x y H Q => rI CMul (fun i j => .int (i * j)) x y H Q ∨ rRepA K x y H Q ∨ rRep x y H Q
theorem op_muls {X : Cx} : OpR X (binaryOp .Mult) (rMuls X.K) := op_mul.or (op_repA.or op_rep)
theorem repL_rep {K : PySem.W.Frag} {mg : Str → Option Value} {G : Hp} {vs : List V} {ds : List D} (r : RepL K mg G vs ds) : ∀ k : Nat, RepL K mg G (List.replicate k vs).flatten (List.replicate k ds).flatten
  | 0 => .nil
  | k + 1 => by
    rw [List.replicate_succ, List.replicate_succ, List.flatten_cons, List.flatten_cons]
    exact r.append (repL_rep r k)
theorem r2_mul {K : PySem.W.Frag} {mg : Str → Option Value} : R2S K mg (rMuls K) gMul := by
  intro h H x y dx dy dz Q nh rx ry e q
  unfold gMul at e
  split at e
  · split at e
    · rename_i f
      cases rx; cases ry; cases e
      refine .inl ⟨_, _, rfl, rfl, ?_, q _ H (Same.refl _) (.int _)⟩
      rw [Bool.or_eq_true] at f
      rcases f with f | f
      · exact .inl (i64_iff f)
      · exact .inr (i64_iff f)
    · cases e
  · split at e
    · rename_i xs k f
      cases e
      simp only [Bool.and_eq_true, decide_eq_true_eq, Bool.not_eq_true'] at f
      obtain ⟨⟨⟨f1, f2⟩, f3⟩, f4⟩ := f
      cases ry
      obtain ⟨a, vs, rfl, ht, rl⟩ : ∃ a vs, x = .ref a ∧ (hid h H) a = some (.tup vs) ∧ RepL K mg (hid h H) vs xs := by cases rx with | tup a b => exact ⟨_, _, rfl, a, b⟩
      refine .inr (.inl ⟨a, k, vs, rfl, rfl, .inl (.inl (hid_some ht).2), fun z => ?_, f2, f3, by rw [rl.length]; exact f4, fun z => ?_, fun _ p n => ?_⟩)
      · subst z
        cases rl
        cases f1
      · subst z
        rw [show (List.replicate (1 : Int).toNat xs).flatten = xs by simp [List.replicate]] at q
        exact q _ H (Same.refl _) (.tup ht rl)
      · exact q _ _ (same_new n) (new_tup nh n (repL_rep rl k.toNat))
    · cases e
  · split at e
    · rename_i xs k f
      cases e
      simp only [Bool.and_eq_true, decide_eq_true_eq] at f
      obtain ⟨⟨f2, f3⟩, f4⟩ := f
      cases ry
      obtain ⟨a, vs, rfl, ht, rl⟩ : ∃ a vs, x = .ref a ∧ (hid h H) a = some (.lst vs) ∧ RepL K mg (hid h H) vs xs := by cases rx with | lst a b => exact ⟨_, _, rfl, a, b⟩
      refine .inr (.inr ⟨a, k, vs, rfl, rfl, (hid_some ht).2, by omega, by omega, ?_, fun p n => q _ _ (same_new n) (new_lst nh n (repL_rep rl k.toNat))⟩)
      rw [rl.length, sizeLine_eq]
      have : xs.length * k.toNat ≤ 1000 * 1000 := Nat.mul_le_mul f4 (by omega)
      omega
    · cases e
  · cases e
def gFDiv : D → D → Option D
  | .int i, .int j => if (decide (0 < j) && decide (j.natAbs.log2 < 9000)) = true then some (.int (i / j)) else none
  | _, _ => none
theorem r2_fdiv {K : PySem.W.Frag} {mg : Str → Option Value} : R2S K mg (rI CDivW fun i j => .int (i / j)) gFDiv := by
  intro h H x y dx dy dz Q nh rx ry e q
  unfold gFDiv at e
  split at e
  · split at e
    · rename_i f
      rw [Bool.and_eq_true] at f
      cases rx; cases ry; cases e
      exact ⟨_, _, rfl, rfl, ⟨of_decide_eq_true f.1, of_decide_eq_true f.2⟩, q _ H (Same.refl _) (.int _)⟩
    · cases e
  · cases e
def gMod : D → D → Option D
  | .int i, .int j => if 0 < j then some (.int (i % j)) else none
  | _, _ => none
theorem r2_mod {K : PySem.W.Frag} {mg : Str → Option Value} : R2S K mg (rI (fun _ j => 0 < j) fun i j => .int (i % j)) gMod := by
  intro h H x y dx dy dz Q nh rx ry e q
  unfold gMod at e
  split at e
  · split at e
    · rename_i f
      cases rx; cases ry; cases e
      exact ⟨_, _, rfl, rfl, f, q _ H (Same.refl _) (.int _)⟩
    · cases e
  · cases e
def gPow : D → D → Option D
  | .int i, .int j => if (decide (0 ≤ j) && decide (j ≤ 1000000) && decide (i.natAbs < 2 ^ 64)) = true then some (.int (i ^ j.toNat)) else none
  | _, _ => none
theorem r2_pow {K : PySem.W.Frag} {mg : Str → Option Value} : R2S K mg (rI CPow fun i j => .int (i ^ j.toNat)) gPow := by
  intro h H x y dx dy dz Q nh rx ry e q
  unfold gPow at e
  split at e
  · split at e
    · rename_i f
      simp only [Bool.and_eq_true, decide_eq_true_eq] at f
      cases rx; cases ry; cases e
      exact ⟨_, _, rfl, rfl, ⟨f.1.1, f.1.2, f.2⟩, q _ H (Same.refl _) (.int _)⟩
    · cases e
  · cases e
def gNeg : D → Option D
  | .int i => some (.int (-i))
  | _ => none
theorem r1_neg {K : PySem.W.Frag} {mg : Str → Option Value} : R1S K mg (rU fun i => .int (-i)) gNeg := by
  intro h H x dx dz Q nh rx e q
  unfold gNeg at e
  split at e
  · cases rx; cases e
    exact ⟨_, rfl, q _ H (Same.refl _) (.int _)⟩
  · cases e
/-! comparisons -/
mutual
def D.py : D → Option PyData
  | .non => some .none
  | .bl b => some (.bool b)
  | .int i => some (.int i)
  | .str x => some (.str x)
  | .tup xs => (D.pyL xs).map .tuple
  | .lst xs => (D.pyL xs).map .list
  | _ => none
def D.pyL : List D → Option (List PyData)
  | [] => some []
  | d :: ds => match D.py d, D.pyL ds with
    | some a, some as => some (a :: as)
    | _, _ => none
end
section
variable {K : PySem.W.Frag} {mg : Str → Option Value} {G G' : Hp} (l : Le G G')
mutual
theorem py_dp : ∀ {v : V} {d : D} {p : PyData}, Rep K mg G v d → d.py = some p → Dp K G v p
  | _, _, _, .non, e => by simp only [D.py, Option.some.injEq] at e; subst e; exact .non
  | _, _, _, .bl b, e => by simp only [D.py, Option.some.injEq] at e; subst e; exact .bl b
  | _, _, _, .int b, e => by simp only [D.py, Option.some.injEq] at e; subst e; exact .int b
  | _, _, _, .str b, e => by simp only [D.py, Option.some.injEq] at e; subst e; exact .str b
  | _, .tup xs, p, .tup h r, e => by
    simp only [D.py] at e
    cases z : D.pyL xs with
    | none => rw [z] at e; cases e
    | some ps => rw [z] at e; cases e; exact .tup (.inl (.inl h)) (pyL_dp r z)
  | _, .lst xs, p, .lst h r, e => by
    simp only [D.py] at e
    cases z : D.pyL xs with
    | none => rw [z] at e; cases e
    | some ps => rw [z] at e; cases e; exact .lst (.of h) (pyL_dp r z)
  | _, _, _, .dic _ _, e => by simp only [D.py] at e; cases e
  | _, _, _, .obj _ _ _, e => by simp only [D.py] at e; cases e
  | _, _, _, .scr _, e => by simp only [D.py] at e; cases e
  | _, _, _, .ktup _ _, e => by simp only [D.py] at e; cases e
  | _, _, _, .exn0 _ _ _, e => by simp only [D.py] at e; cases e
  | _, _, _, .exnD _ _ _ _ _, e => by simp only [D.py] at e; cases e
theorem pyL_dp : ∀ {vs : List V} {ds : List D} {ps : List PyData}, RepL K mg G vs ds → D.pyL ds = some ps → DpAll K G vs ps
  | _, _, _, .nil, e => by simp only [D.pyL, Option.some.injEq] at e; subst e; exact .nil
  | _, d :: ds, ps, .cons r rs, e => by
    simp only [D.pyL] at e
    cases z1 : d.py with
    | none => rw [z1] at e; cases e
    | some a =>
      cases z2 : D.pyL ds with
      | none => rw [z1, z2] at e; cases e
      | some as => rw [z1, z2] at e; cases e; exact .cons (py_dp r z1) (pyL_dp rs z2)
end
end
theorem dp_le {K : PySem.W.Frag} {G G' : Hp} (l : Le G G') : ∀ (p : PyData) (v : V), Dp K G v p → Dp K G' v p := by
  intro p v h
  exact Dp.rec (K := K) (H := G) (motive_1 := fun v p _ => Dp K G' v p) (motive_2 := fun vs ps _ => DpAll K G' vs ps) .non (fun b => .bl b) (fun b => .int b) (fun b => .str b)
    (fun h _ ih => .lst (l.sqL h) ih) (fun h _ ih => .tup (l.sqT h) ih) .nil (fun _ _ a b => .cons a b) h
/-- == of data -/
def eqD (x y : D) : Option Bool := match x.py, y.py with
  | some a, some b => if (SeqAt.shaped a && SeqAt.shaped b) = true then some (PyData.eqv a b) else none
  | _, _ => none
def gEq (x y : D) : Option D := (eqD x y).map .bl
def gNe (x y : D) : Option D := (eqD x y).map fun b => .bl (!b)
theorem eqD_dp {K : PySem.W.Frag} {mg : Str → Option Value} {G G' : Hp} {x y : V} {dx dy : D} {b : Bool} (l : Le G G') (rx : Rep K mg G x dx) (ry : Rep K mg G y dy) (e : eqD dx dy = some b) : ∃ p q, Dp K G' x p ∧ Dp K G' y q ∧ SeqAt.shaped p = true ∧ SeqAt.shaped q = true ∧ PyData.eqv p q = b := by
  unfold eqD at e
  split at e
  · rename_i p q e1 e2
    split at e
    · rename_i f
      cases e
      rw [Bool.and_eq_true] at f
      exact ⟨p, q, dp_le l _ _ (py_dp rx e1), dp_le l _ _ (py_dp ry e2), f.1, f.2, rfl⟩
    · cases e
  · cases e
theorem r2_eq {K : PySem.W.Frag} {mg : Str → Option Value} : R2S K mg (rEqD K) gEq := by
  intro h H x y dx dy dz Q nh rx ry e q
  unfold gEq at e
  cases z : eqD dx dy with
  | none => rw [z] at e; cases e
  | some b =>
    rw [z] at e; cases e
    obtain ⟨p, p', a1, a2, a3, a4, a5⟩ := eqD_dp hid_base rx ry z
    exact ⟨p, p', a1, a2, a3, a4, by rw [a5]; exact q _ H (Same.refl _) (.bl _)⟩
theorem r2_ne {K : PySem.W.Frag} {mg : Str → Option Value} : R2S K mg (rNeD K) gNe := by
  intro h H x y dx dy dz Q nh rx ry e q
  unfold gNe at e
  cases z : eqD dx dy with
  | none => rw [z] at e; cases e
  | some b =>
    rw [z] at e; cases e
    obtain ⟨p, p', a1, a2, a3, a4, a5⟩ := eqD_dp hid_base rx ry z
    exact ⟨p, p', a1, a2, a3, a4, by rw [a5]; exact q _ H (Same.refl _) (.bl _)⟩
def gCmp (f : Int → Int → Bool) : D → D → Option D
  | .int i, .int j => some (.bl (f i j))
  | _, _ => none
theorem r2_cmp {K : PySem.W.Frag} {mg : Str → Option Value} {f : Int → Int → Bool} : R2S K mg (rI0 fun i j => .bl (f i j)) (gCmp f) := by
  intro h H x y dx dy dz Q nh rx ry e q
  unfold gCmp at e
  split at e
  · cases rx; cases ry; cases e
    exact ⟨_, _, rfl, rfl, q _ H (Same.refl _) (.bl _)⟩
  · cases e
def lt' (i j : Int) : Bool := decide (i < j)
def le' (i j : Int) : Bool := decide (i ≤ j)
def gt' (i j : Int) : Bool := decide (j < i)
def ge' (i j : Int) : Bool := decide (j ≤ i)
def D.isN : D → Bool
  | .non => true
  | _ => false
theorem rep_isN {K : PySem.W.Frag} {mg : Str → Option Value} {G : Hp} {v : V} {d : D} (r : Rep K mg G v d) : decide (v = .non) = d.isN := by
  cases r <;> rfl
def gIsN (x y : D) : Option D := if y.isN = true then some (.bl x.isN) else none
def gNotN (x y : D) : Option D := if y.isN = true then some (.bl (!x.isN)) else none
theorem isN_non {K : PySem.W.Frag} {mg : Str → Option Value} {G : Hp} {v : V} {d : D} (r : Rep K mg G v d) (h : d.isN = true) : v = .non := of_decide_eq_true ((rep_isN r).trans h)
theorem r2_isN {K : PySem.W.Frag} {mg : Str → Option Value} : R2S K mg (fun x y H Q => y = .non ∧ Q (.bl (decide (x = .non))) H) gIsN := by
  intro h H x y dx dy dz Q nh rx ry e q
  unfold gIsN at e
  split at e
  · rename_i f
    cases e
    exact ⟨isN_non ry f, by rw [rep_isN rx]; exact q _ H (Same.refl _) (.bl _)⟩
  · cases e
/-! in -/
def flatD : D → Bool
  | .non => true
  | .bl _ => true
  | .int _ => true
  | .str _ => true
  | _ => false
def eqF : D → D → Bool
  | .non, .non => true
  | .bl a, .bl b => a == b
  | .bl a, .int b => (if a then 1 else 0) == b
  | .int a, .bl b => a == (if b then 1 else 0)
  | .int a, .int b => a == b
  | .str a, .str b => a == b
  | _, _ => false
def gIn (x y : D) : Option D := match y.items with
  | some ds => if (flatD x && ds.all flatD) = true then some (.bl (ds.any fun d => eqF d x)) else none
  | none => none
def gNotIn (x y : D) : Option D := match y.items with
  | some ds => if (flatD x && ds.all flatD) = true then some (.bl (!(ds.any fun d => eqF d x))) else none
  | none => none
theorem items_sq {K : PySem.W.Frag} {mg : Str → Option Value} {h : Addr → Prop} {H : Hp} {y : V} {dy : D} {ds : List D} (ry : Rep K mg (hid h H) y dy) (e : dy.items = some ds) : ∃ p xs, y = .ref p ∧ (SqL K H p xs ∨ SqT K H p xs) ∧ RepL K mg (hid h H) xs ds := by
  cases ry with
  | tup a b => cases e; exact ⟨_, _, rfl, .inr (.inl (.inl (hid_some a).2)), b⟩
  | ktup a b => cases e; exact ⟨_, _, rfl, .inr (Le.sqT hid_base a), b⟩
  | lst a b => cases e; exact ⟨_, _, rfl, .inl (.of (hid_some a).2), b⟩
  | scr a => cases e; exact ⟨_, _, rfl, .inl (Le.sqL hid_base a), repL_ints _⟩
  | _ => cases e
/-! subscripts -/
def gIx : D → D → Option D
  | .str x, .int i => if fits x.length = true then (atI x.cps.toList i).map fun c => .str ⟨#[c]⟩ else none
  | d, .int i => match d.items with
    | some ds => atI ds i
    | none => none
  | _, _ => none
theorem repL_atI {K : PySem.W.Frag} {mg : Str → Option Value} {G : Hp} {vs : List V} {ds : List D} {i : Int} {d : D} (r : RepL K mg G vs ds) (e : atI ds i = some d) : ∃ v, atI vs i = some v ∧ Rep K mg G v d := by
  unfold atI at e ⊢
  rw [r.length]
  cases z : ixN ds.length i with
  | none => rw [z] at e; cases e
  | some j =>
    rw [z] at e
    exact r.get e
theorem r2_ix {K : PySem.W.Frag} {mg : Str → Option Value} : R2S K mg (rIx K) gIx := by
  intro h H x y dx dy dz Q nh rx ry e q
  unfold gIx at e
  split at e
  · split at e
    · rename_i z i f
      cases rx; cases ry
      cases hz : atI z.cps.toList i with
      | none => rw [hz] at e; cases e
      | some c =>
        rw [hz] at e; cases e
        exact .inr (.inr ⟨_, _, c, rfl, rfl, fits_le f, hz, q _ H (Same.refl _) (.str _)⟩)
    · cases e
  · rename_i i _
    cases ry
    split at e
    · rename_i ds ei
      obtain ⟨p, xs, rfl, hs, rl⟩ := items_sq rx ei
      obtain ⟨v, e1, rv⟩ := repL_atI rl e
      rcases hs with hs | hs
      · exact .inl ⟨p, xs, _, v, rfl, rfl, hs, e1, q _ H (Same.refl _) rv⟩
      · exact .inr (.inl ⟨p, xs, _, v, rfl, rfl, hs, e1, q _ H (Same.refl _) rv⟩)
    · cases e
  · cases e
end Den

set_option Elab.async false
set_option linter.all false
set_option maxRecDepth 100000
set_option maxHeartbeats 4000000
namespace Den
variable {hox : Option Addr}
open PySem PySem.Spec PyProof.Rows L2

/-! ### slices -/
def cutD (xs : List D) (lo hi : Option Int) : List D := (xs.drop (HT.sIx xs.length 0 lo)).take (HT.sIx xs.length xs.length hi - HT.sIx xs.length 0 lo)
def gSl (d : D) (lo hi : Option Int) : Option D := match d with
  | .tup xs => some (.tup (cutD xs lo hi))
  | .lst xs => some (.lst (cutD xs lo hi))
  | .str z => if fits z.length = true then some (.str (cutS z lo hi)) else none
  | _ => none
def rSls (K : PySem.W.Frag) : V → Option Int → Option Int → Hp → VK → Prop := fun x lo hi H Q => rSlL K x lo hi H Q ∨ rSlA K x lo hi H Q ∨ rSlS x lo hi H Q
abbrev MP := S → Out (Option Int)
def pNo : MP := fun s => .ok none s
def pSo (m : MD) : MP := fun s => (m s).bind fun d s1 => match d with
  | .int i => .ok (some i) s1
  | _ => .bad
def tPo (hox : Option Addr) (K : PySem.W.Frag) (mg : Str → Option Value) (W : WX) (m : MP) : TO := fun σ H Q => ∃ c s, StR hox K mg c s σ H ∧ Res hox K mg c s σ H W (fun o s' H' => Q o H') (m s)
abbrev SP (hox : Option Addr) (X : Cx) (W : WX) (e : Option Expr) (m : MP) : Prop := PO X e (tPo hox X.K X.mg W m)
theorem PO.imp {X : Cx} {e : Option Expr} {t t' : TO} (h : PO X e t) (i : ∀ σ H Q, t' σ H Q → t σ H Q) : PO X e t' := ⟨fun pins s σ H Q I q => h.run pins s σ H Q I (i σ H Q q)⟩
def mSl (m : MD) (lo hi : MP) : MD := fun s => (m s).bind fun d s1 => (lo s1).bind fun a s2 => (hi s2).bind fun b s3 => o2 (gSl d a b) s3
section
variable {X : Cx} {W : WX} {a b e : Expr} {es : List Expr} {ma mb m : MD} {mo : MO} {ml : ML} {pos p p2 : Pos} {x : Str} {lo hi : Option Expr} {ml' mh : MP}
/-- t[::-1], t a tuple -/
def mRev (m : MD) : MD := fun s => (m s).bind fun d s1 => match d with
  | .tup xs => .ok (.tup xs.reverse) s1
  | _ => .bad
/-! ### calls of built-ins -/
section
variable {K : PySem.W.Frag} {mg : Str → Option Value}
def gLen : List D → Option D
  | [.str z] => if fits z.length = true then some (.int (z.length : Nat)) else none
  | [d] => d.items.map fun ds => .int (ds.length : Nat)
  | _ => none
def rLens (K : PySem.W.Frag) : List V → Hp → VK → Prop := fun xs H Q => (∃ p ys, xs = [.ref p] ∧ (SqL K H p ys ∨ SqT K H p ys) ∧ Q (.int ys.length) H) ∨ ∃ z, xs = [.str z] ∧ z.length ≤ sizeLine ∧ Q (.int z.length) H
theorem call_lens {X : Cx} : CallR X (.builtin "len") (rLens X.K) := call_len_seq.or call_len_str
theorem rc_len : RCS K mg (rLens K) gLen := by
  intro h H xs ds dz Q nh r e q
  unfold gLen at e
  split at e
  · split at e
    · rename_i z f
      cases e
      match xs, r with
      | _, .cons (.str _) .nil => exact .inr ⟨z, rfl, fits_le f, q _ H (Same.refl _) (.int _)⟩
    · cases e
  · rename_i d _
    cases z : d.items with
    | none => rw [z] at e; cases e
    | some es =>
      rw [z] at e; cases e
      match xs, r with
      | _, .cons r1 .nil =>
        obtain ⟨p, ys, rfl, hs, rl⟩ := items_sq r1 z
        exact .inl ⟨p, ys, rfl, hs, by rw [rl.length]; exact q _ H (Same.refl _) (.int _)⟩
  · cases e
def gTuple : List D → Option D
  | [.ktup _] => none
  | [d] => d.items.map .tup
  | _ => none
def gList : List D → Option (List D)
  | [d] => d.items
  | _ => none
def gAbs : List D → Option D
  | [.int i] => some (.int (if i < 0 then -i else i))
  | _ => none
theorem rc_abs : RCS K mg (fun xs H Q => ∃ i, xs = [.int i] ∧ Q (.int (if i < 0 then -i else i)) H) gAbs := by
  intro h H xs ds dz Q nh r e q
  unfold gAbs at e
  split at e
  · cases e
    match xs, r with
    | _, .cons (.int _) .nil => exact ⟨_, rfl, q _ H (Same.refl _) (.int _)⟩
  · cases e
def gInt : List D → Option D
  | [.int i] => some (.int i)
  | [.bl k] => some (.int (if k then 1 else 0))
  | _ => none
theorem rc_int : RCS K mg (fun xs H Q => (∃ i, xs = [.int i] ∧ Q (.int i) H) ∨ ∃ k, xs = [.bl k] ∧ Q (.int (if k then 1 else 0)) H) gInt := by
  intro h H xs ds dz Q nh r e q
  unfold gInt at e
  split at e
  · cases e
    match xs, r with
    | _, .cons (.int _) .nil => exact .inl ⟨_, rfl, q _ H (Same.refl _) (.int _)⟩
  · cases e
    match xs, r with
    | _, .cons (.bl _) .nil => exact .inr ⟨_, rfl, q _ H (Same.refl _) (.int _)⟩
  · cases e
def D.ints : List D → Option (List Int)
  | [] => some []
  | .int i :: r => (D.ints r).map (i :: ·)
  | _ => none
def D.bools : List D → Option (List Bool)
  | [] => some []
  | .bl i :: r => (D.bools r).map (i :: ·)
  | _ => none
theorem rep_bools {G : Hp} : ∀ {vs : List V} {ds : List D} {ns : List Bool}, RepL K mg G vs ds → D.bools ds = some ns → vs = ns.map V.bl
  | _, [], _, .nil, e => by cases e; rfl
  | _, d :: ds, ns, .cons r rs, e => by
    unfold D.bools at e
    split at e
    · rename_i h; cases h
    · rename_i i t heq
      cases heq
      cases z : D.bools ds with
      | none => rw [z] at e; cases e
      | some ms =>
        rw [z] at e; cases e
        cases r
        rw [rep_bools rs z, List.map_cons]
    · cases e
def bAllD : List D → Option (List Bool)
  | [.lst ds] => D.bools ds
  | _ => none
def gAll (ds : List D) : Option D := (bAllD ds).map fun bs => .bl (bs.all id)
def gAny (ds : List D) : Option D := (bAllD ds).map fun bs => .bl (bs.any id)
theorem bAll_rep {h : Addr → Prop} {H : Hp} {xs : List V} {ds : List D} {bs : List Bool} (r : RepL K mg (hid h H) xs ds) (e : bAllD ds = some bs) : ∃ a, xs = [.ref a] ∧ SqL K H a (bs.map V.bl) := by
  unfold bAllD at e
  split at e
  · match xs, r with
    | _, .cons (.lst a b) .nil => exact ⟨_, rfl, by rw [← rep_bools b e]; exact .of (hid_some a).2⟩
  · cases e
theorem rc_all : RCS K mg (rAll K) gAll := by
  intro h H xs ds dz Q nh r e q
  unfold gAll at e
  cases z : bAllD ds with
  | none => rw [z] at e; cases e
  | some bs =>
    rw [z] at e; cases e
    obtain ⟨a, ex, hs⟩ := bAll_rep r z
    exact ⟨a, bs, ex, hs, q _ H (Same.refl _) (.bl _)⟩
def iArg : List D → Option (List Int)
  | [.lst ds] => D.ints ds
  | _ => none
def gSum (ds : List D) : Option D := (iArg ds).map fun ns => .int ns.sum
def maxI : List Int → Int
  | [] => 0
  | [x] => x
  | x :: r => if maxI r < x then x else maxI r
def minI : List Int → Int
  | [] => 0
  | [x] => x
  | x :: r => if x < minI r then x else minI r
def gMax (ds : List D) : Option D := match ds with
  | [.int i, .int j] => some (.int (if j > i then j else i))
  | ds => match iArg ds with
    | some (n :: ns) => some (.int (maxI (n :: ns)))
    | _ => none
def gMin (ds : List D) : Option D := match ds with
  | [.int i, .int j] => some (.int (if j < i then j else i))
  | ds => match iArg ds with
    | some (n :: ns) => some (.int (minI (n :: ns)))
    | _ => none
def rMaxs (K : PySem.W.Frag) : List V → Hp → VK → Prop := fun xs H Q => (∃ i j, xs = [.int i, .int j] ∧ Q (.int (if j > i then j else i)) H) ∨ rMax K xs H Q
def rMins (K : PySem.W.Frag) : List V → Hp → VK → Prop := fun xs H Q => (∃ i j, xs = [.int i, .int j] ∧ Q (.int (if j < i then j else i)) H) ∨ rMin K xs H Q
end
/-! ### isinstance -/
def D.ty : D → String
  | .non => "NoneType"
  | .bl _ => "bool"
  | .int _ => "int"
  | .str _ => "str"
  | .tup _ => "tuple"
  | .ktup _ => "tuple"
  | .lst _ => "list"
  | .scr _ => "list"
  | .dic _ => "dict"
  | .obj _ _ => ""
  | .exn _ _ => ""
def gIsi (T : String) (d : D) : Option D := match kitB d.ty T with
  | some b => match d with
    | .obj _ _ => none
    | .exn _ _ => none
    | _ => some (.bl b)
  | none => none
def mIsi (T : String) (m : MD) : MD := mUn (gIsi T) m
theorem rep_ty {K : PySem.W.Frag} {mg : Str → Option Value} {h : Addr → Prop} {H : Hp} {v : V} {d : D} (r : Rep K mg (hid h H) v d) (hd : ∀ c fs, d ≠ .obj c fs) (hx : ∀ c fs, d ≠ .exn c fs) : TyX K H v (.type d.ty) := by
  cases r with
  | non => exact .base .non
  | bl b => exact .base (.bl b)
  | int b => exact .base (.int b)
  | str b => exact .base (.str b)
  | tup a b => exact .base (.tup (hid_some a).2)
  | ktup a b =>
    rcases Le.sqT hid_base a with (z | ⟨o, z⟩) | ⟨o, its, n, z, c, _⟩
    · exact .base (.tup z)
    · exact .fTuple z
    · exact .kTuple z c
  | lst a b => exact .base (.lst (hid_some a).2)
  | scr a =>
    rcases Le.sqL hid_base a with (z | ⟨o, z⟩) | ⟨o, its, n, z, c, _⟩
    · exact .base (.lst z)
    · exact .base (.frz z)
    · exact .kList z c
  | dic a b =>
    rcases Le.rd hid_base _ _ (.inr ⟨_, a⟩) with z | ⟨o, z⟩
    · exact .base (.dK z)
    · exact .fDict z
  | obj _ _ _ => exact absurd rfl (hd _ _)
  | exn0 _ _ _ => exact absurd rfl (hx _ _)
  | exnD _ _ _ _ _ => exact absurd rfl (hx _ _)
theorem sd_isi (T : String) {y : Str} {py : Pos} (ha : SD hox X W e m) (hm : X.mg "isinstance" = none) (hmT : X.mg y = none) (hT : bootBuiltins y = some (.type T)) (hg : Gl X "isinstance" := by rfl) (hgT : Gl X y := by rfl) (hn : y ≠ "__name__" := by decide) (hd : (y == ("__debug__" : Str)) = false := by decide)
    (he : starEach [e, .Name y py] X.env = (false, eval e X.env) :: starEach [.Name y py] X.env := by rfl) (he2 : starEach [.Name y py] X.env = (false, eval (.Name y py) X.env) :: starEach [] X.env := by rfl) (hpl : (backTo pos (starEach [.Name y py] X.env)).any (·.1) = false := by rfl)
    (hv : bootBuiltins "isinstance" = some (.builtin "isinstance") := by decide +kernel) : SD hox X W (.Call (.Name "isinstance" p) [e, .Name y py] [] pos) (mIsi T m) :=
  PE.imp (pe_callB call_isi hg hm hv (pa_cons ha (pa_cons (pe_bltn (v := .ty T) hgT hmT hT rfl hn hd) pa_nil he2) he) (by decide) (by decide) he hpl) fun σ H Q ⟨c, s, st, q⟩ => ⟨c, s, st, q.split.imp fun d s1 H1 g1 q1 v r => by
    unfold o2 gIsi at q1
    cases z : kitB d.ty T with
    | none => simp only [z] at q1; exact q1.elim
    | some b =>
      simp only [z] at q1
      have no : ∀ c fs, d ≠ .obj c fs := fun c fs z => by subst z; exact q1.elim
      have nx : ∀ c fs, d ≠ .exn c fs := fun c fs z => by subst z; exact q1.elim
      have q2 : Q (.bl b) H1 := by
        cases d with
        | obj c fs => exact absurd rfl (no c fs)
        | exn c fs => exact absurd rfl (nx c fs)
        | _ => exact q1 H1 (.refl g1.1) _ (.bl b)
      exact ⟨v, .ty T, .type d.ty, .type T, b, rfl, .ty T, rep_ty r no nx, kit_ty z, q2⟩⟩
end
end Den

set_option Elab.async false
set_option linter.all false
set_option maxRecDepth 100000
set_option maxHeartbeats 4000000
namespace Den
variable {hox : Option Addr}
open PySem PySem.Spec PyProof.Rows L2

/-! ### a slot's own list, read and written in its place -/
def mutL (s : S) (i : Nat) : Option (Sl × List D) := match mutAt s i with
  | some (w, .lst xs) => some (w, xs)
  | _ => none
theorem mutL_at {s : S} {i : Nat} {w : Sl} {ds : List D} (h : mutL s i = some (w, ds)) : mutAt s i = some (w, .lst ds) := by
  unfold mutL at h
  split at h
  · rename_i w' xs e
    cases h; exact e
  · cases h
section
variable {K : PySem.W.Frag} {mg : Str → Option Value} {c : Ct} {s : S} {σ : St} {H : Hp} {i : Nat} {w : Sl} {ds es : List D} {p : Addr}
theorem StR.mutL (x : StR hox K mg c s σ H) (h : mutL s i = some (w, ds)) : ∃ p xs, σ[i]? = some (some (.ref p)) ∧ hs c s σ p ∧ H p = some (.lst xs) ∧ RepL K mg (vis c s σ H) xs ds := by
  obtain ⟨e1, e2⟩ := mutAt_some (mutL_at h)
  obtain ⟨p, e3, e4, xs, e5, e6⟩ := x.mut e1 e2
  exact ⟨p, xs, e3, e4, e5, e6⟩
theorem StR.writeL {ys : List V} (x : StR hox K mg c s σ H) (h : Den.mutL s i = some (w, ds)) (hp : σ[i]? = some (some (.ref p))) (r : RepL K mg (vis c s σ H) ys es) : Go hox K mg c s σ H (s.set i (some (w.re (.lst es)))) σ (upd H p (.lst ys)) := by
  obtain ⟨e1, e2⟩ := mutAt_some (mutL_at h)
  obtain ⟨p', xs, e3, e4, e5, e6⟩ := x.mutL h
  rw [hp] at e3; cases e3
  exact x.write e1 e2 hp (fun b o n e => by rw [upd_ne n]; exact e) ⟨ys, upd_same, r.mono (hid_le fun b o n e => ⟨n, by rw [upd_ne (fun z => n (by rw [z]; exact e4))]; exact e⟩)⟩
end
/-- x[e], x the def's own list or one lent -/
def mIxO (i : Nat) (m : MD) : MD := fun s => match mutL s i with
  | none => .bad
  | some _ => (m s).bind fun d s1 => match mutL s1 i, d with
    | some (_, xs), .int j => o2 (atI xs j) s1
    | _, _ => .bad
def mLenO (i : Nat) : MD := fun s => match mutL s i with
  | none => .bad
  | some (_, xs) => .ok (.int (xs.length : Nat)) s
def mAppend (i : Nat) (m : MD) : MO := fun s => match mutL s i with
  | none => .bad
  | some _ => (m s).bind fun d s1 => match mutL s1 i with
    | none => .bad
    | some (w, xs) => if fits (xs.length + 1) = true then .ok (.val .non) (s1.set i (some (w.re (.lst (xs ++ [d]))))) else .bad
def mPop (i : Nat) (m : MD) : MD := fun s => match mutL s i with
  | none => .bad
  | some _ => (m s).bind fun d s1 => match mutL s1 i, d with
    | some (w, xs), .int j => match ixN xs.length j with
      | some k => match xs[k]? with
        | some y => if i62 j = true then .ok y (s1.set i (some (w.re (.lst (xs.eraseIdx k))))) else .bad
        | none => .bad
      | none => .bad
    | _, _ => .bad
def mSetIx (i : Nat) (mi m : MD) : MS := fun s => (m s).bind fun d s1 => match mutL s1 i with
  | none => .bad
  | some _ => (mi s1).bind fun k s2 => match mutL s2 i, k with
    | some (w, xs), .int j => match ixN xs.length j with
      | some n => .ok .nx (s2.set i (some (w.re (.lst (xs.set n d)))))
      | none => .bad
    | _, _ => .bad
theorem repL_erase {K : PySem.W.Frag} {mg : Str → Option Value} {G : Hp} : ∀ {k : Nat} {vs : List V} {ds : List D}, RepL K mg G vs ds → RepL K mg G (vs.eraseIdx k) (ds.eraseIdx k)
  | 0, _, [], .nil => .nil
  | 0, _, _ :: _, .cons _ r => r
  | k + 1, _, [], .nil => .nil
  | k + 1, _, _ :: _, .cons a r => .cons a (repL_erase (k := k) r)
theorem repL_set {K : PySem.W.Frag} {mg : Str → Option Value} {G : Hp} {v : V} {d : D} (rv : Rep K mg G v d) : ∀ {k : Nat} {vs : List V} {ds : List D}, RepL K mg G vs ds → RepL K mg G (vs.set k v) (ds.set k d)
  | 0, _, [], .nil => .nil
  | 0, _, _ :: _, .cons _ r => .cons rv r
  | k + 1, _, [], .nil => .nil
  | k + 1, _, _ :: _, .cons a r => .cons a (repL_set rv (k := k) r)
section
variable {X : Cx} {W : WX} {a b e : Expr} {es : List Expr} {ma mb m mi : MD} {mo : MO} {ml : ML} {pos p p2 py apos : Pos} {x y : Str}
theorem sd_ixO (i : Nat) (hb : SD hox X W b m) (hN : X.N[i]? = some y := by rfl) (hv : Vis X.env.scope y := by first | exact Or.inl rfl | exact Or.inr (Or.inl rfl) | exact Or.inr (Or.inr rfl)) (hd : (y == ("__debug__" : Str)) = false := by decide)
    (hcd : (y == ("__classdict__" : Str)) = false := by decide) (hs : PlainIx b := by exact fun _ _ => rfl) : SD hox X W (.Subscript (.Name y py) b pos) (mIxO i m) :=
  PE.imp (pe_ix ix_list (pe_var hN hv hd hcd) hb hs) fun σ H Q ⟨c, s, st, q⟩ => by
    unfold mIxO at q
    cases e0 : Den.mutL s i with
    | none => simp only [e0] at q; exact q.elim
    | some wo =>
      simp only [e0] at q
      obtain ⟨w, ds⟩ := wo
      obtain ⟨p, xs, hp, _, _, _⟩ := st.mutL e0
      refine ⟨.ref p, hp, c, s, st, q.split.imp fun d s1 H1 g1 q1 v r => ?_⟩
      cases e1 : Den.mutL s1 i with
      | none => simp only [e1] at q1; exact q1.elim
      | some wo =>
        obtain ⟨w1, es⟩ := wo
        obtain ⟨p', ys, hp', _, hy, ry⟩ := g1.1.mutL e1
        rw [hp] at hp'; cases hp'
        cases r with
        | int j =>
          simp only [e1] at q1
          cases e2 : atI es j with
          | none => rw [e2] at q1; exact q1.elim
          | some d =>
            rw [e2] at q1
            obtain ⟨v, e3, rv⟩ := repL_atI ry e2
            exact ⟨p, ys, j, v, rfl, rfl, .of hy, e3, q1 H1 (.refl g1.1) v rv⟩
        | _ => simp only [e1] at q1; exact q1.elim
theorem sd_lenO (i : Nat) (hG : Gl X "len") (hm : X.mg "len" = none) (hN : X.N[i]? = some y := by rfl) (hv : Vis X.env.scope y := by first | exact Or.inl rfl | exact Or.inr (Or.inl rfl) | exact Or.inr (Or.inr rfl)) (hd : (y == ("__debug__" : Str)) = false := by decide)
    (hcd : (y == ("__classdict__" : Str)) = false := by decide) (he : starEach [.Name y py] X.env = (false, eval (.Name y py) X.env) :: starEach [] X.env := by rfl) (hpl : (backTo pos (starEach [] X.env)).any (·.1) = false := by rfl)
    (hb : bootBuiltins "len" = some (.builtin "len") := by decide +kernel) : SD hox X W (.Call (.Name "len" p) [.Name y py] [] pos) (mLenO i) :=
  PE.imp (pe_callB call_len_seq hG hm hb (pa_cons (pe_var hN hv hd hcd) pa_nil he) (by decide) (by decide) he hpl) fun σ H Q ⟨c, s, st, q⟩ => by
    unfold mLenO at q
    cases e0 : Den.mutL s i with
    | none => simp only [e0] at q; exact q.elim
    | some wo =>
      simp only [e0] at q
      obtain ⟨w, ds⟩ := wo
      obtain ⟨p, xs, hp, _, hx, rx⟩ := st.mutL e0
      exact ⟨.ref p, hp, p, xs, rfl, .inl (.of hx), by rw [rx.length]; exact q H (.refl st) _ (.int _)⟩
theorem sd_pop (i : Nat) (hb : SD hox X W b m) (hN : X.N[i]? = some y := by rfl) (hv : Vis X.env.scope y := by first | exact Or.inl rfl | exact Or.inr (Or.inl rfl) | exact Or.inr (Or.inr rfl)) (hd : (y == ("__debug__" : Str)) = false := by decide)
    (hcd : (y == ("__classdict__" : Str)) = false := by decide)
    (hbase : attributeBase (.Name y py) "pop" X.env (eval (.Name y py) X.env) = eval (.Name y py) X.env := by rfl)
    (hfew : ((backTo pos (starEach [b] X.env)).all (fun x => !x.1) && (backToKw pos (keywordEach [] X.env)).all (fun x => x.1.isSome)
      && decide (([b] : List Expr).length + ([] : List Keyword).length + (if ([] : List Keyword).isEmpty then 0 else 1) < 30)) = true := by rfl)
    (hline : (apos.endLine == pos.line) = true := by rfl) (hs : starEach [b] X.env = (false, eval b X.env) :: starEach [] X.env := by rfl) (hplain : (backTo pos (starEach [] X.env)).any (·.1) = false := by rfl) :
    SD hox X W (.Call (.Attribute (.Name y py) "pop" apos) [b] [] pos) (mPop i m) :=
  PE.imp (pe_bm PySem.F.plainAttrs_list PySem.F.slot_list_pop PySem.F.type_list_pop (mt_popAt : MtR X "list.pop" rPopAt) (pe_var hN hv hd hcd) (pa_cons hb pa_nil hs) hbase hfew hline hs hplain) fun σ H Q ⟨c, s, st, q⟩ => by
    unfold mPop at q
    cases e0 : Den.mutL s i with
    | none => simp only [e0] at q; exact q.elim
    | some wo =>
      simp only [e0] at q
      obtain ⟨w, ds⟩ := wo
      obtain ⟨p, xs, hp, _, hx, _⟩ := st.mutL e0
      refine ⟨.ref p, hp, .inl ⟨rfl, xs, .of hx⟩, c, s, st, q.split.imp fun d s1 H1 g1 q1 v r => ?_⟩
      cases e1 : Den.mutL s1 i with
      | none => simp only [e1] at q1; exact q1.elim
      | some wo =>
        obtain ⟨w1, es⟩ := wo
        obtain ⟨p', ys, hp', _, hy, ry⟩ := g1.1.mutL e1
        rw [hp] at hp'; cases hp'
        cases r with
        | int j =>
          simp only [e1] at q1
          cases e2 : ixN es.length j with
          | none => simp only [e2] at q1; exact q1.elim
          | some k =>
            simp only [e2] at q1
            cases e3 : es[k]? with
            | none => simp only [e3] at q1; exact q1.elim
            | some z =>
              simp only [e3] at q1
              by_cases f : i62 j = true
              · rw [if_pos f] at q1
                obtain ⟨v, ev, rv⟩ := ry.get e3
                have g := g1.1.writeL e1 hp (repL_erase (k := k) ry)
                obtain ⟨f1, f2⟩ := i62_iff f
                refine ⟨p, ys, j, k, v, rfl, rfl, hy, by omega, by omega, by rw [ry.length]; exact (ixN_seq e2).1, ev, q1 _ g v (rv.mono g.2)⟩
              · rw [if_neg f] at q1; exact q1.elim
        | _ => simp only [e1] at q1; exact q1.elim
theorem ss_setIx (i : Nat) {k0 : Nat} (he : SD hox X W e m) (hb : SD hox X W b mi) (hN : X.N[i]? = some y := by rfl) (hv : Vis X.env.scope y := by first | exact Or.inl rfl | exact Or.inr (Or.inl rfl) | exact Or.inr (Or.inr rfl)) (hd : (y == ("__debug__" : Str)) = false := by decide)
    (hcd : (y == ("__classdict__" : Str)) = false := by decide) (ha : ∀ v, assign (.Subscript (.Name y py) b p2) X.env v = (do
      let ov ← holding [v] (eval (.Name y py) X.env)
      let iv ← holding [v, ov] (eval b X.env)
      standAt p2
      holding [v, ov, iv] (setItem ov iv v)
      release [v, ov, iv] []) := by intro _; rfl)
    (hs : swapsWithSole [.Subscript (.Name y py) b p2] e pos.line X.env = pure false := by rfl) (hw : swappedStores [.Subscript (.Name y py) b p2] e X.env = pure none := by rfl)
    (h1 : (assignEach [.Subscript (.Name y py) b p2] X.env).map (·.2) = [assign (.Subscript (.Name y py) b p2) X.env] := by rfl) :
    SS hox X W (.Assign [.Subscript (.Name y py) b p2] e pos) (mSetIx i mi m) :=
  PS.imp (ps_asg he (pg_sub (pe_var hN hv hd hcd) hb set_list ha) hs hw h1) fun E σ H ⟨c, s, st, q⟩ => ⟨c, s, st, (ResS.split q).imp fun d s1 H1 g1 q1 v r => by
    cases e0 : Den.mutL s1 i with
    | none => simp only [e0] at q1; exact q1.elim
    | some wo =>
      simp only [e0] at q1
      obtain ⟨w, ds⟩ := wo
      obtain ⟨p, xs, hp, _, hx, _⟩ := g1.1.mutL e0
      refine ⟨.ref p, hp, c, s1, g1.1, (ResS.split q1).imp fun k s2 H2 g2 q2 u ru => ?_⟩
      cases e1 : Den.mutL s2 i with
      | none => simp only [e1] at q2; exact q2.elim
      | some wo =>
        obtain ⟨w1, es⟩ := wo
        obtain ⟨p', ys, hp', _, hy, ry⟩ := g2.1.mutL e1
        rw [hp] at hp'; cases hp'
        cases ru with
        | int j =>
          simp only [e1] at q2
          cases e2 : ixN es.length j with
          | none => simp only [e2] at q2; exact q2.elim
          | some n =>
            simp only [e2] at q2
            exact ⟨p, ys, j, n, rfl, rfl, hy, by rw [ry.length]; exact e2, q2 σ _ (g2.1.writeL e1 hp (repL_set (r.mono g2.2) ry))⟩
        | _ => simp only [e1] at q2; exact q2.elim⟩
/-- an operator whose result is a new list -/
def RL2S (K : PySem.W.Frag) (mg : Str → Option Value) (r : R2) (g : D → D → Option (List D)) : Prop := ∀ (h : Addr → Prop) (H : Hp) (x y : V) (dx dy : D) (zs : List D) (Q : VK), (∀ p, h p → ∃ o, H p = some o) → Rep K mg (hid h H) x dx → Rep K mg (hid h H) y dy → g dx dy = some zs →
  (∀ p ws, H p = none → RepL K mg (hid h H) ws zs → Q (.ref p) (upd H p (.lst ws))) → r x y H Q
def mBinL (g : D → D → Option (List D)) (a b : MD) : MO := fun s => (a s).bind fun x s1 => (b s1).bind fun y s2 => match g x y with
  | some xs => .ok (.own (.lst xs)) s2
  | none => .bad
theorem so_bin {op : Operator} {r : R2} {g : D → D → Option (List D)} (hg : RL2S X.K X.mg r g) (ho : OpR X (binaryOp op) r) (ha : SD hox X W a ma) (hb : SD hox X W b mb) : SO hox X W (.BinOp a op b pos) (mBinL g ma mb) :=
  PE.imp (pe_op ho ha hb) fun σ H Q ⟨c, s, st, q⟩ => ⟨c, s, st, (ResO.split q).imp fun dx s1 H1 g1 q1 vx rx => ⟨c, s1, g1.1, (ResO.split q1).imp fun dy s2 H2 g2 q2 vy ry => by
    cases e : g dx dy with
    | none => simp only [e] at q2; exact q2.elim
    | some zs =>
      simp only [e] at q2
      refine hg _ H2 _ _ dx dy zs Q (st_hid g2.1) (rx.mono g2.2) ry e fun p ws n rw1 => ?_
      obtain ⟨a1, a2, a3⟩ := g2.1.alloc (ho := .lst ws) n
      exact q2 _ _ ⟨p, _, rfl, rfl, a3, a1, a2, ws, upd_same, rw1.mono a2⟩⟩⟩
def gCatL : D → D → Option (List D)
  | .lst xs, .lst ys => if fits (xs.length + ys.length) = true then some (xs ++ ys) else none
  | _, _ => none
theorem rl2_cat {K : PySem.W.Frag} {mg : Str → Option Value} : RL2S K mg rCat gCatL := by
  intro h H x y dx dy zs Q nh rx ry e q
  unfold gCatL at e
  split at e
  · split at e
    · rename_i xs ys f
      cases e
      obtain ⟨a, vs, rfl, ht, rl⟩ : ∃ a vs, x = .ref a ∧ (hid h H) a = some (.lst vs) ∧ RepL K mg (hid h H) vs xs := by cases rx with | lst a b => exact ⟨_, _, rfl, a, b⟩
      obtain ⟨b, ws, rfl, ht', rl'⟩ : ∃ a vs, y = .ref a ∧ (hid h H) a = some (.lst vs) ∧ RepL K mg (hid h H) vs ys := by cases ry with | lst a b => exact ⟨_, _, rfl, a, b⟩
      exact ⟨a, b, vs, ws, rfl, rfl, (hid_some ht).2, (hid_some ht').2, by rw [rl.length, rl'.length]; exact fits_le f, fun p n => q p _ n (rl.append rl')⟩
    · cases e
  · cases e
def gRepL : D → D → Option (List D)
  | .lst xs, .int k => if (decide (-1000 ≤ k) && decide (k ≤ 1000) && decide (xs.length ≤ 1000)) = true then some (List.replicate k.toNat xs).flatten else none
  | _, _ => none
/-- what is not reached -/
def mBad {α : Type} : S → Out α := fun _ => .bad
end
end Den

set_option Elab.async false
set_option linter.all false
set_option maxRecDepth 100000
set_option maxHeartbeats 4000000
namespace Den
variable {hox : Option Addr}
open PySem PySem.Spec PyProof.Rows L2

/-! ### exceptions -/
def mRaise0 (c : Str) : MS := fun s => .exc ⟨c, []⟩ s
section
variable {X : Cx} {W : WX} {a b e : Expr} {es : List Expr} {ma mb m mi : MD} {mo : MO} {ml : ML} {pos p p2 py apos : Pos} {x y : Str} {C : Addr}
/-- X(), X an own exception class without own __init__ -/
theorem pmk_own0 {bmB : List Value} {B newId initId : String} (F : ExcBaseFacts B newId initId bmB) (q : PySem.W.excIn X.K C bmB newId = true) (gC : X.mg x = some (.ref C)) (kC : PySem.W.keepIn X.K (.ref C) = true) (r : Raises X (.ref C)) (hg : Gl X x)
    (hdb : (x == ("__debug__" : Str)) = false := by decide) : L2N.PMk X (.Call (.Name x p) [] [] pos) (fun _ H Q => Q (.ref C) none H) := by
  intro pins s σ H Q I h
  refine wpAny_Call_Name_kw (ld_glob I hg gC ?_ hdb)
  refine PySem.W.callWith_K0 I.kIn kC ?_
  show wpAny _ _ (call (.ref C) []) _ _ _
  obtain ⟨bm, N, nm, qn, bs, hdct, sn, sub, ab, col, dd, k0, k1, k2, k3, k5, mN, hC, hN, hni, T⟩ := exc_obj I.kIn q
  refine wpAny_call_exc_subT F T hC hN hni (fun h' e hm => ?_) (Nat.zero_le _)
  exact L2N.mk_of I hm r h (I.hok.gone hm.new)
/-- raise X() -/
theorem ss_raise0 {bmB : List Value} {B newId initId : String} {rpos : Pos} (hc : X.calm = true) (tk : L2N.Takes X W) (F : ExcBaseFacts B newId initId bmB) (q : PySem.W.excIn X.K C bmB newId = true) (gC : X.mg x = some (.ref C)) (kC : PySem.W.keepIn X.K (.ref C) = true)
    (h1 : PySem.W.subIn X.K (.ref C) (.type "BaseException") = some true) (h2 : PySem.W.typeIn X.K (.ref C) = some (.type "type")) (hg : Gl X x := by rfl) (hdb : (x == ("__debug__" : Str)) = false := by decide) :
    SS hox X W (.Raise (some (.Call (.Name x p) [] [] pos)) none rpos) (mRaise0 x) :=
  PS.imp (L2N.ps_raise hc tk (pmk_own0 F q gC kC (raises_own h1 h2) hg hdb)) fun D σ H ⟨c, s, st, q⟩ => q (.ref C) none σ H (.refl st) ⟨⟨C, rfl, gC⟩, .inl ⟨rfl, rfl⟩⟩
end
/-- the clauses, one after the other: what each takes, its suite -/
def mHds : List ((Str → Option Bool) × MS) → Exc → MS
  | [], x => fun s => .exc x s
  | (t, m) :: r, x => fun s => match t x.c with
    | some true => match m s with
      | .exc _ _ => .bad
      | o => o
    | some false => mHds r x s
    | none => .bad
def mTry (b : MS) (h : List ((Str → Option Bool) × MS)) : MS := fun s => match b s with
  | .exc x s1 => mHds h x s1
  | o => o
/-- the clauses held to the code -/
inductive SH (hox : Option Addr) (X : Cx) : List ExceptHandler → List ((Str → Option Bool) × MS) → List (Value × (Addr → Value → Option Addr → TS)) → Prop
  | nil : SH hox X [] [] []
  | cons {x : Str} {c : Value} {b₀ : Stmt} {suite : List Stmt} {np pos' : Pos} {hds : List ExceptHandler} {t : Str → Option Bool} {m : MS} {l : List ((Str → Option Bool) × MS)} {ts} (hc : Names X x c)
      (ht : ∀ n b, t n = some b → ∃ C, X.mg n = some (.ref C) ∧ PySem.W.exmOne X.K (.ref C) c = some b)
      (hsu : ∀ (a : Addr) (oe : Obj) (pn : List (Addr × Obj)), SSs hox (X.suite a ((a, oe) :: pn)) W0 (b₀ :: suite) m) (r : SH hox X hds l ts) :
      SH hox X (.ExceptHandler (some (.Name x np)) none (b₀ :: suite) pos' :: hds) ((t, m) :: l) ((c, fun _ _ _ => tS hox X.K X.mg W0 m) :: ts)
section
variable {X : Cx} {W : WX} {pos : Pos} {C f : Addr} {x y : Str} {p py p2 : Pos} {e : Expr} {es : List Expr} {m : MD} {ml : ML}
/-! ### instances -/
def mMake (cn : Str) (F : FL) (n : Nat) (ml : ML) : MO := fun s => (ml s).bind fun ds s1 => if ds.length + 1 = n then match F (.ins cn []) ds with
  | .ok r s' => match r, s'[0]? with
    | .val .non, some (some (Sl.bor o')) => if o'.sub.isEmpty = true then .ok (.own o') s1 else .bad
    | _, _ => .bad
  | .exc x _ => .exc x s1
  | .bad => .bad
  else .bad
def tMakeS (C : Addr) (sp : Sp) (E : St → XK) (t : TA) : TE := fun σ H Q => t σ H fun vs H1 => ∀ x dx, H1 x = none → H1 dx = none → dx ≠ x →
  sp (.ref x :: vs) (upd (upd H1 dx (.own x)) x (.ins C dx [])) (fun v H2 => v = .non ∧ Q (.ref x) H2) (E σ)
/-- e.f of a datum -/
def mFld (cn f : Str) (m : MD) : MD := fun s => (m s).bind fun d s1 => match d with
  | .obj c fs => if c = cn then o2 (fs.lookup f) s1 else .bad
  | _ => .bad
def putFD (f : Str) (y : D) : List (Str × D) → List (Str × D)
  | [] => [(f, y)]
  | (g, x) :: r => if g = f then (g, y) :: r else (g, x) :: putFD f y r
def mutI (s : S) (i : Nat) : Option (Sl × Str × List (Str × D)) := match mutAt s i with
  | some (w, .ins c fs) => some (w, c, fs)
  | _ => none
/-- self.f -/
def mFldO (i : Nat) (cn f : Str) : MD := fun s => match mutI s i with
  | some (_, c, fs) => if c = cn then o2 (fs.lookup f) s else .bad
  | none => .bad
/-- self.f = e -/
def mSetF (i : Nat) (cn f : Str) (m : MD) : MS := fun s => (m s).bind fun d s1 => match mutI s1 i with
  | some (w, c, fs) => if c = cn ∧ fs.length < 1000 then .ok .nx (s1.set i (some (w.re (.ins c (putFD f d fs))))) else .bad
  | none => .bad
end
end Den

set_option Elab.async false
set_option linter.all false
set_option maxRecDepth 100000
set_option maxHeartbeats 4000000
namespace Den
variable {hox : Option Addr}
open PySem PySem.Spec PyProof.Rows L2

/-! ### what the top has written: tuples and dicts of flat things -/
def flatIs : Value → D → Bool
  | .none, .non => true
  | .bool a, .bl b => a == b
  | .int i _, .int j => decide (i = j)
  | .str x _, .str y => decide (x = y)
  | _, _ => false
def flatIsL : List Value → List D → Bool
  | [], [] => true
  | v :: vs, d :: ds => flatIs v d && flatIsL vs ds
  | _, _ => false
section
variable {K : PySem.W.Frag} {mg : Str → Option Value}
theorem flatIs_ok {v : Value} {d : D} (h : flatIs v d = true) : ∃ x, RelV x v ∧ ∀ G, Rep K mg G x d := by
  unfold flatIs at h
  split at h
  · exact ⟨.non, rfl, fun _ => .non⟩
  · rw [beq_iff_eq] at h; subst h; exact ⟨.bl _, rfl, fun _ => .bl _⟩
  · have := of_decide_eq_true h; subst this; exact ⟨.int _, ⟨_, rfl⟩, fun _ => .int _⟩
  · have := of_decide_eq_true h; subst this; exact ⟨.str _, ⟨_, rfl⟩, fun _ => .str _⟩
  · cases h
theorem flatIsL_ok : ∀ {vs : List Value} {ds : List D}, flatIsL vs ds = true → ∃ xs, Vals xs vs ∧ ∀ G, RepL K mg G xs ds
  | [], [], _ => ⟨[], .nil, fun _ => .nil⟩
  | v :: vs, d :: ds, h => by
    unfold flatIsL at h
    rw [Bool.and_eq_true] at h
    obtain ⟨x, r, q⟩ := flatIs_ok (K := K) (mg := mg) h.1
    obtain ⟨xs, rs, qs⟩ := flatIsL_ok h.2
    exact ⟨x :: xs, .cons r rs, fun G => .cons (q G) (qs G)⟩
  | [], _ :: _, h => by cases h
  | _ :: _, [], h => by cases h
def tupIs (K : PySem.W.Frag) (a : Addr) (ds : List D) : Bool := match K.lookup a with
  | some ⟨.type c, _, .seq its _, _⟩ => decide (c = "tuple") && decide (its.size ≤ 1000) && flatIsL its.toList ds
  | _ => false
theorem tupIs_ok {a : Addr} {ds : List D} (h : tupIs K a ds = true) : ∀ G, Rep K mg G (.ref a) (.ktup ds) := by
  unfold tupIs at h
  split at h
  · rename_i c od its n sl e
    simp only [Bool.and_eq_true, decide_eq_true_eq] at h
    obtain ⟨⟨h1, h2⟩, h3⟩ := h
    subst h1
    obtain ⟨xs, r, q⟩ := flatIsL_ok (K := K) (mg := mg) h3
    exact fun G => .ktup (.inr ⟨_, its, n, e, rfl, rfl, Nat.le_trans h2 (by decide), r⟩) (q G)
  · cases h
/-- a written value: flat, or a tuple of flat things -/
def wrIs (K : PySem.W.Frag) (v : Value) (d : D) : Bool := match v, d with
  | .ref a, .ktup ds => tupIs K a ds
  | v, d => flatIs v d
theorem wrIs_ok {v : Value} {d : D} (h : wrIs K v d = true) : ∃ x, RelV x v ∧ ∀ G, Rep K mg G x d := by
  unfold wrIs at h
  split at h
  · exact ⟨.ref _, rfl, tupIs_ok h⟩
  · exact flatIs_ok h
end
abbrev Tb := List (Str × Option D)
def tbIs (K : PySem.W.Frag) (a : Addr) (tb : Tb) : Bool := tb.all fun p => match PySem.W.nsIn K a p.1, p.2 with
  | some none, none => true
  | some (some v), some d => wrIs K v d
  | _, _ => false
structure TbOk (K : PySem.W.Frag) (w : World) (a : Addr) (tb : Tb) : Prop where
  kd : ∃ es n, KDict K w a es n
  vals : tbIs K a tb = true
theorem TbOk.get {K : PySem.W.Frag} {mg : Str → Option Value} {w : World} {a : Addr} {tb : Tb} (T : TbOk K w a tb) {z : Str} {r : Option D} (h : tb.lookup z = some r) :
    ∃ u, PySem.W.nsIn K a z = some u ∧ u.isSome = r.isSome ∧ ∀ d, r = some d → ∃ u0 v0, u = some u0 ∧ RelV v0 u0 ∧ ∀ G, Rep K mg G v0 d := by
  have hm : (z, r) ∈ tb := by
    have hl : ∀ {l : Tb}, l.lookup z = some r → (z, r) ∈ l := by
      intro l
      induction l with
      | nil => intro h; cases h
      | cons p l ih =>
        intro h
        rw [List.lookup_cons] at h
        cases e : z == p.1 with
        | true =>
          rw [e] at h
          cases h
          rw [eq_of_beq e]
          exact List.mem_cons_self
        | false => rw [e] at h; exact List.mem_cons_of_mem _ (ih h)
    exact hl h
  have h2 := List.all_eq_true.mp T.vals _ hm
  cases e1 : PySem.W.nsIn K a z with
  | none => simp only [e1] at h2; cases h2
  | some u =>
    refine ⟨u, rfl, ?_⟩
    cases u with
    | none =>
      cases r with
      | none => exact ⟨rfl, fun d e => by cases e⟩
      | some d => simp only [e1] at h2; cases h2
    | some v =>
      cases r with
      | none => simp only [e1] at h2; cases h2
      | some d =>
        simp only [e1] at h2
        obtain ⟨x, rx, q⟩ := wrIs_ok (mg := mg) h2
        exact ⟨rfl, fun d' e => by cases e; exact ⟨v, x, rfl, rx, q⟩⟩
def mKIn (neg : Bool) (tb : Tb) (m : MD) : MD := fun s => (m s).bind fun d s1 => match d with
  | .str z => match tb.lookup z with
    | some r => .ok (.bl (if neg = true then !r.isSome else r.isSome)) s1
    | none => .bad
  | _ => .bad
def mKIx (tb : Tb) (m : MD) : MD := fun s => (m s).bind fun d s1 => match d with
  | .str z => match tb.lookup z with
    | some (some r) => .ok r s1
    | _ => .bad
  | _ => .bad
section
variable {X : Cx} {W : WX} {a : Addr} {tb : Tb} {e : Expr} {m : MD} {x : Str} {p pos : Pos}
end
/-- a def inside a class -/
def clsBody (s : Stmt) : List Stmt := match s with
  | .ClassDef _ _ _ b _ _ _ _ _ _ _ => b
  | _ => []
theorem cx_none {P : Program} {w : World} {H : Hp} {s : Shared} {e : Value} {s' : Shared} (h : L2N.CX P w [] H s (fun _ _ _ => False) e s') : False := by
  obtain ⟨a, B, H', cls, d, _, _, _, _, _, _, _, q⟩ := h
  exact q
end Den

set_option Elab.async false
set_option linter.all false
set_option maxRecDepth 100000
set_option maxHeartbeats 4000000
namespace Den
variable {hox : Option Addr}
open PySem PySem.Spec PyProof.Rows L2
section
variable {X : Cx} {W : WX} {a : Addr} {tb : Tb} {e : Expr} {m : MD} {x : Str} {p pos : Pos}
/-- {} -/
def mDict0 : MO := fun s => .ok (.own (.dK [])) s
end
def spW (K : PySem.W.Frag) : Sp := fun vs H Q _ => ∃ (a : Addr) (ns : List Int), vs = [.ref a] ∧ ns.length ≤ 63 ∧ SqL K H a (ns.map V.int) ∧ ∀ H', Q (.bl true) H'
theorem spW_imp {K : PySem.W.Frag} {mg : Str → Option Value} {F : FP} (hF : ∀ ns : List Int, ns.length ≤ 63 → ∃ s, F [.scr ns] = .ok (.val (.bl true)) s) {vs : List V} {H : Hp} {Q : VK} {E : XK} (h : spW K vs H Q E) : spP K mg 1 F vs H Q E := by
  obtain ⟨a, ns, rfl, hl, hS, q⟩ := h
  have l : ∀ b u, Rd H b u → Rd (hid (fun _ => False) H) b u := fun b u r => by
    rcases r with r | ⟨o, r⟩
    · exact .inl ((hid_no (fun z => z)).trans r)
    · exact .inr ⟨o, (hid_no (fun z => z)).trans r⟩
  refine ⟨fun _ => False, [.scr ns], fun p z => z.elim, rfl, .cons (.scr ?_) .nil, ?_⟩
  · rcases hS with h | h
    · exact .inl (l _ _ h)
    · exact .inr h
  · obtain ⟨s, e⟩ := hF ns hl
    rw [e]
    intro v H' _ _ r
    cases r
    exact q H'
end Den

set_option Elab.async false
set_option linter.all false
set_option maxRecDepth 100000
set_option maxHeartbeats 4000000
namespace Den
variable {hox : Option Addr}
open PySem PySem.Spec PyProof.Rows L2
/-! ### plain evaluation of mirrors -/
section
variable {α β : Type} {s s1 : S} {a b : MS} {i n : Nat}
@[simp] theorem bind_ok {x : α} {k : α → S → Out β} : (Out.ok x s).bind k = k x s := rfl
@[simp] theorem bind_exc {x : Exc} {k : α → S → Out β} : (Out.exc x s).bind k = .exc x s := rfl
@[simp] theorem bind_bad {k : α → S → Out β} : (Out.bad : Out α).bind k = .bad := rfl
@[simp] theorem o2_some {x : α} : o2 (some x) s = .ok x s := rfl
@[simp] theorem o2_none : o2 (none : Option α) s = .bad := rfl
@[simp] theorem gEq_int {i j : Int} : gEq (.int i) (.int j) = some (.bl (decide (i = j))) := rfl
@[simp] theorem gNe_int {i j : Int} : gNe (.int i) (.int j) = some (.bl (!decide (i = j))) := rfl
@[simp] theorem gNe_bl {i j : Bool} : gNe (.bl i) (.bl j) = some (.bl (!(i == j))) := by cases i <;> cases j <;> rfl
end
theorem fits_of {n : Nat} (h : n ≤ 1000000) : fits n = true := decide_eq_true (by rw [sizeLine_eq]; omega)
section
variable {d : D} {m ma mb : MD} {mo : MO} {g g' : D → D → Option D} {g1 : D → Option D} {t ta tb : MB} {a b : MS} {ml : ML} {s : S} {i j n : Nat} {gg : List D → Option D} {gl : List D → Option (List D)} {tg : MG} {tgs : MGs} {mi : MI} {x y : D}
@[simp] theorem mK_ap : mK d s = .ok d s := rfl
@[simp] theorem mVar_ap : mVar i s = match s[i]? with
  | some (some (.val d)) => .ok d s
  | some (some (.own o)) => match o.frz with
    | some d => .ok d (s.set i (some (.val d)))
    | none => .bad
  | _ => .bad := rfl
@[simp] theorem mBin_ap : mBin g ma mb s = (ma s).bind fun x s1 => (mb s1).bind fun y s2 => o2 (g x y) s2 := rfl
@[simp] theorem mUn_ap : mUn g1 ma s = (ma s).bind fun x s1 => o2 (g1 x) s1 := rfl
@[simp] theorem mVal_ap : mVal m s = (m s).bind fun d s1 => .ok (.val d) s1 := rfl
@[simp] theorem mFrz_ap : mFrz mo s = (mo s).bind fun r s1 => o2 r.frz s1 := rfl
@[simp] theorem frz_val : (Sl.val d).frz = some d := rfl
@[simp] theorem frz_own {xs : List D} : (Sl.own (.lst xs)).frz = some (.lst xs) := rfl
@[simp] theorem frz_dk {xs : List (Key × D)} : (Sl.own (.dK xs)).frz = some (.dic xs) := rfl
@[simp] theorem frz_ins {c : Str} {xs : List (Str × D)} : (Sl.own (.ins c xs)).frz = some (.obj c xs) := rfl
@[simp] theorem mTest_ap : mTest m s = (m s).bind fun d s1 => match d with
  | .bl b => .ok b s1
  | _ => .bad := rfl
@[simp] theorem mIf_ap {α : Type} {p q : S → Out α} : mIf t p q s = (t s).bind fun c s1 => if c = true then p s1 else q s1 := rfl
@[simp] theorem bAnd_ap : bAnd ta tb s = (ta s).bind fun c s1 => if c = true then tb s1 else .ok false s1 := rfl
@[simp] theorem bOr_ap : bOr ta tb s = (ta s).bind fun c s1 => if c = true then .ok true s1 else tb s1 := rfl
@[simp] theorem bNot_ap : bNot ta s = (ta s).bind fun c s1 => .ok (!c) s1 := rfl
@[simp] theorem mAnd_ap : mAnd ma mb s = (ma s).bind fun x s1 => match x with
  | .bl true => mb s1
  | .bl false => .ok (.bl false) s1
  | _ => .bad := rfl
@[simp] theorem mOr_ap : mOr ma mb s = (ma s).bind fun x s1 => match x with
  | .bl true => .ok (.bl true) s1
  | .bl false => mb s1
  | _ => .bad := rfl
@[simp] theorem mNot_ap : mNot ma s = (ma s).bind fun x s1 => match x with
  | .bl c => .ok (.bl (!c)) s1
  | _ => .bad := rfl
@[simp] theorem lNil_ap : lNil s = .ok [] s := rfl
@[simp] theorem lCons_ap : lCons m ml s = (m s).bind fun d s1 => (ml s1).bind fun ds s2 => .ok (d :: ds) s2 := rfl
@[simp] theorem lStar_ap : lStar m ml s = (m s).bind fun d s1 => match d.items with
  | some ds => (ml s1).bind fun es s2 => .ok (ds ++ es) s2
  | none => .bad := rfl
@[simp] theorem mTup_ap : mTup ml s = (ml s).bind fun ds s1 => if fits ds.length = true then .ok (.tup ds) s1 else .bad := rfl
@[simp] theorem mLst_ap : mLst ml s = (ml s).bind fun ds s1 => if fits ds.length = true then .ok (.own (.lst ds)) s1 else .bad := rfl
@[simp] theorem mApp_ap : mApp gg ml s = (ml s).bind fun ds s1 => o2 (gg ds) s1 := rfl
@[simp] theorem mAppL_ap : mAppL gl ml s = (ml s).bind fun ds s1 => match gl ds with
  | some xs => .ok (.own (.lst xs)) s1
  | none => .bad := rfl
@[simp] theorem mChain_ap {mc : MD} : mChain g g' ma mb mc s = (ma s).bind fun x s1 => (mb s1).bind fun y s2 => match g x y with
  | some (.bl true) => (mc s2).bind fun z s3 => o2 (g' y z) s3
  | some (.bl false) => .ok (.bl false) s2
  | _ => .bad := rfl
@[simp] theorem mSeq_ap : mSeq a b s = (a s).bind fun f s1 => match f with
  | .nx => b s1
  | .rt r => .ok (.rt r) s1
  | .bk => .ok .bk s1
  | .ct => .ok .ct s1 := rfl
@[simp] theorem mNx_ap : mNx s = .ok .nx s := rfl
@[simp] theorem mDrop_ap : mDrop mo s = (mo s).bind fun _ s1 => .ok .nx s1 := rfl
@[simp] theorem mRet_ap : mRet mo s = (mo s).bind fun r s1 => .ok (.rt r) s1 := rfl
@[simp] theorem mTake_ap : mTake i s = match s[i]? with
  | some (some (.val d)) => .ok (.val d) s
  | some (some (.own o)) => if o.sub.isEmpty = true then .ok (.own o) (s.set i none) else .bad
  | _ => .bad := rfl
@[simp] theorem mRetN_ap : mRetN s = .ok (.rt (.val .non)) s := rfl
@[simp] theorem mIfS_ap : mIfS t a b s = (t s).bind fun k s1 => if k = true then a s1 else b s1 := rfl
@[simp] theorem mSet_ap : mSet i mo s = (mo s).bind fun r s1 => put i r s1 := rfl
@[simp] theorem put_val : put i (.val d) s = if free s i = true then .ok .nx (s.set i (some (.val d))) else .bad := rfl
@[simp] theorem put_own {o : O} : put i (.own o) s = if free s i = true then .ok .nx (s.set i (some (.own o))) else .bad := rfl
@[simp] theorem free_ap : free s i = match s[i]? with
  | some (some (.bor _)) => false
  | some _ => true
  | none => false := rfl
@[simp] theorem gN_ap : gN i d s = if free s i = true then some (s.set i (some (.val d))) else none := rfl
@[simp] theorem gsNil_ap : gsNil [] s = some s := rfl
@[simp] theorem gsCons_ap {ds : List D} : gsCons tg tgs (d :: ds) s = (tg d s).bind fun s1 => tgs ds s1 := rfl
@[simp] theorem gT_ap {ds : List D} : gT n tgs (.tup ds) s = if ds.length = n then tgs ds s else none := rfl
@[simp] theorem mAsg_ap : mAsg m tg s = (m s).bind fun d s1 => match tg d s1 with
  | some s2 => .ok .nx s2
  | none => .bad := rfl
@[simp] theorem mFor_ap : mFor mi tg b s = (mi s).bind fun ds s1 => loop tg b ds s1 := rfl
@[simp] theorem iSeq_ap : iSeq m s = (m s).bind fun d s1 => match d.items with
  | some ds => .ok ds s1
  | none => .bad := rfl
@[simp] theorem items_tup {ds : List D} : (D.tup ds).items = some ds := rfl
@[simp] theorem items_ktup {ds : List D} : (D.ktup ds).items = some ds := rfl
@[simp] theorem items_lst {ds : List D} : (D.lst ds).items = some ds := rfl
@[simp] theorem items_scr {ns : List Int} : (D.scr ns).items = some (ns.map .int) := rfl
@[simp] theorem mComp_ap {vs : List Nat} : mComp vs mi tg t m s = (mi s).bind fun ds s1 => compOut vs tg t m ds s1 := rfl
@[simp] theorem mIxO_ap : mIxO i m s = match mutL s i with
  | none => .bad
  | some _ => (m s).bind fun d s1 => match mutL s1 i, d with
    | some (_, xs), .int j => o2 (atI xs j) s1
    | _, _ => .bad := rfl
@[simp] theorem mLenO_ap : mLenO i s = match mutL s i with
  | none => .bad
  | some (_, xs) => .ok (.int (xs.length : Nat)) s := rfl
@[simp] theorem mutL_ap : mutL s i = match mutAt s i with
  | some (w, .lst xs) => some (w, xs)
  | _ => none := rfl
@[simp] theorem mutAt_ap : mutAt s i = match s[i]? with
  | some (some (.own o)) => some (.own o, o)
  | some (some (.bor o)) => some (.bor o, o)
  | _ => none := rfl
@[simp] theorem re_own {o o' : O} : (Sl.own o).re o' = .own o' := rfl
@[simp] theorem re_bor {o o' : O} : (Sl.bor o).re o' = .bor o' := rfl
@[simp] theorem mAppend_ap : mAppend i m s = match mutL s i with
  | none => .bad
  | some _ => (m s).bind fun d s1 => match mutL s1 i with
    | none => .bad
    | some (w, xs) => if fits (xs.length + 1) = true then .ok (.val .non) (s1.set i (some (w.re (.lst (xs ++ [d]))))) else .bad := rfl
@[simp] theorem mPop_ap : mPop i m s = match mutL s i with
  | none => .bad
  | some _ => (m s).bind fun d s1 => match mutL s1 i, d with
    | some (w, xs), .int j => match ixN xs.length j with
      | some k => match xs[k]? with
        | some y => if i62 j = true then .ok y (s1.set i (some (w.re (.lst (xs.eraseIdx k))))) else .bad
        | none => .bad
      | none => .bad
    | _, _ => .bad := rfl
@[simp] theorem mSetIx_ap {mk : MD} : mSetIx i mk m s = (m s).bind fun d s1 => match mutL s1 i with
  | none => .bad
  | some _ => (mk s1).bind fun k s2 => match mutL s2 i, k with
    | some (w, xs), .int j => match ixN xs.length j with
      | some n => .ok .nx (s2.set i (some (w.re (.lst (xs.set n d)))))
      | none => .bad
    | _, _ => .bad := rfl
@[simp] theorem mBinL_ap {g : D → D → Option (List D)} : mBinL g ma mb s = (ma s).bind fun x s1 => (mb s1).bind fun y s2 => match g x y with
  | some xs => .ok (.own (.lst xs)) s2
  | none => .bad := rfl
@[simp] theorem mIsi_ap {T : String} : mIsi T m s = (m s).bind fun x s1 => o2 (gIsi T x) s1 := rfl
@[simp] theorem mRev_ap : mRev m s = (m s).bind fun d s1 => match d with
  | .tup xs => .ok (.tup xs.reverse) s1
  | _ => .bad := rfl
@[simp] theorem mSl_ap {lo hi : MP} : mSl m lo hi s = (m s).bind fun d s1 => (lo s1).bind fun a s2 => (hi s2).bind fun b s3 => o2 (gSl d a b) s3 := rfl
@[simp] theorem pNo_ap : pNo s = .ok none s := rfl
@[simp] theorem pSo_ap : pSo m s = (m s).bind fun d s1 => match d with
  | .int i => .ok (some i) s1
  | _ => .bad := rfl
@[simp] theorem iR1_ap : iR1 ml s = (ml s).bind fun ds s1 => match ds with
  | [.int j] => if i62 j = true then .ok (rngD 0 j.toNat) s1 else .bad
  | _ => .bad := rfl
@[simp] theorem iEn_ap : iEn ml s = (ml s).bind fun ds s1 => match ds with
  | [d] => match d.items with
    | some xs => .ok (enumD 0 xs) s1
    | none => .bad
  | _ => .bad := rfl
@[simp] theorem iZp_ap : iZp ml s = (ml s).bind fun ds s1 => match ds with
  | [.tup xs, .tup ys] => .ok (zipD xs ys) s1
  | [.lst xs, .lst ys] => .ok (zipD xs ys) s1
  | _ => .bad := rfl
@[simp] theorem mFld_ap {cn f : Str} : mFld cn f m s = (m s).bind fun d s1 => match d with
  | .obj c fs => if c = cn then o2 (fs.lookup f) s1 else .bad
  | _ => .bad := rfl
@[simp] theorem mSetF_ap {cn f : Str} : mSetF i cn f m s = (m s).bind fun d s1 => match mutI s1 i with
  | some (w, c, fs) => if c = cn ∧ fs.length < 1000 then .ok .nx (s1.set i (some (w.re (.ins c (putFD f d fs))))) else .bad
  | none => .bad := rfl
@[simp] theorem mutI_ap : mutI s i = match mutAt s i with
  | some (w, .ins c fs) => some (w, c, fs)
  | _ => none := rfl
@[simp] theorem mRaise0_ap {c : Str} : mRaise0 c s = .exc ⟨c, []⟩ s := rfl
@[simp] theorem mDict0_ap : mDict0 s = .ok (.own (.dK [])) s := rfl
@[simp] theorem gCmp_ap {f : Int → Int → Bool} {i j : Int} : gCmp f (.int i) (.int j) = some (.bl (f i j)) := rfl
@[simp] theorem gAdd_int {i j : Int} : gAdd (.int i) (.int j) = some (.int (i + j)) := rfl
@[simp] theorem gSub_int {i j : Int} : gSub (.int i) (.int j) = some (.int (i - j)) := rfl
@[simp] theorem gNeg_int {i : Int} : gNeg (.int i) = some (.int (-i)) := rfl
@[simp] theorem gMul_int {i j : Int} : gMul (.int i) (.int j) = if (i64 i || i64 j) = true then some (.int (i * j)) else none := rfl
@[simp] theorem gMod_int {i j : Int} : gMod (.int i) (.int j) = if 0 < j then some (.int (i % j)) else none := rfl
@[simp] theorem gFDiv_int {i j : Int} : gFDiv (.int i) (.int j) = if (decide (0 < j) && decide (j.natAbs.log2 < 9000)) = true then some (.int (i / j)) else none := rfl
@[simp] theorem gPow_int {i j : Int} : gPow (.int i) (.int j) = if (decide (0 ≤ j) && decide (j ≤ 1000000) && decide (i.natAbs < 2 ^ 64)) = true then some (.int (i ^ j.toNat)) else none := rfl
@[simp] theorem gAbs_int {i : Int} : gAbs [.int i] = some (.int (if i < 0 then -i else i)) := rfl
@[simp] theorem gInt_int {i : Int} : gInt [.int i] = some (.int i) := rfl
@[simp] theorem gLen_tup {ds : List D} : gLen [.tup ds] = some (.int (ds.length : Nat)) := rfl
@[simp] theorem gLen_lst {ds : List D} : gLen [.lst ds] = some (.int (ds.length : Nat)) := rfl
@[simp] theorem gTuple_lst {ds : List D} : gTuple [.lst ds] = some (.tup ds) := rfl
@[simp] theorem gTuple_tup {ds : List D} : gTuple [.tup ds] = some (.tup ds) := rfl
@[simp] theorem gIx_tup {ds : List D} {i : Int} : gIx (.tup ds) (.int i) = atI ds i := rfl
@[simp] theorem gIx_lst {ds : List D} {i : Int} : gIx (.lst ds) (.int i) = atI ds i := rfl
@[simp] theorem gCatL_ap {xs ys : List D} : gCatL (.lst xs) (.lst ys) = if fits (xs.length + ys.length) = true then some (xs ++ ys) else none := rfl
@[simp] theorem gAll_ap {ds : List D} : gAll [.lst ds] = (D.bools ds).map fun bs => .bl (bs.all id) := rfl
@[simp] theorem fin_nx : fin (.ok .nx s) = .ok (.val .non) s := rfl
@[simp] theorem fin_rt {r : Sl} : fin (.ok (.rt r) s) = .ok r s := rfl
@[simp] theorem fin_exc {x : Exc} : fin (.exc x s) = .exc x s := rfl
@[simp] theorem loop_nil : loop tg b [] s = .ok .nx s := rfl
theorem atI0 {α : Type} {x : α} {l : List α} : atI (x :: l) 0 = some x := atI_nat (j := 0) rfl
theorem atI1 {α : Type} {x y : α} {l : List α} : atI (x :: y :: l) 1 = some y := atI_nat (j := 1) rfl
theorem ixN_nat {n j : Nat} (h : j < n) : ixN n (j : Int) = some j := by
  unfold ixN
  rw [if_pos (by omega), if_pos (by omega)]
  simp
end
/-! the source of numbers -/
def DOk (o : O) : Prop := ∃ (a b : Int) (r : List Int), o = .lst (.int a :: .int b :: r.map .int) ∧ 0 ≤ a ∧ 0 ≤ b ∧ (∀ x ∈ r, 0 ≤ x) ∧ r.length ≤ 63
/-- a call of a def whose first argument is the source, lent -/
@[irreducible] def LOk (F : FL) (ds : List D) (P : D → Prop) : Prop := ∀ o, DOk o → ∃ d o' s, F o ds = .ok (.val d) s ∧ s[0]? = some (some (.bor o')) ∧ DOk o' ∧ P d
theorem DOk.sub {o : O} (h : DOk o) : o.sub = [] := by
  obtain ⟨a, b, r, rfl, _⟩ := h
  rfl
theorem mutAt_sub {s : S} {i : Nat} {w : Sl} {o : O} (h : mutAt s i = some (w, o)) : w.sub = o.sub := sub_mu (mutAt_some h).2
end Den

set_option Elab.async false
set_option linter.all false
set_option maxRecDepth 100000
set_option maxHeartbeats 4000000
namespace Den
variable {hox : Option Addr}
open PySem PySem.Spec PyProof.Rows L2
/-! ### what a mirror gives: rules of wishes -/
@[irreducible] def W {α : Type} (o : Out α) (P : α → S → Prop) (E : Exc → S → Prop) : Prop := match o with
  | .ok a s => P a s
  | .exc x s => E x s
  | .bad => False
def Sm {α : Type} (o : Option α) (P : α → Prop) : Prop := ∃ z, o = some z ∧ P z
abbrev E9 : Exc → S → Prop := fun _ _ => False
section
variable {α β : Type} {P P' : α → S → Prop} {Q : β → S → Prop} {E : Exc → S → Prop} {o : Out α} {a : α} {s s1 : S} {x : Exc}
theorem w_ok (h : P a s) : W (.ok a s) P E := by with_unfolding_all exact (
    h)
theorem W.imp (h : W o P E) (q : ∀ a s, P a s → P' a s) : W o P' E := by
  with_unfolding_all
    cases o with
    | ok a s => exact q a s h
    | exc x s => exact h
    | bad => exact h
theorem w_bind {k : α → S → Out β} (h : W o (fun a s => W (k a s) Q E) E) : W (o.bind k) Q E := by
  with_unfolding_all
    cases o with
    | ok a s => exact h
    | exc x s => exact h
    | bad => exact h
theorem W.get (h : W o P E9) : ∃ a s, o = .ok a s ∧ P a s := by
  with_unfolding_all
    cases o with
    | ok a s => exact ⟨a, s, rfl, h⟩
    | exc x s => exact h.elim
    | bad => exact h.elim
theorem w_of (e : o = .ok a s) (h : P a s) : W o P E := by with_unfolding_all
    rw [e]; exact h
theorem w_o2 {z : Option α} (h : Sm z fun a => P a s) : W (o2 z s) P E := by
  with_unfolding_all
    obtain ⟨z, rfl, h⟩ := h
    exact h
end
theorem Sm.of {α : Type} {o : Option α} {z : α} {P : α → Prop} (e : o = some z) (h : P z) : Sm o P := by with_unfolding_all exact (
    ⟨z, e, h⟩)
def kq (b : MS) (P : Fl → S → Prop) (E : Exc → S → Prop) : Fl → S → Prop
  | .nx, s => W (b s) P E
  | .rt r, s => P (.rt r) s
  | .bk, s => P .bk s
  | .ct, s => P .ct s
def kb (P Q : Prop) (b : Bool) : Prop := (b = true → P) ∧ (b = false → Q)
def kt (P : Bool → S → Prop) : D → S → Prop := fun d s => ∃ b, d = .bl b ∧ P b s
section
variable {d : D} {m ma mb : MD} {mo : MO} {g g' : D → D → Option D} {g1 : D → Option D} {t ta tb : MB} {a b : MS} {ml : ML} {s : S} {i j n : Nat} {gg : List D → Option D} {gl : List D → Option (List D)} {tg : MG} {mi : MI}
  {E : Exc → S → Prop} {P : D → S → Prop} {PO : Sl → S → Prop} {PB : Bool → S → Prop} {PS : Fl → S → Prop} {PL : List D → S → Prop} {o : O}
theorem kq_nx (h : W (b s) PS E) : kq b PS E .nx s := by with_unfolding_all exact (
    h)
theorem kq_rt {r : Sl} (h : PS (.rt r) s) : kq b PS E (.rt r) s := h
theorem kb_t {p q : Prop} (h : p) : kb p q true := ⟨fun _ => h, fun z => by cases z⟩
theorem kb_f {p q : Prop} (h : q) : kb p q false := ⟨fun z => (by cases z), fun _ => h⟩
theorem kb_tr {p q : Prop} {b : Bool} (e : b = true) (h : p) : kb p q b := ⟨fun _ => h, fun z => (by rw [e] at z; cases z)⟩
theorem kb_fr {p q : Prop} {b : Bool} (e : b = false) (h : q) : kb p q b := ⟨fun z => (by rw [e] at z; cases z), fun _ => h⟩
theorem kt_bl {k : Bool} (h : PB k s) : kt PB (.bl k) s := ⟨k, rfl, h⟩
theorem w_K (h : P d s) : W (mK d s) P E := by with_unfolding_all exact (
    h)
theorem w_var (e : s[i]? = some (some (.val d))) (h : P d s) : W (mVar i s) P E := by with_unfolding_all
    unfold mVar; rw [e]; exact h
theorem w_varO (e : s[i]? = some (some (.own o))) (f : o.frz = some d) (h : P d (s.set i (some (.val d)))) : W (mVar i s) P E := by with_unfolding_all
    unfold mVar; rw [e]; simp only [f]; exact h
theorem w_bin (h : W (ma s) (fun x s1 => W (mb s1) (fun y s2 => Sm (g x y) fun z => P z s2) E) E) : W (mBin g ma mb s) P E := by with_unfolding_all exact (
    w_bind (h.imp fun x s1 q => w_bind (q.imp fun y s2 q => w_o2 q)))
theorem w_un (h : W (ma s) (fun x s1 => Sm (g1 x) fun z => P z s1) E) : W (mUn g1 ma s) P E := by with_unfolding_all exact (
    w_bind (h.imp fun x s1 q => w_o2 q))
theorem w_isi {T : String} (h : W (ma s) (fun x s1 => Sm (gIsi T x) fun z => P z s1) E) : W (mIsi T ma s) P E := by with_unfolding_all exact (
    w_bind (h.imp fun x s1 q => w_o2 q))
theorem w_val (h : W (m s) (fun d s1 => PO (.val d) s1) E) : W (mVal m s) PO E := by with_unfolding_all exact (
    w_bind h)
theorem w_frz (h : W (mo s) (fun r s1 => Sm r.frz fun d => P d s1) E) : W (mFrz mo s) P E := by with_unfolding_all exact (
    w_bind (h.imp fun x s1 q => w_o2 q))
theorem w_test (h : W (m s) (kt PB) E) : W (mTest m s) PB E := by with_unfolding_all exact (
    w_bind (h.imp fun x s1 ⟨b, e, q⟩ => by subst e; exact q))
theorem w_if {α : Type} {p q : S → Out α} {P : α → S → Prop} (h : W (t s) (fun c s1 => kb (W (p s1) P E) (W (q s1) P E) c) E) : W (mIf t p q s) P E := by with_unfolding_all exact (
    w_bind (h.imp fun c s1 ⟨h1, h2⟩ => by cases c with | true => exact h1 rfl | false => exact h2 rfl))
theorem w_and (h : W (ta s) (fun c s1 => kb (W (tb s1) PB E) (PB false s1) c) E) : W (bAnd ta tb s) PB E := by with_unfolding_all exact (
    w_bind (h.imp fun c s1 ⟨h1, h2⟩ => by cases c with | true => exact h1 rfl | false => exact h2 rfl))
theorem w_or (h : W (ta s) (fun c s1 => kb (PB true s1) (W (tb s1) PB E) c) E) : W (bOr ta tb s) PB E := by with_unfolding_all exact (
    w_bind (h.imp fun c s1 ⟨h1, h2⟩ => by cases c with | true => exact h1 rfl | false => exact h2 rfl))
theorem w_not (h : W (ta s) (fun c s1 => PB (!c) s1) E) : W (bNot ta s) PB E := by with_unfolding_all exact (
    w_bind h)
theorem w_mAnd (h : W (ma s) (kt fun c s1 => kb (W (mb s1) P E) (P (.bl false) s1) c) E) : W (mAnd ma mb s) P E := by with_unfolding_all exact (
    w_bind (h.imp fun x s1 ⟨c, e, h1, h2⟩ => by subst e; cases c with | true => exact h1 rfl | false => exact h2 rfl))
theorem w_mOr (h : W (ma s) (kt fun c s1 => kb (P (.bl true) s1) (W (mb s1) P E) c) E) : W (mOr ma mb s) P E := by with_unfolding_all exact (
    w_bind (h.imp fun x s1 ⟨c, e, h1, h2⟩ => by subst e; cases c with | true => exact h1 rfl | false => exact h2 rfl))
theorem w_mNot (h : W (ma s) (kt fun c s1 => P (.bl (!c)) s1) E) : W (mNot ma s) P E := by with_unfolding_all exact (
    w_bind (h.imp fun x s1 ⟨c, e, h1⟩ => by subst e; exact h1))
theorem w_chain {mc : MD} (h : W (ma s) (fun x s1 => W (mb s1) (fun y s2 => Sm (g x y) fun z => kt (fun c s2 => kb (W (mc s2) (fun z s3 => Sm (g' y z) fun u => P u s3) E) (P (.bl false) s2) c) z s2) E) E) : W (mChain g g' ma mb mc s) P E := by with_unfolding_all exact (
    w_bind (h.imp fun x s1 q => w_bind (q.imp fun y s2 ⟨z, e, c, e2, h1, h2⟩ => by
    subst e2
    simp only [e]
    cases c with
    | true => exact w_bind ((h1 rfl).imp fun z s3 q => w_o2 q)
    | false => exact h2 rfl)))
theorem w_nil (h : PL [] s) : W (lNil s) PL E := by with_unfolding_all exact (
    h)
theorem w_cons (h : W (m s) (fun d s1 => W (ml s1) (fun ds s2 => PL (d :: ds) s2) E) E) : W (lCons m ml s) PL E := by with_unfolding_all exact (
    w_bind (h.imp fun d s1 q => w_bind q))
theorem w_star (h : W (m s) (fun d s1 => Sm d.items fun ds => W (ml s1) (fun es s2 => PL (ds ++ es) s2) E) E) : W (lStar m ml s) PL E := by with_unfolding_all exact (
    w_bind (h.imp fun d s1 ⟨ds, e, q⟩ => by simp only [e]; exact w_bind q))
theorem w_tup (h : W (ml s) (fun ds s1 => fits ds.length = true ∧ P (.tup ds) s1) E) : W (mTup ml s) P E := by with_unfolding_all exact (
    w_bind (h.imp fun ds s1 ⟨f, q⟩ => by rw [if_pos f]; exact q))
theorem w_lst (h : W (ml s) (fun ds s1 => fits ds.length = true ∧ PO (.own (.lst ds)) s1) E) : W (mLst ml s) PO E := by with_unfolding_all exact (
    w_bind (h.imp fun ds s1 ⟨f, q⟩ => by rw [if_pos f]; exact q))
theorem w_app (h : W (ml s) (fun ds s1 => Sm (gg ds) fun z => P z s1) E) : W (mApp gg ml s) P E := by with_unfolding_all exact (
    w_bind (h.imp fun x s1 q => w_o2 q))
theorem w_appL (h : W (ml s) (fun ds s1 => Sm (gl ds) fun z => PO (.own (.lst z)) s1) E) : W (mAppL gl ml s) PO E := by with_unfolding_all exact (
    w_bind (h.imp fun x s1 ⟨z, e, q⟩ => by simp only [e]; exact q))
theorem w_binL {g : D → D → Option (List D)} (h : W (ma s) (fun x s1 => W (mb s1) (fun y s2 => Sm (g x y) fun z => PO (.own (.lst z)) s2) E) E) : W (mBinL g ma mb s) PO E := by with_unfolding_all exact (
    w_bind (h.imp fun x s1 q => w_bind (q.imp fun y s2 ⟨z, e, q⟩ => by simp only [e]; exact q)))
theorem w_seq (h : W (a s) (kq b PS E) E) : W (mSeq a b s) PS E := by with_unfolding_all exact (
    w_bind (h.imp fun f s1 q => by cases f <;> exact q))
theorem w_nx (h : PS .nx s) : W (mNx s) PS E := by with_unfolding_all exact (
    h)
theorem w_drop (h : W (mo s) (fun _ s1 => PS .nx s1) E) : W (mDrop mo s) PS E := by with_unfolding_all exact (
    w_bind h)
theorem w_ret (h : W (mo s) (fun r s1 => PS (.rt r) s1) E) : W (mRet mo s) PS E := by with_unfolding_all exact (
    w_bind h)
theorem w_take (e : s[i]? = some (some (.own o))) (h : PO (.own o) (s.set i none)) (hz : o.sub.isEmpty = true := by rfl) : W (mTake i s) PO E := by with_unfolding_all
    unfold mTake; rw [e]; simp only [if_pos hz]; exact h
theorem w_takeV (e : s[i]? = some (some (.val d))) (h : PO (.val d) s) : W (mTake i s) PO E := by with_unfolding_all
    unfold mTake; rw [e]; exact h
theorem w_retN (h : PS (.rt (.val .non)) s) : W (mRetN s) PS E := by with_unfolding_all exact (
    h)
theorem w_ifs (h : W (t s) (fun c s1 => kb (W (a s1) PS E) (W (b s1) PS E) c) E) : W (mIfS t a b s) PS E := by with_unfolding_all exact (
    w_bind (h.imp fun c s1 ⟨h1, h2⟩ => by cases c with | true => exact h1 rfl | false => exact h2 rfl))
/-- what a slot takes -/
def kput (i : Nat) (P : Fl → S → Prop) : Sl → S → Prop
  | .val d, s => free s i = true ∧ P .nx (s.set i (some (.val d)))
  | .own o, s => free s i = true ∧ P .nx (s.set i (some (.own o)))
  | .bor _, _ => False
theorem kput_v (f : free s i = true) (h : PS .nx (s.set i (some (.val d)))) : kput i PS (.val d) s := ⟨f, h⟩
theorem kput_o (f : free s i = true) (h : PS .nx (s.set i (some (.own o)))) : kput i PS (.own o) s := ⟨f, h⟩
theorem w_set (h : W (mo s) (kput i PS) E) : W (mSet i mo s) PS E := by with_unfolding_all exact (
    w_bind (h.imp fun r s1 q => by
  cases r with
  | val d => obtain ⟨f, q⟩ := q; unfold put; simp only [if_pos f]; exact q
  | own o => obtain ⟨f, q⟩ := q; unfold put; simp only [if_pos f]; exact q
  | bor o => exact q.elim))
theorem w_asg (h : W (m s) (fun d s1 => Sm (tg d s1) fun s2 => PS .nx s2) E) : W (mAsg m tg s) PS E := by with_unfolding_all exact (
    w_bind (h.imp fun d s1 ⟨s2, e, q⟩ => by simp only [e]; exact q))
theorem w_seqI (h : W (m s) (fun d s1 => Sm d.items fun ds => PL ds s1) E) : W (iSeq m s) PL E := by with_unfolding_all exact (
    w_bind (h.imp fun d s1 ⟨ds, e, q⟩ => by simp only [e]; exact q))
theorem w_for (h : W (mi s) (fun ds s1 => W (loop tg b ds s1) PS E) E) : W (mFor mi tg b s) PS E := by with_unfolding_all exact (
    w_bind h)
theorem w_compI {vs : List Nat} (h : W (mi s) (fun ds s1 => W (compOut vs tg t m ds s1) PO E) E) : W (mComp vs mi tg t m s) PO E := by with_unfolding_all exact (
    w_bind h)
/-- what a loop's turn leaves -/
def kl (I : S → Prop) (P : Fl → S → Prop) : Fl → S → Prop
  | .nx, s => I s
  | .ct, s => I s
  | .bk, s => P .nx s
  | .rt r, s => P (.rt r) s
theorem kl_nx {I : S → Prop} (h : I s) : kl I PS .nx s := h
theorem kl_rt {I : S → Prop} {r : Sl} (h : PS (.rt r) s) : kl I PS (.rt r) s := h
theorem w_loop {ds : List D} (I : List D → S → Prop) (h0 : I ds s) (step : ∀ d ds s, I (d :: ds) s → Sm (tg d s) fun s1 => W (b s1) (kl (I ds) PS) E) (fin : ∀ s, I [] s → PS .nx s) : W (loop tg b ds s) PS E := by
  with_unfolding_all
    induction ds generalizing s with
    | nil => exact fin s h0
    | cons d ds ih =>
      obtain ⟨s1, e1, h1⟩ := step d ds s h0
      unfold loop
      simp only [e1]
      cases e2 : b s1 with
      | ok f s2 =>
        rw [e2] at h1
        cases f with
        | nx => exact ih h1
        | ct => exact ih h1
        | bk => exact h1
        | rt r => exact h1
      | exc x s2 => rw [e2] at h1; exact h1
      | bad => rw [e2] at h1; exact h1
theorem w_comp {vs : List Nat} {ds : List D} (I : List D → List D → S → Prop) (hv : vs.all (plainAt s) = true) (h0 : I ds [] (wipeS s vs))
    (step : ∀ d ds acc s, I (d :: ds) acc s → Sm (tg d s) fun s1 => W (t s1) (fun c s2 => kb (W (m s2) (fun y s3 => vs.all (plainAt s3) = true ∧ I ds (acc ++ [y]) (wipeS s3 vs)) E9) (vs.all (plainAt s2) = true ∧ I ds acc (wipeS s2 vs)) c) E9)
    (fin : ∀ acc s1, I [] acc s1 → fits acc.length = true ∧ PO (.own (.lst acc)) (restore s1 s vs)) : W (compOut vs tg t m ds s) PO E := by
  with_unfolding_all
    have key : ∀ (ds acc : List D) (u : S), I ds acc u → ∃ zs u', cloop vs tg t m ds u = .ok zs u' ∧ I [] (acc ++ zs) u' := by
      intro ds
      induction ds with
      | nil => intro acc u h; exact ⟨[], u, rfl, by rw [List.append_nil]; exact h⟩
      | cons d ds ih =>
        intro acc u h
        obtain ⟨u1, e1, h1⟩ := step d ds acc u h
        obtain ⟨c, u2, e2, h2, h3⟩ := h1.get
        unfold cloop
        simp only [e1, e2]
        cases c with
        | true =>
          obtain ⟨y, u3, e3, f3, i3⟩ := (h2 rfl).get
          obtain ⟨zs, u4, e4, i4⟩ := ih _ _ i3
          simp only [e3, if_pos f3, e4]
          exact ⟨_, _, rfl, by rw [List.append_assoc] at i4; exact i4⟩
        | false =>
          obtain ⟨f3, i3⟩ := h3 rfl
          simp only [if_pos f3]
          exact ih _ _ i3
    obtain ⟨zs, u, e, i⟩ := key ds [] _ h0
    obtain ⟨f, q⟩ := fin _ _ i
    unfold compOut
    rw [if_pos hv]
    simp only [e]
    rw [List.nil_append] at f q
    rw [if_pos f]
    exact q
theorem w_rloop {n : Nat} (I : Nat → S → Prop) (h0 : I 0 s) (step : ∀ j s, j < n → I j s → Sm (tg (.int (j : Nat)) s) fun s1 => W (b s1) (kl (I (j + 1)) PS) E) (fin : ∀ s, I n s → PS .nx s) : W (loop tg b (rngD 0 n) s) PS E := by
  with_unfolding_all
    refine w_loop (fun ds s => ∃ j, j ≤ n ∧ ds = (rngD 0 n).drop j ∧ I j s) ⟨0, Nat.zero_le _, rfl, h0⟩ ?_ ?_
    · rintro d ds s ⟨j, hj, e, h⟩
      have hl : (rngD 0 n).length = n := by unfold rngD; rw [List.length_map, List.length_range]
      have hlt : j < (rngD 0 n).length := by
        rcases Nat.lt_or_ge j (rngD 0 n).length with h | h
        · exact h
        · rw [List.drop_eq_nil_of_le h] at e; cases e
      rw [List.drop_eq_getElem_cons hlt] at e
      cases e
      have ed : (rngD 0 n)[j] = .int (j : Nat) := by unfold rngD; simp
      rw [ed]
      obtain ⟨s1, e1, q⟩ := step j s (by omega) h
      refine ⟨s1, e1, q.imp fun f s2 q => ?_⟩
      cases f with
      | nx => exact ⟨j + 1, by omega, rfl, q⟩
      | ct => exact ⟨j + 1, by omega, rfl, q⟩
      | bk => exact q
      | rt r => exact q
    · rintro s ⟨j, hj, e, h⟩
      have hl : (rngD 0 n).length = n := by unfold rngD; rw [List.length_map, List.length_range]
      have : j = n := by
        have := congrArg List.length e
        rw [List.length_drop, hl] at this
        simp at this
        omega
      subst this
      exact fin s h
/-! slots in their place -/
theorem w_ixO {o : Sl} {ds : List D} (e : mutL s i = some (o, ds)) (h : W (m s) (fun k s1 => ∃ w xs j z, mutL s1 i = some (w, xs) ∧ k = .int j ∧ atI xs j = some z ∧ P z s1) E) : W (mIxO i m s) P E := by
  with_unfolding_all
    unfold mIxO
    simp only [e]
    refine w_bind (h.imp fun k s1 ⟨w, xs, j, z, e1, e2, e3, q⟩ => ?_)
    subst e2
    simp only [e1, e3]
    exact q
theorem w_lenO {o : Sl} {ds : List D} (e : mutL s i = some (o, ds)) (h : P (.int (ds.length : Nat)) s) : W (mLenO i s) P E := by
  with_unfolding_all
    unfold mLenO
    simp only [e]
    exact h
theorem w_append {o : Sl} {ds : List D} (e : mutL s i = some (o, ds)) (h : W (m s) (fun d s1 => ∃ w xs, mutL s1 i = some (w, xs) ∧ fits (xs.length + 1) = true ∧ PO (.val .non) (s1.set i (some (w.re (.lst (xs ++ [d])))))) E) : W (mAppend i m s) PO E := by
  with_unfolding_all
    unfold mAppend
    simp only [e]
    refine w_bind (h.imp fun k s1 ⟨w, xs, e1, e2, q⟩ => ?_)
    simp only [e1, if_pos e2]
    exact q
theorem w_setIx {mk : MD} (h : W (m s) (fun d s1 => ∃ w0 xs0, mutL s1 i = some (w0, xs0) ∧ W (mk s1) (fun k s2 => ∃ w xs j n, mutL s2 i = some (w, xs) ∧ k = .int j ∧ ixN xs.length j = some n ∧ PS .nx (s2.set i (some (w.re (.lst (xs.set n d)))))) E) E) : W (mSetIx i mk m s) PS E := by
  with_unfolding_all
    refine w_bind (h.imp fun d s1 ⟨w0, xs0, e0, q⟩ => ?_)
    simp only [e0]
    refine w_bind (q.imp fun k s2 ⟨w, xs, j, n, e1, e2, e3, q⟩ => ?_)
    subst e2
    simp only [e1, e3]
    exact q
theorem w_pop {o : Sl} {ds : List D} (e : mutL s i = some (o, ds)) (h : W (m s) (fun k s1 => ∃ w xs j n, mutL s1 i = some (w, xs) ∧ k = .int j ∧ ixN xs.length j = some n ∧ ∃ z, xs[n]? = some z ∧ i62 j = true ∧ P z (s1.set i (some (w.re (.lst (xs.eraseIdx n)))))) E) : W (mPop i m s) P E := by
  with_unfolding_all
    unfold mPop
    simp only [e]
    refine w_bind (h.imp fun k s1 ⟨w, xs, j, n, e1, e2, e3, z, e4, e5, q⟩ => ?_)
    subst e2
    simp only [e1, e3, e4, if_pos e5]
    exact q
theorem ixN0 {α : Type} {x : α} {l : List α} : ixN (x :: l).length 0 = some 0 := ixN_nat (j := 0) (by simp)
theorem ixN1 {α : Type} {x y : α} {l : List α} : ixN (x :: y :: l).length 1 = some 1 := ixN_nat (j := 1) (by simp)
theorem ixN2 {α : Type} {x y z : α} {l : List α} : ixN (x :: y :: z :: l).length 2 = some 2 := ixN_nat (j := 2) (by simp)
theorem w_make {cn : Str} {F : FL} (h : W (ml s) (fun ds s1 => ds.length + 1 = n ∧ ∃ s' o', F (.ins cn []) ds = .ok (.val .non) s' ∧ s'[0]? = some (some (.bor o')) ∧ o'.sub.isEmpty = true ∧ PO (.own o') s1) E) : W (mMake cn F n ml s) PO E := by
  with_unfolding_all
    refine w_bind (h.imp fun ds s1 ⟨hl, s', o', e, e0, hz, q⟩ => ?_)
    simp only [if_pos hl, e, e0, if_pos hz]
    exact q
theorem w_setF {cn f : Str} (h : W (m s) (fun d s1 => ∃ w fs, mutI s1 i = some (w, cn, fs) ∧ fs.length < 1000 ∧ PS .nx (s1.set i (some (w.re (.ins cn (putFD f d fs)))))) E) : W (mSetF i cn f m s) PS E := by
  with_unfolding_all
    refine w_bind (h.imp fun d s1 ⟨w, fs, e, hl, q⟩ => ?_)
    simp only [e]
    rw [if_pos ⟨trivial, hl⟩]
    exact q
theorem w_rev (h : W (m s) (fun d s1 => ∃ xs, d = .tup xs ∧ P (.tup xs.reverse) s1) E) : W (mRev m s) P E := by with_unfolding_all exact (
    w_bind (h.imp fun d s1 ⟨xs, e, q⟩ => by subst e; exact q))
theorem w_r1 (h : W (ml s) (fun ds s1 => ∃ j, ds = [.int j] ∧ i62 j = true ∧ PL (rngD 0 j.toNat) s1) E) : W (iR1 ml s) PL E := by with_unfolding_all exact (
    w_bind (h.imp fun ds s1 ⟨j, e, f, q⟩ => by subst e; simp only [if_pos f]; exact q))
theorem w_en (h : W (ml s) (fun ds s1 => ∃ d xs, ds = [d] ∧ d.items = some xs ∧ PL (enumD 0 xs) s1) E) : W (iEn ml s) PL E := by with_unfolding_all exact (
    w_bind (h.imp fun ds s1 ⟨d, xs, e, f, q⟩ => by subst e; simp only [f]; exact q))
theorem w_zp (h : W (ml s) (fun ds s1 => ∃ xs ys, ds = [.tup xs, .tup ys] ∧ PL (zipD xs ys) s1) E) : W (iZp ml s) PL E := by with_unfolding_all exact (
    w_bind (h.imp fun ds s1 ⟨xs, ys, e, q⟩ => by subst e; exact q))
theorem w_sl {lo hi : MP} (h : W (m s) (fun d s1 => W (lo s1) (fun x s2 => W (hi s2) (fun y s3 => Sm (gSl d x y) fun z => P z s3) E) E) E) : W (mSl m lo hi s) P E := by with_unfolding_all exact (
    w_bind (h.imp fun d s1 q => w_bind (q.imp fun x s2 q => w_bind (q.imp fun y s3 q => w_o2 q))))
theorem w_pNo {Po : Option Int → S → Prop} (h : Po none s) : W (pNo s) Po E := by with_unfolding_all exact (
    h)
theorem w_pSo {Po : Option Int → S → Prop} (h : W (m s) (fun d s1 => ∃ i, d = .int i ∧ Po (some i) s1) E) : W (pSo m s) Po E := by with_unfolding_all exact (
    w_bind (h.imp fun d s1 ⟨i, e, q⟩ => by subst e; exact q))
/-! calls -/
@[irreducible] def FOk (F : FP) (ds : List D) (P : Sl → Prop) : Prop := ∃ r s, F ds = .ok r s ∧ (∀ o, r ≠ .bor o) ∧ P r
theorem FOk.get {F : FP} {ds : List D} {P : Sl → Prop} (h : FOk F ds P) : ∃ r s, F ds = .ok r s ∧ (∀ o, r ≠ .bor o) ∧ P r := by with_unfolding_all exact h
theorem FOk.mk {F : FP} {ds : List D} {P : Sl → Prop} (h : ∃ r s, F ds = .ok r s ∧ (∀ o, r ≠ .bor o) ∧ P r) : FOk F ds P := by with_unfolding_all exact h
theorem w_call {F : FP} (h : W (ml s) (fun ds s1 => ds.length = n ∧ FOk F ds fun r => PO r s1) E) : W (mCall F n ml s) PO E := by
  with_unfolding_all
    refine w_bind (h.imp fun ds s1 ⟨hl, hf⟩ => ?_)
    obtain ⟨r, s2, e, nb, q⟩ := hf.get
    simp only [if_pos hl, e]
    cases r with
    | val d => exact q
    | own o => exact q
    | bor o => exact absurd rfl (nb o)
@[irreducible] def FEx (F : FP) (ds : List D) (x : Exc) : Prop := ∃ s, F ds = .exc x s
theorem FEx.get {F : FP} {ds : List D} {x : Exc} (h : FEx F ds x) : ∃ s, F ds = .exc x s := by with_unfolding_all exact h
theorem FEx.mk {F : FP} {ds : List D} {x : Exc} (h : ∃ s, F ds = .exc x s) : FEx F ds x := by with_unfolding_all exact h
theorem w_fld {cn f : Str} (h : W (m s) (fun d s1 => ∃ fs z, d = .obj cn fs ∧ fs.lookup f = some z ∧ P z s1) E) : W (mFld cn f m s) P E := by with_unfolding_all exact (
    w_bind (h.imp fun d s1 ⟨fs, z, e, e2, q⟩ => by subst e; simp only [if_pos, e2]; exact q))
end
/-! defs -/
def kf (P : Sl → Prop) : Fl → S → Prop
  | .nx, _ => P (.val .non)
  | .rt r, _ => (∀ o, r ≠ .bor o) ∧ P r
  | _, _ => False
theorem kf_nx {P : Sl → Prop} {s : S} (h : P (.val .non)) : kf P .nx s := h
theorem kf_v {P : Sl → Prop} {s : S} {d : D} (h : P (.val d)) : kf P (.rt (.val d)) s := ⟨fun _ z => (by cases z), h⟩
theorem kf_o {P : Sl → Prop} {s : S} {o : O} (h : P (.own o)) : kf P (.rt (.own o)) s := ⟨fun _ z => (by cases z), h⟩
theorem fok {N n : Nat} {m : MS} {ds : List D} {P : Sl → Prop} (hn : ds.length = n) (h : W (m (init N ds)) (kf P) E9) : FOk (runP N n m) ds P := by
  with_unfolding_all
    obtain ⟨f, s, e, q⟩ := h.get
    unfold FOk runP
    rw [if_pos hn, e]
    cases f with
    | nx => exact ⟨_, s, rfl, fun o z => (by cases z), q⟩
    | rt r => exact ⟨r, s, rfl, q.1, q.2⟩
    | bk => exact q.elim
    | ct => exact q.elim
def kL (P : D → Prop) : Fl → S → Prop
  | .rt (.val d), s => ∃ o', s[0]? = some (some (.bor o')) ∧ DOk o' ∧ P d
  | _, _ => False
theorem kL_v {P : D → Prop} {s : S} {d : D} {o' : O} (e : s[0]? = some (some (.bor o'))) (k : DOk o') (h : P d) : kL P (.rt (.val d)) s := ⟨o', e, k, h⟩
theorem lok {N n : Nat} {m : MS} {ds : List D} {P : D → Prop} (hn : ds.length + 1 = n) (h : ∀ o, DOk o → W (m (some (.bor o) :: init (N - 1) ds)) (kL P) E9) : LOk (runL N n m) ds P := by
  with_unfolding_all
    intro o ho
    obtain ⟨f, s, e, q⟩ := (h o ho).get
    unfold runL
    rw [if_pos hn, e]
    cases f with
    | rt r =>
      cases r with
      | val d => obtain ⟨o', e0, k, q⟩ := q; exact ⟨d, o', s, rfl, e0, k, q⟩
      | own o => exact q.elim
      | bor o => exact q.elim
    | nx => exact q.elim
    | bk => exact q.elim
    | ct => exact q.elim
def kg (P : Sl → S → Prop) : Fl → S → Prop
  | .nx, s => P (.val .non) s
  | .rt r, s => P r s
  | _, _ => False
theorem kg_nx {P : Sl → S → Prop} {s : S} (h : P (.val .non) s) : kg P .nx s := h
theorem kg_rt {P : Sl → S → Prop} {s : S} {r : Sl} (h : P r s) : kg P (.rt r) s := h
/-! operators on data -/
theorem sm_isNr {x y z : D} {P : D → Prop} (e : gIsN x y = some z) (h : P z) : Sm (gIsN x y) P := by with_unfolding_all exact (
    ⟨z, e, h⟩)
theorem sm_notNr {x y z : D} {P : D → Prop} (e : gNotN x y = some z) (h : P z) : Sm (gNotN x y) P := by with_unfolding_all exact (
    ⟨z, e, h⟩)
theorem sm_neB {x y : Bool} {z : D} {P : D → Prop} (e : gNe (.bl x) (.bl y) = some z) (h : P z) : Sm (gNe (.bl x) (.bl y)) P := by with_unfolding_all exact (
    ⟨z, e, h⟩)
theorem sm_mulTr {xs : List D} {k : Int} {z : D} {P : D → Prop} (e : gMul (.tup xs) (.int k) = some z) (h : P z) : Sm (gMul (.tup xs) (.int k)) P := by with_unfolding_all exact (
    ⟨z, e, h⟩)
theorem sm_frzI {c : Str} {fs : List (Str × D)} {P : D → Prop} (h : P (.obj c fs)) : Sm (Sl.own (.ins c fs)).frz P := by with_unfolding_all exact (
    ⟨_, rfl, h⟩)
theorem sm_frzK {fs : List (Key × D)} {P : D → Prop} (h : P (.dic fs)) : Sm (Sl.own (.dK fs)).frz P := by with_unfolding_all exact (
    ⟨_, rfl, h⟩)
theorem w_dict0 {s : S} {P : Sl → S → Prop} {E : Exc → S → Prop} (h : P (.own (.dK [])) s) : W (mDict0 s) P E := by with_unfolding_all exact (
    h)
theorem sm_eqSf {a b : Str} {P : D → Prop} (c : eqD (.str a) (.str b) = some false) (h : P (.bl false)) : Sm (gEq (.str a) (.str b)) P := by with_unfolding_all exact (
    ⟨_, by unfold gEq; rw [c]; rfl, h⟩)
theorem sm_eqSt {a b : Str} {P : D → Prop} (c : eqD (.str a) (.str b) = some true) (h : P (.bl true)) : Sm (gEq (.str a) (.str b)) P := by with_unfolding_all exact (
    ⟨_, by unfold gEq; rw [c]; rfl, h⟩)
theorem sm_isi {T : String} {d : D} {b : Bool} {P : D → Prop} (k : kitB d.ty T = some b) (h : P (.bl b)) (no : ∀ c fs, d ≠ .obj c fs) (nx : ∀ c fs, d ≠ .exn c fs) : Sm (gIsi T d) P := by
  with_unfolding_all
    refine ⟨.bl b, ?_, h⟩
    unfold gIsi
    rw [k]
    cases d with
    | obj c fs => exact absurd rfl (no c fs)
    | exn c fs => exact absurd rfl (nx c fs)
    | _ => rfl
section
variable {i j : Int} {P : D → Prop} {ds es : List D}
theorem sm_add (h : P (.int (i + j))) : Sm (gAdd (.int i) (.int j)) P := by with_unfolding_all exact (
    ⟨_, rfl, h⟩)
theorem sm_sub (h : P (.int (i - j))) : Sm (gSub (.int i) (.int j)) P := by with_unfolding_all exact (
    ⟨_, rfl, h⟩)
theorem sm_neg (h : P (.int (-i))) : Sm (gNeg (.int i)) P := by with_unfolding_all exact (
    ⟨_, rfl, h⟩)
theorem sm_mul (c : i64 i = true ∨ i64 j = true) (h : P (.int (i * j))) : Sm (gMul (.int i) (.int j)) P := by with_unfolding_all exact (
    ⟨_, by rw [gMul_int, if_pos (by rw [Bool.or_eq_true]; exact c)], h⟩)
theorem sm_mod (c : 0 < j) (h : P (.int (i % j))) : Sm (gMod (.int i) (.int j)) P := by with_unfolding_all exact (
    ⟨_, by rw [gMod_int, if_pos c], h⟩)
theorem sm_fdiv (c : 0 < j) (c2 : j.natAbs.log2 < 9000) (h : P (.int (i / j))) : Sm (gFDiv (.int i) (.int j)) P := by with_unfolding_all exact (
    ⟨_, by rw [gFDiv_int, if_pos (by rw [Bool.and_eq_true]; exact ⟨decide_eq_true c, decide_eq_true c2⟩)], h⟩)
theorem sm_cmp {f : Int → Int → Bool} (h : P (.bl (f i j))) : Sm (gCmp f (.int i) (.int j)) P := by with_unfolding_all exact (
    ⟨_, rfl, h⟩)
theorem sm_eqI (h : P (.bl (decide (i = j)))) : Sm (gEq (.int i) (.int j)) P := by with_unfolding_all exact (
    ⟨_, rfl, h⟩)
theorem sm_neI (h : P (.bl (!decide (i = j)))) : Sm (gNe (.int i) (.int j)) P := by with_unfolding_all exact (
    ⟨_, rfl, h⟩)
theorem sm_ixT {z : D} (e : atI ds i = some z) (h : P z) : Sm (gIx (.tup ds) (.int i)) P := by with_unfolding_all exact (
    ⟨_, e, h⟩)
theorem sm_ixL {z : D} (e : atI ds i = some z) (h : P z) : Sm (gIx (.lst ds) (.int i)) P := by with_unfolding_all exact (
    ⟨_, e, h⟩)
theorem sm_intI (h : P (.int i)) : Sm (gInt [.int i]) P := by with_unfolding_all exact (
    ⟨_, rfl, h⟩)
theorem sm_absI (h : P (.int (if i < 0 then -i else i))) : Sm (gAbs [.int i]) P := by with_unfolding_all exact (
    ⟨_, rfl, h⟩)
theorem sm_lenT (h : P (.int (ds.length : Nat))) : Sm (gLen [.tup ds]) P := by with_unfolding_all exact (
    ⟨_, rfl, h⟩)
theorem sm_lenL (h : P (.int (ds.length : Nat))) : Sm (gLen [.lst ds]) P := by with_unfolding_all exact (
    ⟨_, rfl, h⟩)
theorem sm_tupL (h : P (.tup ds)) : Sm (gTuple [.lst ds]) P := by with_unfolding_all exact (
    ⟨_, rfl, h⟩)
theorem sm_frzV {d : D} (h : P d) : Sm (Sl.val d).frz P := by with_unfolding_all exact (
    ⟨_, rfl, h⟩)
theorem sm_frzL (h : P (.lst ds)) : Sm (Sl.own (.lst ds)).frz P := by with_unfolding_all exact (
    ⟨_, rfl, h⟩)
theorem sm_itT {P : List D → Prop} (h : P ds) : Sm (D.tup ds).items P := by with_unfolding_all exact (
    ⟨_, rfl, h⟩)
theorem sm_itL {P : List D → Prop} (h : P ds) : Sm (D.lst ds).items P := by with_unfolding_all exact (
    ⟨_, rfl, h⟩)
theorem sm_itS {P : List D → Prop} {ns : List Int} (h : P (ns.map .int)) : Sm (D.scr ns).items P := by with_unfolding_all exact (
    ⟨_, rfl, h⟩)
theorem sm_gN {d : D} {s : S} {k : Nat} {P : S → Prop} (f : free s k = true) (h : P (s.set k (some (.val d)))) : Sm (gN k d s) P := by with_unfolding_all exact (
    ⟨_, by unfold gN; rw [if_pos f], h⟩)
theorem sm_gT {d : D} {s s' : S} {n : Nat} {tgs : MGs} {P : S → Prop} (e : gT n tgs d s = some s') (h : P s') : Sm (gT n tgs d s) P := by with_unfolding_all exact (
    ⟨_, e, h⟩)
theorem sm_cat {P : List D → Prop} (f : ds.length + es.length ≤ 1000000) (h : P (ds ++ es)) : Sm (gCatL (.lst ds) (.lst es)) P := by with_unfolding_all exact (
    ⟨_, by rw [gCatL_ap, if_pos (fits_of f)], h⟩)
theorem sm_pow (c : 0 ≤ j) (c2 : j ≤ 1000000) (c3 : i.natAbs < 2 ^ 64) (h : P (.int (i ^ j.toNat))) : Sm (gPow (.int i) (.int j)) P := by with_unfolding_all exact (
    ⟨_, by rw [gPow_int, if_pos (by simp [c, c2]; exact c3)], h⟩)
end
end Den

set_option Elab.async false
set_option linter.all false
set_option maxRecDepth 100000
set_option maxHeartbeats 4000000
namespace Den
variable {hox : Option Addr}
open PySem PySem.Spec PyProof.Rows L2
/-! ### dicts of the def's own -/
def putD {κ : Type} [DecidableEq κ] (kvs : List (κ × D)) (k : κ) (v : D) : List (κ × D) :=
  if (kvs.any fun kv => decide (kv.1 = k)) = true then kvs.map (fun kv => if kv.1 = k then (kv.1, v) else kv) else kvs ++ [(k, v)]
def valD {κ : Type} [DecidableEq κ] (kvs : List (κ × D)) (k : κ) : Option D := (kvs.find? fun kv => decide (kv.1 = k)).map (·.2)
def D.key : D → Option Key
  | .int i => some (.inl i)
  | .str x => some (.inr x)
  | _ => none
def D.keys : List D → Option (List Key)
  | [] => some []
  | d :: ds => match d.key, D.keys ds with
    | some k, some ks => some (k :: ks)
    | _, _ => none
section
variable {K : PySem.W.Frag} {mg : Str → Option Value} {G : Hp}
end
def mutT (s : S) (i : Nat) : Option (Sl × List (List Key × D)) := match mutAt s i with
  | some (w, .dT xs) => some (w, xs)
  | _ => none
def mDictT : MO := fun s => .ok (.own (.dT [])) s
/-- x[k] = v, k a tuple -/
def mSetT (i : Nat) (mi m : MD) : MS := fun s => (m s).bind fun d s1 => match mutT s1 i with
  | none => .bad
  | some _ => (mi s1).bind fun k s2 => match mutT s2 i, k with
    | some (w, xs), .tup ks => match D.keys ks with
      | some kk => if fits (xs.length + 1) = true then .ok .nx (s2.set i (some (w.re (.dT (putD xs kk d))))) else .bad
      | none => .bad
    | _, _ => .bad
def mLenT (i : Nat) : MD := fun s => match mutT s i with
  | none => .bad
  | some (_, xs) => .ok (.int (xs.length : Nat)) s
section
variable {X : Cx} {W : WX} {b e : Expr} {m mi : MD} {pos p p2 py : Pos} {y : Str}
end
end Den

set_option Elab.async false
set_option linter.all false
set_option maxRecDepth 100000
set_option maxHeartbeats 4000000
namespace Den
variable {hox : Option Addr}
open PySem PySem.Spec PyProof.Rows L2
/-! ### slots that are dead are forgotten -/
def kill1 (s : S) (i : Nat) : S := if free s i = true then s.set i none else s
def dead : Option Sl → Option Sl
  | some (.bor o) => some (.bor o)
  | _ => none
/-- the slots of a mask -/
def kill : List Bool → S → S
  | true :: ms, x :: s => dead x :: kill ms s
  | false :: ms, x :: s => x :: kill ms s
  | _, s => s
def killFrom : Nat → List Bool → S → S
  | _, [], s => s
  | i, b :: ms, s => killFrom (i + 1) ms (if b = true then kill1 s i else s)
theorem kill1_at {pre s : S} {x : Option Sl} : kill1 (pre ++ x :: s) pre.length = pre ++ dead x :: s := by
  have e : (pre ++ x :: s)[pre.length]? = some x := by simp
  have e2 : (pre ++ x :: s).set pre.length none = pre ++ none :: s := by simp
  unfold kill1 free
  rw [e]
  cases x with
  | none => simp [e2, dead]
  | some w => cases w <;> simp [e2, dead]
theorem kill1_out {s : S} {i : Nat} (h : s.length ≤ i) : kill1 s i = s := by
  unfold kill1 free
  rw [List.getElem?_eq_none h]
  rfl
theorem killFrom_out : ∀ {ms : List Bool} {s : S} {i : Nat}, s.length ≤ i → killFrom i ms s = s
  | [], _, _, _ => rfl
  | b :: ms, s, i, h => by
    show killFrom (i + 1) ms (if b = true then kill1 s i else s) = s
    have : (if b = true then kill1 s i else s) = s := by split; exact kill1_out h; rfl
    rw [this]
    exact killFrom_out (by omega)
theorem killFrom_eq : ∀ {ms : List Bool} {pre s : S}, killFrom pre.length ms (pre ++ s) = pre ++ kill ms s
  | [], pre, s => by cases s <;> rfl
  | b :: ms, pre, [] => by
    rw [List.append_nil]
    rw [killFrom_out (Nat.le_refl _)]
    cases b <;> simp [kill]
  | b :: ms, pre, x :: s => by
    show killFrom (pre.length + 1) ms (if b = true then kill1 (pre ++ x :: s) pre.length else pre ++ x :: s) = _
    cases b with
    | true =>
      rw [if_pos rfl, kill1_at]
      have := killFrom_eq (ms := ms) (pre := pre ++ [dead x]) (s := s)
      rw [List.length_append, List.append_assoc, List.append_assoc] at this
      exact this
    | false =>
      rw [if_neg Bool.false_ne_true]
      have := killFrom_eq (ms := ms) (pre := pre ++ [x]) (s := s)
      rw [List.length_append, List.append_assoc, List.append_assoc] at this
      exact this
section
variable {K : PySem.W.Frag} {mg : Str → Option Value} {c : Ct} {s : S} {σ : St} {H : Hp}
theorem StR.kill1 (x : StR hox K mg c s σ H) (i : Nat) : Go hox K mg c s σ H (Den.kill1 s i) σ H := by
  unfold Den.kill1
  by_cases f : free s i = true
  · rw [if_pos f]
    have lt : i < s.length := free_lt f
    have lt2 : i < σ.length := by have := x.len; omega
    have g := x.put f none σ[i] (fun d e => by cases e) (.inr rfl)
    rw [set_same (List.getElem?_eq_getElem lt2)] at g
    exact g
  · rw [if_neg f]; exact .refl x
theorem StR.killFrom : ∀ (js : List Bool) {s : S} {i : Nat}, StR hox K mg c s σ H → Go hox K mg c s σ H (Den.killFrom i js s) σ H
  | [], _, _, x => .refl x
  | true :: js, _, i, x => (x.kill1 i).trans (StR.killFrom js (x.kill1 i).1)
  | false :: js, _, _, x => StR.killFrom js x
theorem StR.kill (js : List Bool) {s : S} (x : StR hox K mg c s σ H) : Go hox K mg c s σ H (Den.kill js s) σ H := by
  have g := x.killFrom js (i := 0)
  rw [show Den.killFrom 0 js s = Den.kill js s from killFrom_eq (pre := [])] at g
  exact g
end
/-- forgotten ahead of a statement -/
def mPre (js : List Bool) (b : MS) : MS := fun s => b (kill js s)
/-- .. behind it -/
def mKill (js : List Bool) (b : MS) : MS := fun s => match b s with
  | .ok .nx s1 => .ok .nx (kill js s1)
  | .ok .ct s1 => .ok .ct (kill js s1)
  | o => o
section
variable {X : Cx} {W : WX} {st : Stmt} {sts : List Stmt} {b : MS} {js : List Bool}
theorem kill_imp {K : PySem.W.Frag} {mg : Str → Option Value} {E : Ends} {σ : St} {H : Hp} (h : tS hox K mg W (mKill js b) E σ H) : tS hox K mg W b E σ H := by
  obtain ⟨c, s, st, q⟩ := h
  refine ⟨c, s, st, ?_⟩
  unfold mKill at q
  cases e : b s with
  | ok f s1 =>
    rw [e] at q
    cases f with
    | nx => exact fun σ' H' g => q σ' H' (g.trans (g.1.kill js))
    | ct => exact fun σ' H' g => q σ' H' (g.trans (g.1.kill js))
    | bk => exact q
    | rt r => exact q
  | exc y s1 => rw [e] at q; exact q
  | bad => rw [e] at q; exact q
theorem sss_kill (h : SSs hox X W sts b) : SSs hox X W sts (mKill js b) := PSs.imp h fun E σ H => kill_imp
end
/-- .. behind the iterable -/
def iKill (js : List Bool) (m : MI) : MI := fun s => (m s).bind fun ds s1 => .ok ds (kill js s1)
theorem ItOk.mono {K : PySem.W.Frag} {mg : Str → Option Value} {J : It} {G G' : Hp} {ds : List D} (h : ItOk K mg J G ds) (l : Le G G') : ItOk K mg J G' ds :=
  ⟨fun i d hh H1 e nh l2 => h.1 i d hh H1 e nh (l.trans l2), fun hh H1 l2 => h.2 hh H1 (l.trans l2)⟩
theorem si_kill {X : Cx} {W : WX} {tg e : Expr} {m : MI} {js : List Bool} (h : SI hox X W tg e m) : SI hox X W tg e (iKill js m) := PI.imp h fun σ H R ⟨c, s, st, q⟩ => ⟨c, s, st, by
  unfold iKill at q
  cases e1 : m s with
  | ok ds s1 =>
    rw [e1] at q
    exact fun H' g J hJ => by
      have g2 := g.1.kill js
      exact q H' (g.trans g2) J (hJ.mono g2.2)
  | exc y s1 => rw [e1] at q; exact q
  | bad => rw [e1] at q; exact q⟩
/-! ### x += e, ints -/
def mAug (i : Nat) (f : Int → Int → Int) (m : MD) : MS := fun s => match s[i]? with
  | some (some (.val (.int a))) => (m s).bind fun d s1 => match d with
    | .int b => if free s1 i = true then .ok .nx (s1.set i (some (.val (.int (f a b))))) else .bad
    | _ => .bad
  | _ => .bad
section
variable {X : Cx} {W : WX} {e : Expr} {m : MD} {pos pos' : Pos} {x : Str}
end
/-! ### dicts by ints and texts -/
section
variable {K : PySem.W.Frag} {mg : Str → Option Value} {G : Hp}
end
end Den

set_option Elab.async false
set_option linter.all false
set_option maxRecDepth 100000
set_option maxHeartbeats 4000000
namespace Den
variable {hox : Option Addr}
open PySem PySem.Spec PyProof.Rows L2
/-! ### dicts: read, written, copied, walked -/
def mutK (s : S) (i : Nat) : Option (Sl × List (Key × D)) := match mutAt s i with
  | some (w, .dK xs) => some (w, xs)
  | _ => none
/-- x[k] = v, k an int or a text, x the def's own -/
def mSetK (i : Nat) (mi m : MD) : MS := fun s => (m s).bind fun d s1 => match mutK s1 i with
  | none => .bad
  | some _ => (mi s1).bind fun k s2 => match mutK s2 i, k.key with
    | some (w, xs), some kk => if fits (xs.length + 1) = true then .ok .nx (s2.set i (some (w.re (.dK (putD xs kk d))))) else .bad
    | _, _ => .bad
/-- x.get(k, v), x the def's own -/
def mGetK (i : Nat) (mk mv : MD) : MD := fun s => match mutK s i with
  | none => .bad
  | some _ => (mk s).bind fun k s1 => (mv s1).bind fun v s2 => match mutK s2 i, k.key with
    | some (_, xs), some kk => .ok ((valD xs kk).getD v) s2
    | _, _ => .bad
/-- x[k], x a datum -/
def gDix : D → D → Option D
  | .dic kvs, k => match k.key with
    | some kk => valD kvs kk
    | none => none
  | _, _ => none
def mCopyK (m : MD) : MO := fun s => (m s).bind fun d s1 => match d with
  | .dic kvs => .ok (.own (.dK kvs)) s1
  | _ => .bad
def keyD : Key → D
  | .inl i => .int i
  | .inr x => .str x
section
variable {K : PySem.W.Frag} {mg : Str → Option Value} {G : Hp}
end
section
variable {X : Cx} {W : WX} {a b e f : Expr} {m mi mk mv : MD} {pos p p2 py apos cpos : Pos} {y : Str} {ml : ML}
end
/-! {k: v, ..} -/
def mPairs : List (MD × MD) → S → Out (List (D × D))
  | [], s => .ok [] s
  | (k, v) :: r, s => (k s).bind fun a s1 => (v s1).bind fun b s2 => (mPairs r s2).bind fun ps s3 => .ok ((a, b) :: ps) s3
def keyed : List (D × D) → Option (List (Key × D))
  | [] => some []
  | (k, v) :: r => match k.key, keyed r with
    | some kk, some ps => some ((kk, v) :: ps)
    | _, _ => none
def mergeD (kvs more : List (Key × D)) : List (Key × D) := more.foldl (fun acc kv => putD acc kv.1 kv.2) kvs
def mDisp (ms : List (MD × MD)) : MO := fun s => (mPairs ms s).bind fun ps s1 => match keyed ps with
  | some kvs => if kvs.length ≤ 15 then .ok (.own (.dK (mergeD [] kvs))) s1 else .bad
  | none => .bad
inductive RepP (K : PySem.W.Frag) (mg : Str → Option Value) (G : Hp) : List (V × V) → List (D × D) → Prop
  | nil : RepP K mg G [] []
  | cons {x y : V} {d e : D} {vs : List (V × V)} {ds : List (D × D)} : Rep K mg G x d → Rep K mg G y e → RepP K mg G vs ds → RepP K mg G ((x, y) :: vs) ((d, e) :: ds)
section
variable {X : Cx} {W : WX} {pos : Pos}
inductive SPs (hox : Option Addr) (X : Cx) (W : WX) : List (Option Expr) → List Expr → List (MD × MD) → Prop
  | nil : SPs hox X W [] [] []
  | cons {k v : Expr} {ks : List (Option Expr)} {vs : List Expr} {mk mv : MD} {r : List (MD × MD)} : SD hox X W k mk → SD hox X W v mv → SPs hox X W ks vs r → SPs hox X W (some k :: ks) (v :: vs) ((mk, mv) :: r)
def trees (hox : Option Addr) (X : Cx) (W : WX) (ms : List (MD × MD)) : List (TE × TE) := ms.map fun p => (tD hox X.K X.mg W p.1, tD hox X.K X.mg W p.2)
end
/-! walks -/
def iItems (m : MD) : MI := fun s => (m s).bind fun d s1 => match d with
  | .dic kvs => .ok (kvs.map fun kv => .tup [keyD kv.1, kv.2]) s1
  | _ => .bad
def iValues (m : MD) : MI := fun s => (m s).bind fun d s1 => match d with
  | .dic kvs => .ok (kvs.map fun kv => kv.2) s1
  | _ => .bad
def iKeys (m : MD) : MI := fun s => (m s).bind fun d s1 => match d with
  | .dic kvs => .ok (kvs.map fun kv => keyD kv.1) s1
  | _ => .bad
section
variable {K : PySem.W.Frag} {mg : Str → Option Value} {G : Hp}
end
section
variable {X : Cx} {W : WX} {tg e : Expr} {m : MD} {pos tpos apos cpos : Pos} {elts : List Expr} {kk : Nat}
end
end Den

set_option Elab.async false
set_option linter.all false
set_option maxRecDepth 100000
set_option maxHeartbeats 4000000
namespace Den
variable {hox : Option Addr}
open PySem PySem.Spec PyProof.Rows L2
/-! ### list(..), sorted(..), in of dicts -/
def gListU : List D → Option (List D)
  | [.dic kvs] => some (kvs.map fun kv => keyD kv.1)
  | ds => gList ds
def rListU (K : PySem.W.Frag) : List V → Hp → VK → Prop := fun xs H Q => (∃ p ys, xs = [.ref p] ∧ (SqL K H p ys ∨ SqT K H p ys) ∧ ∀ l, H l = none → Q (.ref l) (upd H l (.lst ys))) ∨
  ∃ (a : Addr) (kvs : List (Key × V)), xs = [.ref a] ∧ Rd H a (.dK kvs) ∧ ∀ p, H p = none → Q (.ref p) (upd H p (.lst (kvs.map fun kv => kV kv.1)))
section
variable {K : PySem.W.Frag} {mg : Str → Option Value} {G : Hp}
/-! sorted -/
def keyI : List Key → Option (List Int)
  | [] => some []
  | .inl i :: ks => (keyI ks).map (i :: ·)
  | _ => none
def srtI (ns : List Int) : List Int := ns.mergeSort (fun a b => decide (a ≤ b))
def gSorted : List D → Option (List D)
  | [.dic kvs] => match keyI (kvs.map (·.1)) with
    | some ns => if ns.length < 64 then some ((srtI ns).map .int) else none
    | none => none
  | ds => (iArg ds).map fun ns => (srtI ns).map .int
def rSortU (K : PySem.W.Frag) : List V → Hp → VK → Prop := fun xs H Q => rSortedI K xs H Q ∨
  ∃ (a : Addr) (kvs : List (Key × V)) (ks : List Int), xs = [.ref a] ∧ Rd H a (.dK kvs) ∧ kvs.map (·.1) = ks.map Sum.inl ∧ ks.length < 64 ∧ ∀ (ys : List Int) (p : Addr), ys.Perm ks → ys.Pairwise (· ≤ ·) → H p = none → Q (.ref p) (upd H p (.lst (ys.map V.int)))
end
/-! k in d -/
def mDin (neg : Bool) (mk md : MD) : MD := fun s => (mk s).bind fun k s1 => (md s1).bind fun d s2 => match d, k.key with
  | .dic kvs, some kk => .ok (.bl (xor neg (valD kvs kk).isSome)) s2
  | _, _ => .bad
/-- k in x, x the def's own dict with tuples for keys -/
def hasT (xs : List (List Key × D)) (k : List Key) : Bool := xs.any fun kv => decide (kv.1 = k)
def mInT (neg : Bool) (i : Nat) (mk : MD) : MD := fun s => (mk s).bind fun k s1 => match mutT s1 i, k with
  | some (_, xs), .tup ks => match D.keys ks with
    | some kk => .ok (.bl (xor neg (hasT xs kk))) s1
    | none => .bad
  | _, _ => .bad
section
variable {X : Cx} {W : WX} {a b e f : Expr} {m mi mk mv md : MD} {pos p p2 py apos cpos : Pos} {y : Str} {ml : ML}
end
/-! list(range(..)) -/
def mListR (m : S → Out (Int × Int)) : MO := fun s => (m s).bind fun r s1 => if (i62 r.1 && i62 r.2 && decide ((r.2 - r.1).toNat ≤ 1000000)) = true then .ok (.own (.lst (rngD r.1 (r.2 - r.1).toNat))) s1 else .bad
def rg1 (m : MD) : S → Out (Int × Int) := fun s => (m s).bind fun d s1 => match d with
  | .int n => .ok (0, n) s1
  | _ => .bad
def rg2 (m n : MD) : S → Out (Int × Int) := fun s => (m s).bind fun d s1 => (n s1).bind fun e s2 => match d, e with
  | .int i, .int j => .ok (i, j) s2
  | _, _ => .bad
section
variable {X : Cx} {W : WX} {a b e f : Expr} {m n mk mv md : MD} {pos p p2 py apos cpos : Pos} {y : Str} {ml : ML} {r : S → Out (Int × Int)}
def tR (hox : Option Addr) (K : PySem.W.Frag) (mg : Str → Option Value) (W : WX) (r : S → Out (Int × Int)) : St → Hp → (Int → Int → Hp → Prop) → Prop := fun σ H Q => ∃ c s, StR hox K mg c s σ H ∧ Res hox K mg c s σ H W (fun ab s' H' => Q ab.1 ab.2 H') (r s)
end
/-! ### texts -/
def gStr : List D → Option D
  | [.int i] => if i.natAbs.log2 < 1920 then some (.str (toString i)) else none
  | [.str x] => some (.str x)
  | _ => none
def rStrU : List V → Hp → VK → Prop := fun xs H Q => (∃ i, xs = [.int i] ∧ i.natAbs.log2 < 1920 ∧ Q (.str (toString i)) H) ∨ ∃ a, xs = [.str a] ∧ Q (.str a) H
def D.strs : List D → Option (List Str)
  | [] => some []
  | .str x :: ds => (D.strs ds).map (x :: ·)
  | _ => none
def mSplit (m n : MD) : MO := fun s => (m s).bind fun d s1 => match d with
  | .str a => (n s1).bind fun e s2 => match e with
    | .str b => if (!(b.length == 0) && decide (a.length ≤ 1000000)) = true then .ok (.own (.lst ((Txt.split a b).map .str))) s2 else .bad
    | _ => .bad
  | _ => .bad
def mJoin (m n : MD) : MD := fun s => (m s).bind fun d s1 => match d with
  | .str a => (n s1).bind fun e s2 => match e.items with
    | some ds => match D.strs ds with
      | some ys => if (ys.map (·.length)).sum + ys.length * a.length ≤ 1000000 then .ok (.str (Txt.join a ys)) s2 else .bad
      | none => .bad
    | none => .bad
  | _ => .bad
section
variable {X : Cx} {W : WX} {a b e f : Expr} {m n mk mv md : MD} {pos p p2 py apos cpos : Pos} {y : Str} {ml : ML}
end
end Den

set_option Elab.async false
set_option linter.all false
set_option maxRecDepth 100000
set_option maxHeartbeats 4000000
/-! properties -/
namespace Den
variable {hox : Option Addr}
open PySem PySem.Spec PyProof.Rows L2
theorem cx_never {P : Program} {w : World} {o : List Env} {H : Hp} {s : Shared} {e : Value} {s' : Shared} (h : L2N.CX P w o H s (fun _ _ _ => False) e s') : False := by
  obtain ⟨a, B, H', cls, d, _, _, _, _, _, _, _, q⟩ := h
  exact q
def mProp (cn : Str) (F : FP) (m : MD) : MD := fun s => (m s).bind fun d s1 => match d with
  | .obj c fs => if c = cn then match F [.obj c fs] with
    | .ok (.val r) _ => .ok r s1
    | _ => .bad
    else .bad
  | _ => .bad
section
variable {X : Cx} {W : WX} {k : Nat} {C p g : Addr} {fd : FuncData} {ps : List Str} {e : Expr} {pos : Pos} {m : MD}
end
end Den

set_option Elab.async false
set_option linter.all false
set_option maxRecDepth 100000
set_option maxHeartbeats 4000000
/-! own classes: isinstance, == -/
namespace Den
variable {hox : Option Addr}
open PySem PySem.Spec PyProof.Rows L2
def gIsiC (cn : Str) (d : D) : Option D := match d with
  | .obj c _ => if c = cn then some (.bl true) else none
  | _ => none
def mIsiC (cn : Str) (m : MD) : MD := mUn (gIsiC cn) m
section
variable {X : Cx} {W : WX} {C f : Addr} {e : Expr} {p py pos : Pos} {m : MD} {y : Str}
end
/-- int(..) of a text too -/
def gIntU : List D → Option D
  | [.str x] => match PySem.intText? x with
    | some n => if x.length ≤ 640 then some (.int n) else none
    | none => none
  | ds => gInt ds
def rIntU : List V → Hp → VK → Prop := fun xs H Q => (∃ a n, xs = [.str a] ∧ PySem.intText? a = some n ∧ a.length ≤ 640 ∧ Q (.int n) H) ∨ ((∃ i, xs = [.int i] ∧ Q (.int i) H) ∨ ∃ k, xs = [.bl k] ∧ Q (.int (if k then 1 else 0)) H)
/-- x == y, both of an own class with a def for it -/
def rEqO (K : PySem.W.Frag) (mg : Str → Option Value) (C : Addr) (F : FP) : R2 := fun x y H Q => ∃ a b dx dy fs gs, x = .ref a ∧ y = .ref b ∧ H a = some (.ins C dx fs) ∧ H b = some (.ins C dy gs) ∧
  spP K mg 2 F [x, y] H (fun v H' => (∃ k, v = .bl k) ∧ Q v H') (fun _ _ _ => False)
def gEqO (cn : Str) (F : FP) (x y : D) : Option D := match x, y with
  | .obj c fs, .obj c' gs => if c = cn ∧ c' = cn then match F [.obj c fs, .obj c' gs] with
    | .ok (.val (.bl b)) _ => some (.bl b)
    | _ => none
    else none
  | _, _ => none
section
variable {X : Cx} {k : Nat} {C f : Addr} {fd : FuncData} {ps : List Str} {F : FP}
end
end Den

set_option Elab.async false
set_option linter.all false
set_option maxRecDepth 100000
set_option maxHeartbeats 4000000
/-! comprehensions with two for -/
namespace Den
variable {hox : Option Addr}
open PySem PySem.Spec PyProof.Rows L2
def tLcIn (J : It) (g : TG) (tt : TT) (te : TE) (σw : St) (vs : List Nat) (D : Addr) (Nx : Hp → Prop) (H0 : Hp) : Prop := ∃ W1 : Nat → Nat → Hp → Prop, (∃ m, W1 0 m H0) ∧ ∀ j k H, W1 j k H →
  (J.stop j H ∧ Nx H) ∨ (J.go j H ∧ ∃ Nx1 : Hp → Prop, (∀ H', Nx1 H' → ∃ k', k' < k ∧ W1 (j + 1) k' H') ∧ ∀ x H', J.yld j H x H' → g x σw H' fun σ3 H5 => wipe σ3 vs = σw ∧ tt σ3 H5 fun b H6 =>
    if b = true then te σ3 H6 fun y H7 => ∃ acc, H7 D = some (.lst acc) ∧ acc.length < sizeLine ∧ Nx1 (upd H7 D (.lst (acc ++ [y]))) else Nx1 H6)
section
variable {K : PySem.W.Frag} {mg : Str → Option Value} {c : Ct}
end
/-- behind the first target and its test the second loop -/
def cloop2 (vs vs1 : List Nat) (g : MG) (tt : MB) (mi1 : MI) (g1 : MG) (tt1 : MB) (te : MD) : List D → S → Out (List D)
  | [], s => .ok [] s
  | d :: ds, s => match g d s with
    | none => .bad
    | some s1 => match tt s1 with
      | .ok true s2 => match mi1 s2 with
        | .ok es s3 => if vs1.all (plainAt s3) = true then match cloop vs1 g1 tt1 te es (wipeS s3 vs1) with
          | .ok ys s4 => if vs.all (plainAt s4) = true then match cloop2 vs vs1 g tt mi1 g1 tt1 te ds (wipeS s4 vs) with
            | .ok zs s5 => .ok (ys ++ zs) s5
            | _ => .bad
            else .bad
          | _ => .bad
          else .bad
        | _ => .bad
      | .ok false s2 => if vs.all (plainAt s2) = true then cloop2 vs vs1 g tt mi1 g1 tt1 te ds (wipeS s2 vs) else .bad
      | _ => .bad
def compOut2 (vs vs1 : List Nat) (g : MG) (tt : MB) (mi1 : MI) (g1 : MG) (tt1 : MB) (te : MD) (ds : List D) (s1 : S) : Out Sl :=
  if vs.all (plainAt s1) = true then match cloop2 vs vs1 g tt mi1 g1 tt1 te ds (wipeS s1 vs) with
    | .ok zs t => if fits zs.length = true then .ok (.own (.lst zs)) (restore t s1 vs) else .bad
    | _ => .bad
  else .bad
def mComp2 (vs vs1 : List Nat) (mi : MI) (g : MG) (tt : MB) (mi1 : MI) (g1 : MG) (tt1 : MB) (te : MD) : MO := fun s => (mi s).bind fun ds s1 => compOut2 vs vs1 g tt mi1 g1 tt1 te ds s1
section
variable {X : Cx} {W : WX}
end
end Den

set_option Elab.async false
set_option linter.all false
set_option maxRecDepth 100000
set_option maxHeartbeats 4000000
/-! < of data -/
namespace Den
variable {hox : Option Addr}
open PySem PySem.Spec PyProof.Rows L2
def rLtD (K : PySem.W.Frag) : R2 := fun x y H Q => ∃ d e, Dp K H x d ∧ Dp K H y e ∧ PySem.W.alike d e = true ∧ d ≠ .none ∧ d.depth ≤ 60 ∧ Q (.bl (PySem.W.dataLt d e)) H
def pyNN : PyData → Bool
  | .none => false
  | _ => true
def gLtD (x y : D) : Option D := match x.py, y.py with
  | some a, some b => if (PySem.W.alike a b && pyNN a && decide (a.depth ≤ 60)) = true then some (.bl (PySem.W.dataLt a b)) else none
  | _, _ => none
end Den

set_option Elab.async false
set_option linter.all false
set_option maxRecDepth 100000
set_option maxHeartbeats 4000000
namespace Den
variable {hox : Option Addr}
open PySem PySem.Spec PyProof.Rows L2
/-! ### wishes for the newer mirrors; loops as folds -/
def kk (js : List Bool) (P : Fl → S → Prop) : Fl → S → Prop
  | .nx, s => P .nx (kill js s)
  | .ct, s => P .ct (kill js s)
  | f, s => P f s
section
variable {d : D} {m ma mb mk mv : MD} {mo : MO} {b : MS} {t : MB} {s : S} {i j n : Nat} {js : List Bool} {tg : MG} {mi : MI} {ml : ML} {E : Exc → S → Prop} {P : D → S → Prop} {PO : Sl → S → Prop} {PB : Bool → S → Prop} {PS : Fl → S → Prop} {PL : List D → S → Prop} {o : O}
theorem kk_nx (h : PS .nx (kill js s)) : kk js PS .nx s := h
theorem kk_rt {r : Sl} (h : PS (.rt r) s) : kk js PS (.rt r) s := h
theorem w_pre (h : W (b (kill js s)) PS E) : W (mPre js b s) PS E := by with_unfolding_all exact (
    h)
theorem w_iKill (h : W (mi s) (fun ds s1 => PL ds (kill js s1)) E) : W (iKill js mi s) PL E := by with_unfolding_all exact (
    w_bind h)
theorem w_kill (h : W (b s) (kk js PS) E) : W (mKill js b s) PS E := by
  with_unfolding_all
    unfold mKill
    cases e : b s with
    | ok f s1 =>
      rw [e] at h
      cases f with
      | nx => exact h
      | ct => exact h
      | bk => exact h
      | rt r => exact h
    | exc x s1 => rw [e] at h; exact h
    | bad => rw [e] at h; exact h
theorem w_aug {f : Int → Int → Int} {a : Int} (e : s[i]? = some (some (.val (.int a)))) (h : W (m s) (fun d s1 => ∃ c, d = .int c ∧ free s1 i = true ∧ PS .nx (s1.set i (some (.val (.int (f a c)))))) E) : W (mAug i f m s) PS E := by
  with_unfolding_all
    unfold mAug
    rw [e]
    exact w_bind (h.imp fun d s1 ⟨c, ed, hf, q⟩ => by subst ed; simp only [if_pos hf]; exact q)
theorem w_setK (h : W (m s) (fun d s1 => ∃ w0 xs0, mutK s1 i = some (w0, xs0) ∧ W (mk s1) (fun k s2 => ∃ w xs kk, mutK s2 i = some (w, xs) ∧ k.key = some kk ∧ fits (xs.length + 1) = true ∧ PS .nx (s2.set i (some (w.re (.dK (putD xs kk d)))))) E) E) : W (mSetK i mk m s) PS E := by
  with_unfolding_all
    refine w_bind (h.imp fun d s1 ⟨w0, xs0, e0, q⟩ => ?_)
    simp only [e0]
    refine w_bind (q.imp fun k s2 ⟨w, xs, kk, e1, e2, e3, q⟩ => ?_)
    simp only [e1, e2, if_pos e3]
    exact q
theorem w_getK {w0 : Sl} {xs0 : List (Key × D)} (e : mutK s i = some (w0, xs0)) (h : W (mk s) (fun k s1 => W (mv s1) (fun v s2 => ∃ w xs kk, mutK s2 i = some (w, xs) ∧ k.key = some kk ∧ P ((valD xs kk).getD v) s2) E) E) : W (mGetK i mk mv s) P E := by
  with_unfolding_all
    unfold mGetK
    simp only [e]
    refine w_bind (h.imp fun k s1 q => w_bind (q.imp fun v s2 ⟨w, xs, kk, e1, e2, q⟩ => ?_))
    simp only [e1, e2]
    exact q
theorem w_copyK (h : W (m s) (fun d s1 => ∃ kvs, d = .dic kvs ∧ PO (.own (.dK kvs)) s1) E) : W (mCopyK m s) PO E := by with_unfolding_all exact (
    w_bind (h.imp fun d s1 ⟨kvs, e, q⟩ => by subst e; exact q))
theorem w_pairs0 {P : List (D × D) → S → Prop} (h : P [] s) : W (mPairs [] s) P E := by with_unfolding_all exact (
    h)
theorem w_pairs {P : List (D × D) → S → Prop} {r : List (MD × MD)} (h : W (mk s) (fun a s1 => W (mv s1) (fun b s2 => W (mPairs r s2) (fun ps s3 => P ((a, b) :: ps) s3) E) E) E) : W (mPairs ((mk, mv) :: r) s) P E := by with_unfolding_all exact (
    w_bind (h.imp fun a s1 q => w_bind (q.imp fun b s2 q => w_bind q)))
theorem w_disp {ms : List (MD × MD)} (h : W (mPairs ms s) (fun ps s1 => ∃ kvs, keyed ps = some kvs ∧ kvs.length ≤ 15 ∧ PO (.own (.dK (mergeD [] kvs))) s1) E) : W (mDisp ms s) PO E := by with_unfolding_all exact (
    w_bind (h.imp fun ps s1 ⟨kvs, e, hl, q⟩ => by simp only [e, if_pos hl]; exact q))
theorem w_din {neg : Bool} (h : W (ma s) (fun k s1 => W (mb s1) (fun d s2 => ∃ kvs kk, d = .dic kvs ∧ k.key = some kk ∧ P (.bl (xor neg (valD kvs kk).isSome)) s2) E) E) : W (mDin neg ma mb s) P E := by with_unfolding_all exact (
    w_bind (h.imp fun k s1 q => w_bind (q.imp fun d s2 ⟨kvs, kk, e1, e2, q⟩ => by subst e1; simp only [e2]; exact q)))
theorem w_inT {neg : Bool} (h : W (ma s) (fun k s1 => ∃ w xs ks kk, mutT s1 i = some (w, xs) ∧ k = .tup ks ∧ D.keys ks = some kk ∧ P (.bl (xor neg (hasT xs kk))) s1) E) : W (mInT neg i ma s) P E := by with_unfolding_all exact (
    w_bind (h.imp fun k s1 ⟨w, xs, ks, kk, e1, e2, e3, q⟩ => by subst e2; simp only [e1, e3]; exact q))
theorem w_items (h : W (m s) (fun d s1 => ∃ kvs, d = .dic kvs ∧ PL (kvs.map fun kv => .tup [keyD kv.1, kv.2]) s1) E) : W (iItems m s) PL E := by with_unfolding_all exact (
    w_bind (h.imp fun d s1 ⟨kvs, e, q⟩ => by subst e; exact q))
theorem w_values (h : W (m s) (fun d s1 => ∃ kvs, d = .dic kvs ∧ PL (kvs.map fun kv => kv.2) s1) E) : W (iValues m s) PL E := by with_unfolding_all exact (
    w_bind (h.imp fun d s1 ⟨kvs, e, q⟩ => by subst e; exact q))
theorem w_keys (h : W (m s) (fun d s1 => ∃ kvs, d = .dic kvs ∧ PL (kvs.map fun kv => keyD kv.1) s1) E) : W (iKeys m s) PL E := by with_unfolding_all exact (
    w_bind (h.imp fun d s1 ⟨kvs, e, q⟩ => by subst e; exact q))
theorem w_rg1 {P : Int × Int → S → Prop} (h : W (m s) (fun d s1 => ∃ i, d = .int i ∧ P (0, i) s1) E) : W (rg1 m s) P E := by with_unfolding_all exact (
    w_bind (h.imp fun d s1 ⟨i, e, q⟩ => by subst e; exact q))
theorem w_rg2 {P : Int × Int → S → Prop} (h : W (ma s) (fun d s1 => W (mb s1) (fun e s2 => ∃ i j, d = .int i ∧ e = .int j ∧ P (i, j) s2) E) E) : W (rg2 ma mb s) P E := by with_unfolding_all exact (
    w_bind (h.imp fun d s1 q => w_bind (q.imp fun e s2 ⟨i, j, e1, e2, q2⟩ => by subst e1 e2; exact q2)))
theorem w_listR {r : S → Out (Int × Int)} (h : W (r s) (fun ab s1 => (i62 ab.1 && i62 ab.2 && decide ((ab.2 - ab.1).toNat ≤ 1000000)) = true ∧ PO (.own (.lst (rngD ab.1 (ab.2 - ab.1).toNat))) s1) E) : W (mListR r s) PO E := by with_unfolding_all exact (
    w_bind (h.imp fun ab s1 ⟨e, q⟩ => by simp only [if_pos e]; exact q))
theorem w_r2 (h : W (ml s) (fun ds s1 => ∃ i j, ds = [.int i, .int j] ∧ (i62 i && i62 j) = true ∧ PL (rngD i (j - i).toNat) s1) E) : W (iR2 ml s) PL E := by with_unfolding_all exact (
    w_bind (h.imp fun ds s1 ⟨i, j, e, f, q⟩ => by subst e; simp only [if_pos f]; exact q))
theorem w_split (h : W (ma s) (fun d s1 => ∃ a, d = .str a ∧ W (mb s1) (fun e s2 => ∃ b, e = .str b ∧ (!(b.length == 0) && decide (a.length ≤ 1000000)) = true ∧ PO (.own (.lst ((Txt.split a b).map .str))) s2) E) E) : W (mSplit ma mb s) PO E := by with_unfolding_all exact (
    w_bind (h.imp fun d s1 ⟨a, e, q⟩ => by subst e; exact w_bind (q.imp fun e s2 ⟨b, e1, e2, q⟩ => by subst e1; simp only [if_pos e2]; exact q)))
theorem w_join (h : W (ma s) (fun d s1 => ∃ a, d = .str a ∧ W (mb s1) (fun e s2 => ∃ ds ys, e.items = some ds ∧ D.strs ds = some ys ∧ (ys.map (·.length)).sum + ys.length * a.length ≤ 1000000 ∧ P (.str (Txt.join a ys)) s2) E) E) : W (mJoin ma mb s) P E := by with_unfolding_all exact (
    w_bind (h.imp fun d s1 ⟨a, e, q⟩ => by subst e; exact w_bind (q.imp fun e s2 ⟨ds, ys, e1, e2, e3, q⟩ => by simp only [e1, e2, if_pos e3]; exact q)))
theorem w_par (h : W (ml s) (fun ds s1 => ∃ d e, ds = [d, e] ∧ free s1 i = true ∧ free s1 j = true ∧ PS .nx ((s1.set i (some (.val d))).set j (some (.val e)))) E) : W (mPar i j ml s) PS E := by with_unfolding_all exact (
    w_bind (h.imp fun ds s1 ⟨d, e, e1, f1, f2, q⟩ => by subst e1; simp only [if_pos (And.intro f1 f2)]; exact q))
theorem w_kin {neg : Bool} {tb : Tb} (h : W (m s) (fun d s1 => ∃ z r, d = .str z ∧ mKIn neg tb (mK (.str z)) s1 = .ok r s1 ∧ P r s1) E) : W (mKIn neg tb m s) P E := by
  with_unfolding_all
    unfold mKIn
    refine w_bind (h.imp fun d s1 ⟨z, r, e, e2, q⟩ => ?_)
    subst e
    unfold mKIn mK at e2
    exact w_of e2 q
theorem w_kix {tb : Tb} (h : W (m s) (fun d s1 => ∃ z r, d = .str z ∧ mKIx tb (mK (.str z)) s1 = .ok r s1 ∧ P r s1) E) : W (mKIx tb m s) P E := by
  with_unfolding_all
    unfold mKIx
    refine w_bind (h.imp fun d s1 ⟨z, r, e, e2, q⟩ => ?_)
    subst e
    unfold mKIx mK at e2
    exact w_of e2 q
theorem i62_of {j : Int} (h : -1000000000 ≤ j ∧ j ≤ 1000000000) : i62 j = true := by unfold i62; simp; omega
theorem sm_slT {xs : List D} {lo hi : Option Int} {P : D → Prop} (h : P (.tup (cutD xs lo hi))) : Sm (gSl (.tup xs) lo hi) P := by with_unfolding_all exact (
    ⟨_, rfl, h⟩)
theorem sm_slL {xs : List D} {lo hi : Option Int} {P : D → Prop} (h : P (.lst (cutD xs lo hi))) : Sm (gSl (.lst xs) lo hi) P := by with_unfolding_all exact (
    ⟨_, rfl, h⟩)
theorem sm_dix {kvs : List (Key × D)} {k d : D} {kk : Key} {P : D → Prop} (e : k.key = some kk) (f : valD kvs kk = some d) (h : P d) : Sm (gDix (.dic kvs) k) P := by with_unfolding_all exact (
    ⟨d, by unfold gDix; simp only [e, f], h⟩)
theorem sm_addT {xs ys : List D} {P : D → Prop} (f : fits (xs.length + ys.length) = true) (h : P (.tup (xs ++ ys))) : Sm (gAdd (.tup xs) (.tup ys)) P := by with_unfolding_all exact (
    ⟨_, by unfold gAdd; simp only [if_pos f], h⟩)
theorem sm_add1 {x : Int} {t : List Int} {P : D → Prop} (f : fits (t.length + 1) = true) (h : P (.tup ((x :: t).map .int))) : Sm (gAdd (.tup [.int x]) (.tup (t.map .int))) P := by with_unfolding_all exact (
    ⟨_, by unfold gAdd; simp only [List.length_map, List.length_cons, List.length_nil]; rw [if_pos (by rw [Nat.add_comm]; exact f)]; rfl, h⟩)
/-! folds -/
theorem w_foldI {α β : Type} {ds : List D} (I : β → Prop) (enc : α → D) (st : β → S) (f : β → α → β) (xs : List α) (b0 : β) (hd : ds = xs.map enc) (hs : s = st b0) (h0 : I b0)
    (step : ∀ b' x, I b' → x ∈ xs → Sm (tg (enc x) (st b')) fun s1 => W (b s1) (kl (fun s2 => s2 = st (f b' x) ∧ I (f b' x)) PS) E)
    (fin : I (xs.foldl f b0) → PS .nx (st (xs.foldl f b0))) : W (loop tg b ds s) PS E := by
  with_unfolding_all
    subst hd hs
    refine w_loop (fun ds s => ∃ as bs, xs = as ++ bs ∧ ds = bs.map enc ∧ s = st (as.foldl f b0) ∧ I (as.foldl f b0)) ⟨[], xs, rfl, rfl, rfl, h0⟩ ?_ ?_
    · rintro d ds s1 ⟨as, bs, e1, e2, rfl, hi⟩
      cases bs with
      | nil => cases e2
      | cons x bs =>
        cases e2
        obtain ⟨s2, e3, q⟩ := step _ x hi (by rw [e1]; simp)
        refine ⟨s2, e3, q.imp fun fl s3 q => ?_⟩
        have key : s3 = st (f (as.foldl f b0) x) ∧ I (f (as.foldl f b0) x) → ∃ as' bs', xs = as' ++ bs' ∧ bs.map enc = bs'.map enc ∧ s3 = st (as'.foldl f b0) ∧ I (as'.foldl f b0) := fun ⟨e, q⟩ => ⟨as ++ [x], bs, by rw [e1]; simp, rfl, by rw [e, List.foldl_append]; rfl, by rw [List.foldl_append]; exact q⟩
        cases fl with
        | nx => exact key q
        | ct => exact key q
        | bk => exact q
        | rt r => exact q
    · rintro s1 ⟨as, bs, e1, e2, rfl, hi⟩
      cases bs with
      | nil => rw [List.append_nil] at e1; subst e1; exact fin hi
      | cons x bs => cases e2
/-- a loop that looks for something and returns it; the slots stand as they are -/
def kse (u : S) : Option Sl → Fl → S → Prop
  | none, .nx, s => s = u
  | some r, .rt r', s => r' = r
  | _, _, _ => False
theorem kse_nx {u : S} (h : s = u) : kse u none .nx s := h
theorem kse_rt {u : S} {r r' : Sl} (h : r' = r) : kse u (some r) (.rt r') s := h
/-- a comprehension that keeps some and turns them -/
theorem w_fmap {α : Type} {vs : List Nat} {xs : List α} {ds : List D} {u : S} (gg : α → D) (p : α → Bool) (f : α → D) (hd : ds = xs.map gg) (hv : vs.all (plainAt s) = true) (hu : wipeS s vs = u) (hl : xs.length ≤ 1000000)
    (step : ∀ x ∈ xs, Sm (tg (gg x) u) fun s1 => W (t s1) (fun c s2 => c = p x ∧ kb (W (m s2) (fun y s3 => y = f x ∧ vs.all (plainAt s3) = true ∧ wipeS s3 vs = u) E9) (vs.all (plainAt s2) = true ∧ wipeS s2 vs = u) c) E9) (fin : PO (.own (.lst ((xs.filter p).map f))) (restore u s vs)) : W (compOut vs tg t m ds s) PO E := by
  with_unfolding_all
    subst hd
    refine w_comp (fun ds acc s => s = u ∧ ∃ as bs, xs = as ++ bs ∧ ds = bs.map gg ∧ acc = (as.filter p).map f) hv ⟨hu, [], xs, rfl, rfl, rfl⟩ ?_ ?_
    · rintro d ds acc s1 ⟨rfl, as, bs, e1, e2, rfl⟩
      cases bs with
      | nil => cases e2
      | cons x bs =>
        cases e2
        obtain ⟨s2, e3, q⟩ := step x (by rw [e1]; simp)
        refine ⟨s2, e3, q.imp ?_⟩
        rintro c s3 ⟨ec, k1, k2⟩
        refine ⟨fun hc => (k1 hc).imp ?_, fun hc => ?_⟩
        · rintro y s4 ⟨rfl, h1, h2⟩
          refine ⟨h1, h2, as ++ [x], bs, by rw [e1]; simp, rfl, ?_⟩
          rw [List.filter_append, List.filter_cons, if_pos (by rw [← ec]; exact hc)]
          simp
        · obtain ⟨h1, h2⟩ := k2 hc
          refine ⟨h1, h2, as ++ [x], bs, by rw [e1]; simp, rfl, ?_⟩
          rw [List.filter_append, List.filter_cons, if_neg (by rw [← ec, hc]; exact Bool.false_ne_true)]
          simp
    · rintro acc s1 ⟨rfl, as, bs, e1, e2, rfl⟩
      cases bs with
      | nil =>
        rw [List.append_nil] at e1
        subst e1
        refine ⟨fits_of ?_, fin⟩
        rw [List.length_map]
        exact Nat.le_trans (List.length_filter_le _ _) hl
      | cons x bs => cases e2
end
/-! draws -/
/-- a loop over a range whose turns draw -/
theorem w_loopO {b : MS} {s : S} {tg : MG} {n : Nat} {E : Exc → S → Prop} {PS : Fl → S → Prop} {o : O} (st : O → S) (hs : s = st o) (h0 : DOk o) (step : ∀ j o, j < n → DOk o → Sm (tg (.int (j : Nat)) (st o)) fun s1 => W (b s1) (kl (fun s2 => ∃ o', DOk o' ∧ s2 = st o') PS) E)
    (fin : ∀ o, DOk o → PS .nx (st o)) : W (loop tg b (rngD 0 n) s) PS E := by
  with_unfolding_all
    refine w_rloop (fun _ s => ∃ o, DOk o ∧ s = st o) ⟨o, h0, hs⟩ ?_ ?_
    · rintro j s hj ⟨o, ho, rfl⟩
      obtain ⟨s1, e, q⟩ := step j o hj ho
      refine ⟨s1, e, q.imp fun f s3 q => ?_⟩
      cases f with
      | nx => exact q
      | ct => exact q
      | bk => exact q
      | rt r => exact q
    · rintro s ⟨o, ho, rfl⟩
      exact fin o ho
@[irreducible] def DThen (F : FL) (ds : List D) (k : D → O → Prop) : Prop := ∃ P : D → Prop, LOk F ds P ∧ ∀ d o', DOk o' → P d → k d o'
theorem DThen.get {F : FL} {ds : List D} {k : D → O → Prop} (h : DThen F ds k) : ∃ P : D → Prop, LOk F ds P ∧ ∀ d o', DOk o' → P d → k d o' := by with_unfolding_all exact h
theorem dthen {F : FL} {ds : List D} {k : D → O → Prop} {α : Type} {f : α → D} {Q : α → Prop} (h : LOk F ds fun d => ∃ x, d = f x ∧ Q x) (q : ∀ o', DOk o' → ∀ x, Q x → k (f x) o') : DThen F ds k := by with_unfolding_all exact (
    ⟨_, h, fun d o' ho ⟨x, e, hx⟩ => by rw [e]; exact q o' ho x hx⟩)
theorem w_draw {i n : Nat} {F : FL} {ml : ML} {s : S} {w0 : Sl} {o0 : O} {PO : Sl → S → Prop} {E : Exc → S → Prop} (hm : mutAt s i = some (w0, o0))
    (h : W (ml s) (fun ds s1 => ∃ w1 o1, mutAt s1 i = some (w1, o1) ∧ ds.length + 1 = n ∧ DOk o1 ∧ DThen F ds fun d o' => PO (.val d) (s1.set i (some (w1.re o')))) E) : W (mCallL i F n ml s) PO E := by
  with_unfolding_all
    unfold mCallL
    simp only [hm]
    refine w_bind (h.imp fun ds s1 ⟨w1, o1, e1, hl, hd, hk⟩ => ?_)
    obtain ⟨P, hF, k⟩ := hk.get
    obtain ⟨d, o', s', e, e0, hk, q⟩ := hF o1 hd
    simp only [e1, if_pos hl, e, lentOut, e0, if_pos ((mutAt_sub e1).trans (hd.sub.trans hk.sub.symm))]
    exact k d o' hk q
/-! defs by their answers -/
abbrev FEq (F : FP) (ds : List D) (r : Sl) : Prop := FOk F ds fun r' => r' = r
theorem FOk.imp {F : FP} {ds : List D} {P Q : Sl → Prop} (h : FOk F ds P) (q : ∀ r, P r → Q r) : FOk F ds Q := by
  with_unfolding_all
    obtain ⟨r, s, e, nb, p⟩ := h.get
    exact ⟨r, s, e, nb, q r p⟩
theorem fok_of {F : FP} {ds : List D} {P : Sl → Prop} {r : Sl} (h : FEq F ds r) (q : P r) : FOk F ds P := by with_unfolding_all exact (
    h.imp fun r' e => by rw [e]; exact q)
/-- a new object of a class: what __init__ leaves -/
@[irreducible] def MOk (F : FL) (cn : Str) (ds : List D) (o : O) : Prop := o.sub.isEmpty = true ∧ ∃ s', F (.ins cn []) ds = .ok (.val .non) s' ∧ s'[0]? = some (some (.bor o))
theorem MOk.get {F : FL} {cn : Str} {ds : List D} {o : O} (h : MOk F cn ds o) : o.sub.isEmpty = true ∧ ∃ s', F (.ins cn []) ds = .ok (.val .non) s' ∧ s'[0]? = some (some (.bor o)) := by with_unfolding_all exact h
theorem MOk.mk {F : FL} {cn : Str} {ds : List D} {o : O} (h : ∃ s', F (.ins cn []) ds = .ok (.val .non) s' ∧ s'[0]? = some (some (.bor o))) (hz : o.sub.isEmpty = true := by rfl) : MOk F cn ds o := by with_unfolding_all exact ⟨hz, h⟩
theorem w_makeE {cn : Str} {F : FL} {ml : ML} {s : S} {n : Nat} {PO : Sl → S → Prop} {E : Exc → S → Prop} (h : W (ml s) (fun ds s1 => ds.length + 1 = n ∧ ∃ o, MOk F cn ds o ∧ PO (.own o) s1) E) : W (mMake cn F n ml s) PO E := by with_unfolding_all exact (
    w_make (h.imp fun ds s1 ⟨e, o, hm, q⟩ => let ⟨hz, s', e1, e2⟩ := hm.get; ⟨e, s', o, e1, e2, hz, q⟩))
theorem mok_of {F : FL} {cn : Str} {ds : List D} {o : O} {P : O → Prop} (h : MOk F cn ds o) (q : P o) : ∃ o, MOk F cn ds o ∧ P o := by with_unfolding_all exact (
    ⟨o, h, q⟩)
end Den

set_option Elab.async false
set_option linter.all false
set_option maxRecDepth 100000
set_option maxHeartbeats 4000000
namespace Den
variable {hox : Option Addr}
open PySem PySem.Spec PyProof.Rows L2
/-! wishes for comprehensions with two for -/
section
variable {m : MD} {t tt : MB} {s : S} {tg g1 : MG} {mi1 : MI} {E : Exc → S → Prop} {PO : Sl → S → Prop}
theorem w_comp2I {vs vs1 : List Nat} {mi : MI} (h : W (mi s) (fun ds s1 => W (compOut2 vs vs1 tg t mi1 g1 tt m ds s1) PO E) E) : W (mComp2 vs vs1 mi tg t mi1 g1 tt m s) PO E := w_bind h
end
theorem lrs {i j : Int} (h : 0 ≤ i ∧ i ≤ 1000) (h2 : -1000000 ≤ j ∧ j ≤ 1000000) : (i62 (i, j).1 && i62 (i, j).2 && decide (((i, j).2 - (i, j).1).toNat ≤ 1000000)) = true := by
  show (i62 i && i62 j && decide ((j - i).toNat ≤ 1000000)) = true
  rw [i62_of (by omega), i62_of (by omega), decide_eq_true (by omega)]
  rfl
theorem w_yes {s : S} {PB : Bool → S → Prop} {E : Exc → S → Prop} (h : PB true s) : W (bYes s) PB E := w_ok h
theorem i62s {i j : Int} (h : -1000000000 ≤ i ∧ i ≤ 1000000000) (h2 : -1000000000 ≤ j ∧ j ≤ 1000000000) : (i62 i && i62 j) = true := by rw [i62_of h, i62_of h2]; rfl
theorem w_prop {cn : Str} {F : FP} {m : MD} {s : S} {P : D → S → Prop} {E : Exc → S → Prop} (h : W (m s) (fun d s1 => ∃ fs r, d = .obj cn fs ∧ FEq F [.obj cn fs] (.val r) ∧ P r s1) E) : W (mProp cn F m s) P E := by
  refine w_bind (h.imp fun d s1 ⟨fs, r, e, hf, q⟩ => ?_)
  obtain ⟨r', s', e', _, er⟩ := hf.get
  subst e
  subst er
  simp only [if_pos, e']
  exact w_ok q
theorem w_isiC {cn : Str} {m : MD} {s : S} {P : D → S → Prop} {E : Exc → S → Prop} (h : W (m s) (fun x s1 => Sm (gIsiC cn x) fun z => P z s1) E) : W (mIsiC cn m s) P E := w_un h
theorem sm_isiC {cn : Str} {fs : List (Str × D)} {P : D → Prop} (h : P (.bl true)) : Sm (gIsiC cn (.obj cn fs)) P := Sm.of (by unfold gIsiC; simp) h
theorem sm_eqO {cn : Str} {F : FP} {fs gs : List (Str × D)} {b : Bool} {P : D → Prop} (e : FEq F [.obj cn fs, .obj cn gs] (.val (.bl b))) (h : P (.bl b)) : Sm (gEqO cn F (.obj cn fs) (.obj cn gs)) P := by
  obtain ⟨r, s', e', _, er⟩ := e.get
  subst er
  refine Sm.of ?_ h
  unfold gEqO
  simp [e']
theorem sm_addS {a b : Str} {P : D → Prop} (f : fits (a.length + b.length) = true) (h : P (.str (a ++ b))) : Sm (gAdd (.str a) (.str b)) P := Sm.of (by unfold gAdd; simp only [if_pos f]) h
/-! exceptions' clauses -/
end Den

set_option Elab.async false
set_option linter.all false
set_option maxRecDepth 100000
set_option maxHeartbeats 4000000
/-! own classes: + -/
namespace Den
variable {hox : Option Addr}
open PySem PySem.Spec PyProof.Rows L2
def isOb (cn : Str) : D → Bool
  | .obj c _ => decide (c = cn)
  | _ => false
def mAddO (cn : Str) (F : FP) (ma mb : MD) : MO := fun s => (ma s).bind fun x s1 => (mb s1).bind fun y s2 => if (isOb cn x && isOb cn y) = true then match F [x, y] with
  | .ok (.val d) _ => .ok (.val d) s2
  | .ok (.own o) _ => .ok (.own o) s2
  | .exc x _ => .exc x s2
  | _ => .bad
  else .bad
section
variable {X : Cx} {W : WX} {k : Nat} {C f : Addr} {fd : FuncData} {ps : List Str} {F : FP} {a b : Expr} {pos : Pos} {ma mb : MD}
end
end Den

set_option Elab.async false
set_option linter.all false
set_option maxRecDepth 100000
set_option maxHeartbeats 4000000
/-! an own exception class whose __init__ says super().__init__("..") two classes below a built-in one, and then writes fields -/
namespace PySem
namespace SUPX
open PySem.W PySem.Calls PyProof.Rows
section
variable {prog : Program} {w : World} {A : Around} {E : Value → Shared → Prop} {h : Heap} {g : Array GenState} {d : Drawn} {t : Nat} {os : OsState}
variable {nm q : Str} {C N : Addr} {bs bm : List Value} {hdct : Bool} {sn : List Str} {sub : List Value} {ab : Bool} {col : Option Bool} {dd : Option Addr} {k0 k1 k2 k3 k5 : Option Value}
/-- the bound wrapper of ValueError.__init__, called -/
theorem call_mw {u e t0 : Addr} {rest : List Value} {Q : Value → Shared → Prop}
    (hC : h.get? C = some (excClassObj nm q C N bs bm hdct sn sub ab col dd k0 k1 k2 k3 k5 "ValueError.__new__")) (he : h.get? e = some (HandSPX.excO C t0)) (hu : h.get? u = some (kxs_mw "ValueError.__init__" e)) (hrest : rest.length ≤ sizeLine)
    (hq : ∀ h' t1, (∀ b o, b ≠ e → h.get? b = some o → h'.get? b = some o) → h'.get? e = some (HandSPX.excO C t1) → Q .none ⟨h', g, d, t, os⟩) :
    wpAny (model prog w) A (call (.ref u) rest) Q E ⟨h, g, d, t, os⟩ := by
  have FB := F.excBase_ValueError
  refine wpAny_call (codeAny_of_tree ?_)
  show wpAny _ A.in1 (callAny (.ref u) ⟨rest, []⟩) _ _ _
  simp only [callAny]
  refine wpAny_bind (wpAny_load hu ?_)
  simp only [kxs_mw, show (Value.type "method-wrapper" == Value.type "method" || Value.type "method-wrapper" == Value.type "builtin_function_or_method" || Value.type "method-wrapper" == Value.type "method-wrapper") = true by decide, if_true]
  refine W.KFB.if_so (by decide) ?_
  refine wpAny_bind (check_bound_init FB.toExcCallFacts hC he rfl ?_)
  refine wpAny_bind (wpAny_pure (wpAny_pure ?_))
  refine ⟨plainId_quiet FB.init.plain _, codeAny_builtin FB.initEntry ?_⟩
  exact exc_init_tree (cls := .ref C) (t0 := t0) (dv := none) (c2 := .none) (c3 := .none) (b4 := .bool false) he hrest fun h' k hx _ => hq h' _ k hx
end
end SUPX
end PySem
namespace Den
variable {hox : Option Addr}
open PySem PySem.Spec PyProof.Rows L2
/-- what the written part says of such a class, C; its __init__ at f, the cell of __class__ at cc, the code at cda -/
structure SupC (P : Program) (K : PySem.W.Frag) (C cc cda : Addr) : Prop where
  oex : OexC K C
  cell : ∃ a b sl, K.lookup cc = some ⟨a, b, .cell (some (.ref C)), sl⟩
  code : ∃ (a : Value) (b : Option Addr) (sl : Array (Option Value)) (vs : Array Value) (file : Str) (tf : Tok), K.lookup cda = some ⟨a, b, .fields vs, sl⟩ ∧ vs[2]? = some (.str file tf) ∧ ((P.main.file : Str) == file) = true
  opq : PySem.W.nsIn K cStatics "thirdparty.any" = some none
  init : PySem.W.ks_superIn K C C "__init__" = some (some (.builtin "ValueError.__init__"))
  sub : PySem.W.subIn K (.ref C) (.type "ValueError") = some true
  self : PySem.W.mroIn K C (.ref C) = some true
  top : (P.main.scope.names.lookup ("super" : Str)).isSome = false
/-- the call's own equation (it asks the places of the text) -/
def SupEv (env : Env) (p0 p1 p2 p3 p4 : Pos) (m : Str) (j : Nat) (pl : Sem Bool) : Prop :=
  eval (.Call (.Attribute (.Call (.Name "super" p0) [] [] p1) "__init__" p2) [.Constant (.str m) j p3] [] p4) env = (do
      let ov ← attributeBase (.Call (.Name "super" p0) [] [] p1) "__init__" env (eval (.Call (.Name "super" p0) [] [] p1) env)
      standAt p2.atName
      let (f, first) ← holding [ov] (getMethod ov "__init__" pl)
      callWith p4 f first (backTo p4 (starEach [.Constant (.str m) j p3] env)) [])
section
variable {X : Cx} {pins : List (Addr × Obj)} {σ : St} {H : Hp} {s : Shared} {a C f cc cda : Addr} {fd : FuncData} {ar : Arg} {body : List Stmt} {p0 p1 p2 p3 p4 p5 : Pos} {m : Str} {j : Nat} {Q : Flow → Shared → Prop} {E : Value → Shared → Prop}
/-- super().__init__("m") -/
theorem sup_stmt (T : SupC X.prog X.K C cc cda) (hks : Gl X "super") (hm : X.mg "super" = none) (hkc : X.env.kindOf "__class__" = some .free) (hcl : X.env.cells.lookup ("__class__" : Str) = some cc) (hfu : X.env.func = some f) (hco : X.env.code = .ref cda)
    (hf : ∃ a b sl, X.K.lookup f = some ⟨a, b, .func fd, sl⟩) (hp : (fd.params.posonlyargs ++ fd.params.args).head? = some ar) (har : ar.arg = ("self" : Str)) (hka : X.env.kindOf "self" = some .local) (hN : X.N[0]? = some ("self" : Str)) (hσ : σ[0]? = some (some (V.ref a)))
    (I : Inv X pins σ H s) (ea : H a = some (exo a C none)) (h : ∀ s', Inv X pins σ H s' → Q .next s') {pl : Sem Bool}
    (hc : SupEv X.env p0 p1 p2 p3 p4 m j pl) :
    _root_.PySem.wpAt (model X.prog X.w) X.A (.func body X.env) (exec (.Expr (.Call (.Attribute (.Call (.Name "super" p0) [] [] p1) "__init__" p2) [.Constant (.str m) j p3] [] p4) p5) X.env) Q E s := by
  obtain ⟨f1, f2, f3, hf⟩ := hf
  obtain ⟨c1, c2, c3, hcell⟩ := T.cell
  obtain ⟨d1, d2, d3, vs, file, tf, hcode, hvs, hfile⟩ := T.code
  obtain ⟨nm, q, N, bs, bm, sn, sub, ab, col, dd, k0, k1, k2, k3, k5, hC, hbm⟩ := T.oex.cls
  have hcd : PySem.W.clsIn X.K C = some { name := nm, bases := bs, mro := .ref C :: bm, ns := N, qualname := q, hasDict := true, slotNames := sn, subclasses := sub, abstract := ab, collection := col, hasDel := false } := by unfold PySem.W.clsIn; rw [hC] <;> rfl
  have hini := T.init
  unfold PySem.W.ks_superIn at hini
  rw [hcd] at hini
  have hi : interactive X.env = false := I.quiet
  refine ks_wpAt_Expr_any (ks_wpAt_MethodCall (ks_wpAt_super_base hks hkc rfl hfu (I.kIn _ _ hf) rfl hp hco (I.kIn _ _ hcode) rfl hvs hfile T.top ?_) hc) hi
  obtain ⟨mb, hb1, hb2⟩ := I.mod.blt
  refine PySem.W.ks_loadName_global I.ok.kind hks (Calls.loadGlobal_builtin (by rw [I.ok.glob]; exact I.mod.glob.keeps I.bk) hm (by rw [I.ok.blt]; exact hb1.keeps I.bk) ((hb2 "super" (by decide)).trans Boot.«super») ⟨rfl, ?_⟩)
  refine wpAny_loadName_free I.ok.kind hkc hcl ⟨_, I.kIn _ _ hcell, rfl⟩ ?_
  obtain ⟨mm, hn, hl⟩ := I.loc
  obtain ⟨u, ru, lk⟩ := hl 0 "self" _ hN hσ (.inl hka)
  have hm0 : mm "self" = some (.ref a) := by
    rcases lk with ⟨_, e⟩ | ⟨e, _⟩
    · rw [e, show u = Value.ref a from ru]
    · rw [hka] at e
      rcases e with e | e <;> cases e
  rw [har]
  refine wpAny_loadName_local I.ok.kind hka hn hm0 ?_
  refine ks_wpAny_isType_cls (I.kIn _ _ hC) rfl ⟨rfl, ?_⟩
  obtain ⟨t1, ho⟩ := exo_at I.hok ea
  obtain ⟨hh, g, d, t, os⟩ := s
  refine ks_wpAny_call_super (I.kIn _ _ hC) rfl ho rfl (fun c e => by cases e) (PySem.W.looks_mroIn I.kIn T.self) (fun h' e1 kk1 => ?_)
  have I1 : Inv X pins σ H ⟨h', g, d, t, os⟩ := I.kept (t' := t) kk1
  have ho1 := kk1 _ _ ho
  have J : PySem.W.InstAt h' a (PySem.HandSPX.excO C t1) C none := ⟨ho1, rfl, rfl, trivial⟩
  refine PySem.W.kxs_getMethod PySem.W.kxs_ValueError e1 (PySem.W.looks_opaque I1.kIn T.opq) (l₀ := .ref C :: bm) (fun A Q E s k q => wpAny_bind ((PySem.W.looks_clsIn I1.kIn hcd) A _ E s k (wpAny_pure q))) rfl I1.kIn hini (J.type.andThen (PySem.W.looks_subIn I1.kIn T.sub)) (PySem.W.ks_ne I1.kIn J hcd) rfl ?_
  have kk2 : ∀ b o, h'.get? b = some o → (h'.push (PySem.W.kxs_mw "ValueError.__init__" a)).get? b = some o := fun b o e => Heap.get?_push_of_some _ e
  have I2 : Inv X pins σ H ⟨h'.push (PySem.W.kxs_mw "ValueError.__init__" a), g, d, t + 1, os⟩ := I1.kept (t' := t + 1) kk2
  have hu : (h'.push (PySem.W.kxs_mw "ValueError.__init__" a)).get? h'.objs.size = some (PySem.W.kxs_mw "ValueError.__init__" a) := Heap.get?_push_at rfl rfl
  have ho2 := kk2 _ _ ho1
  refine PySem.W.kxs_callWith (i := "ValueError.__init__") (x := a) (by rfl) ?_
  show wpAny _ _ (evalArgs _ true ((false, eval (.Constant (.str m) j p3) X.env) :: []) []) _ _ _
  refine Calls.evalArgs_plain (Calls.spliced_cons (Calls.Constant_str (Calls.spliced_nil ⟨hu, ?_⟩)))
  refine PySem.SUPX.call_mw (I2.kIn _ _ hC) ho2 hu (by show 1 ≤ sizeLine; rw [sizeLine_eq]; omega) (fun h3 t3 k hx => ?_)
  have J3 := I2.write (t' := t + 1 + 1) (x := a) (e := a) (o := exo a C none) (by rw [ea]; exact True.intro) (.inl rfl) k ⟨_, hx⟩ (exo_ok hx)
  have eu : upd H a (exo a C none) = H := by
    funext b
    by_cases hb : b = a
    · rw [hb, upd_same, ea]
    · rw [upd_ne hb]
  rw [eu] at J3
  exact h _ J3
end

/-! ### its __init__ -/
open NdefX (NF NScope ncx startF CellsAt envF inv_startN)
abbrev supStmt (p0 p1 p2 p3 p4 p5 : Pos) (m : Str) (j : Nat) : Stmt := .Expr (.Call (.Attribute (.Call (.Name "super" p0) [] [] p1) "__init__" p2) [.Constant (.str m) j p3] [] p4) p5
abbrev supNF (name qual : Str) (params : Arguments) (body : List Stmt) (scope : Scope) (cc cda : Addr) : NF := { name := name, qual := qual, params := params, body := body, scope := scope, cl := [("__class__", cc)], c := cda }
theorem fn_sup {CX : CXT} {P : Program} {w : World} {K : PySem.W.Frag} {mg : Str → Option Value} {base : Heap} {k : Nat} {f C cc cda : Addr} {name qual m : Str} {params : Arguments} {rest : List Stmt} {scope : Scope} {dV kV doc pm ct oc : Value} {an od : Option Addr}
    {osl : Array (Option Value)} {N ps : List Str} {sp : Sp} {ar : Arg} {j : Nat} {p0 p1 p2 p3 p4 p5 : Pos} (T : SupC P K C cc cda)
    (lk : K.lookup f = some ⟨oc, od, .func (PySem.W.fnX name qual params (supStmt p0 p1 p2 p3 p4 p5 m j :: rest) scope [("__class__", cc)] dV kV doc pm an (.ref cda) ct), osl⟩) (hcd : PySem.W.codeIn K (.ref cda) qual = true)
    (S : NScope N ps ["__class__"] scope) (hmg : mg "super" = none) (hks : scope.names.lookup ("super" : Str) = some .globalImplicit) (hp : (params.posonlyargs ++ params.args).head? = some ar) (har : ar.arg = ("self" : Str)) (hN : N[0]? = some ("self" : Str))
    (hka : scope.names.lookup ("self" : Str) = some .local) (hc : ∀ env : Env, ∃ pl, SupEv env p0 p1 p2 p3 p4 m j pl)
    (len : ∀ vs H Q E, sp vs H Q E → vs.length = ps.length)
    (hbody : ∀ (A : Around) (outer : List Env) (s : Shared) (H : Hp) (vs : List V) (Q : VK) (E : XK), sp vs H Q E →
      ∃ (a : Addr) (ys : List V) (t : TS), vs = V.ref a :: ys ∧ H a = some (exo a C none) ∧ PSs (ncx CX P w K mg base N (supNF name qual params (supStmt p0 p1 p2 p3 p4 p5 m j :: rest) scope cc cda) f A outer s H E) rest t ∧
        t { nx := fun _ H' => Q .non H', rt := Q } (startF N vs [some (V.ref C)]) H) :
    FnOk P w K mg base CX (k + 1) f (PySem.W.fnX name qual params (supStmt p0 p1 p2 p3 p4 p5 m j :: rest) scope [("__class__", cc)] dV kV doc pm an (.ref cda) ct) ps sp := by
  refine ⟨len, fun A outer s H args us vs Q E hr e0 hb r hsp => ?_⟩
  have hl := len _ _ _ _ hsp
  have KX : K.In s.heap := e0.mod.kin.keeps fun b o e => (e0.bs b o e).1
  have lim : s.heap.NoLimit := e0.mod.nolimit.keeps fun b o e => (e0.bs b o e).1
  obtain ⟨c1, c2, c3, hcell⟩ := T.cell
  have CA : CellsAt [("__class__", cc)] ["__class__"] [some (V.ref C)] s.heap H := by
    have hcc := e0.bs _ _ (e0.mod.kin _ _ hcell)
    refine ⟨rfl, fun y c e => ?_, fun x y c ex ey => ?_, fun i y e => ?_⟩
    · have hy : c = cc := by
        simp only [List.lookup] at e
        split at e
        · exact (Option.some.inj e).symm
        · cases e
      subst hy
      exact ⟨hcc.2, _, _, hcc.1, rfl⟩
    · simp only [List.lookup] at ex ey
      split at ex
      · rename_i h1
        split at ey
        · rename_i h2
          rw [beq_iff_eq.mp h1, beq_iff_eq.mp h2]
        · cases ey
      · cases ex
    · cases i with
      | zero =>
        cases e
        refine ⟨cc, by simp [List.lookup], fun v ev => ?_⟩
        have ev : some (some (V.ref C)) = some (some v) := ev
        cases ev
        exact ⟨.ref C, rfl, _, hcc.1, rfl⟩
      | succ i => simp at e
  refine codeAny_call_function hr.depth (KX _ _ lk) rfl S.co S.gen rfl (PySem.W.codeRec_of KX hcd) (hb _ _ _ _ ?_)
  refine wpAny_newFunctionEnv S.nocell (fun ⟨n, _⟩ hy => S.par n (List.of_mem_zip hy).1) (fun h₁ hns hsb => ⟨lim.fresh _ hsb, ?_⟩) S.kind
  show codeAny _ _ (.func (supStmt p0 p1 p2 p3 p4 p5 m j :: rest) (envF (supNF name qual params (supStmt p0 p1 p2 p3 p4 p5 m j :: rest) scope cc cda) f s.heap.objs.size)) _ _
  refine ks_codeAny_funcAt ?_
  have kp : ∀ b o, s.heap.get? b = some o → h₁.get? b = some o := fun b o e => hsb.extBut b o (Nat.ne_of_lt (Heap.lt_size e)) (Heap.get?_push_of_some _ e)
  obtain ⟨a, ys, t, ev, ea, ht, hq⟩ := hbody A outer s H vs Q E hsp
  have I : Inv (ncx CX P w K mg base N (supNF name qual params (supStmt p0 p1 p2 p3 p4 p5 m j :: rest) scope cc cda) f A outer s H E) [] (startF N vs [some (V.ref C)]) H { s with heap := h₁, toks := s.toks + (ps.zip us).length } :=
    inv_startN (F := supNF name qual params (supStmt p0 p1 p2 p3 p4 p5 m j :: rest) scope cc cda) S hr.hd e0 hl r CA hns kp
  obtain ⟨pl, hc⟩ := hc (envF (supNF name qual params (supStmt p0 p1 p2 p3 p4 p5 m j :: rest) scope cc cda) f s.heap.objs.size)
  have fin : ∀ {σ' : L2.St} {H' : Hp} {v : V} {u : Value} {s' : Shared}, Inv (ncx CX P w K mg base N (supNF name qual params (supStmt p0 p1 p2 p3 p4 p5 m j :: rest) scope cc cda) f A outer s H E) [] σ' H' s' → L2.RelV v u → Q v H' → CE outer P w H s Q u s' :=
    fun {σ' H' v u s'} J rv q => ⟨v, H', J.os, J.bare, J.base, J.hok, rv, q⟩
  refine ks_wpAt_execs_cons (sup_stmt (X := ncx CX P w K mg base N (supNF name qual params (supStmt p0 p1 p2 p3 p4 p5 m j :: rest) scope cc cda) f A outer s H E) (σ := startF N vs [some (V.ref C)]) (H := H) (pins := []) T hks hmg (S.frk _ List.mem_cons_self) (by show List.lookup _ [_] = _; simp [List.lookup]) rfl rfl ⟨_, _, _, lk⟩ hp har hka hN (by subst ev; rfl) I ea (fun s' J => ?_) hc)
  refine wpAt_of_wpAny (wpAny_mono (ht.run [] s' _ H _ J hq) (fun fl s' hs => ?_) fun e s' hs => hs)
  cases fl with
  | ret u =>
    obtain ⟨v, σ', H', J, rv, q⟩ := hs
    exact fin J rv q
  | next =>
    obtain ⟨σ', H', J, q⟩ := hs
    exact fin (v := V.non) (u := Value.none) J rfl q
  | brk =>
    obtain ⟨_, _, _, q⟩ := hs
    exact False.elim q
  | cont =>
    obtain ⟨_, _, _, q⟩ := hs
    exact False.elim q

/-- what it promises: the fields stand in a new dict -/
def spX (C : Addr) (fls : List Str) : Sp := fun vs H Q _ => ∃ (a : Addr) (ys : List V), vs = .ref a :: ys ∧ ys.length = fls.length ∧ H a = some (exo a C none) ∧
  ∀ (dx : Addr) (H' : Hp), H dx = none → dx ≠ a → H' a = some (exo a C (some dx)) → H' dx = some (exd dx (fls.zip ys).reverse) → (∀ b, b ≠ a → b ≠ dx → H' b = H b) → Q .non H'
section
variable {CX : CXT} {P : Program} {w : World} {K : PySem.W.Frag} {mg : Str → Option Value} {base : Heap} {k : Nat} {f C cc cda : Addr} {name qual m x1 x2 f1 f2 : Str} {params : Arguments} {scope : Scope} {dV kV doc pm ct oc : Value} {an od : Option Addr}
    {osl : Array (Option Value)} {ar : Arg} {j : Nat} {p0 p1 p2 p3 p4 p5 q1 q2 q3 q4 q5 q6 q7 q8 : Pos}
abbrev setSt (f1 x1 : Str) (q1 q2 q3 q4 : Pos) : Stmt := .Assign [.Attribute (.Name "self" q1) f1 q2] (.Name x1 q3) q4
theorem fn_sup1 (T : SupC P K C cc cda)
    (lk : K.lookup f = some ⟨oc, od, .func (PySem.W.fnX name qual params (supStmt p0 p1 p2 p3 p4 p5 m j :: [setSt f1 x1 q1 q2 q3 q4]) scope [("__class__", cc)] dV kV doc pm an (.ref cda) ct), osl⟩) (hcd : PySem.W.codeIn K (.ref cda) qual = true)
    (S : NScope ["self", x1, "__class__"] ["self", x1] ["__class__"] scope) (hmg : mg "super" = none) (hks : scope.names.lookup ("super" : Str) = some .globalImplicit) (hp : (params.posonlyargs ++ params.args).head? = some ar) (har : ar.arg = ("self" : Str))
    (hc : ∀ env : Env, ∃ pl, SupEv env p0 p1 p2 p3 p4 m j pl) (n1 : PySem.W.findIn K (.ref C) f1 = some none) (d1 : (x1 == ("__debug__" : Str)) = false) (c1 : (x1 == ("__classdict__" : Str)) = false) :
    FnOk P w K mg base CX (k + 1) f (PySem.W.fnX name qual params (supStmt p0 p1 p2 p3 p4 p5 m j :: [setSt f1 x1 q1 q2 q3 q4]) scope [("__class__", cc)] dV kV doc pm an (.ref cda) ct) ["self", x1] (spX C [f1]) := by
  refine fn_sup T lk hcd S hmg hks hp har rfl (S.par _ (by simp)) hc (fun vs H Q E ⟨a, ys, ev, el, _⟩ => by rw [ev]; simp [el]) (fun A outer s H vs Q E ⟨a, ys, ev, el, ea, hq⟩ => ?_)
  obtain ⟨y, rfl⟩ : ∃ y, ys = [y] := by
    match ys, el with
    | [y], _ => exact ⟨y, rfl⟩
  subst ev
  refine ⟨a, [y], _, rfl, ea, pss_one (ps_ost (pe_var (i := 0) rfl (.inl (S.par _ (by simp)))) (pe_var (i := 1) rfl (.inl (S.par _ (by simp))) d1 c1)), ?_⟩
  refine ⟨y, rfl, .ref a, rfl, a, C, rfl, T.oex, n1, .inl ⟨ea, fun dx n ne => ?_⟩⟩
  exact hq dx _ n ne upd_same (by rw [upd_ne ne, upd_same]; rfl) fun b h1 h2 => by rw [upd_ne h1, upd_ne h2]
theorem fn_sup2 (T : SupC P K C cc cda)
    (lk : K.lookup f = some ⟨oc, od, .func (PySem.W.fnX name qual params (supStmt p0 p1 p2 p3 p4 p5 m j :: [setSt f1 x1 q1 q2 q3 q4, setSt f2 x2 q5 q6 q7 q8]) scope [("__class__", cc)] dV kV doc pm an (.ref cda) ct), osl⟩) (hcd : PySem.W.codeIn K (.ref cda) qual = true)
    (S : NScope ["self", x1, x2, "__class__"] ["self", x1, x2] ["__class__"] scope) (hmg : mg "super" = none) (hks : scope.names.lookup ("super" : Str) = some .globalImplicit) (hp : (params.posonlyargs ++ params.args).head? = some ar) (har : ar.arg = ("self" : Str))
    (hc : ∀ env : Env, ∃ pl, SupEv env p0 p1 p2 p3 p4 m j pl) (n1 : PySem.W.findIn K (.ref C) f1 = some none) (n2 : PySem.W.findIn K (.ref C) f2 = some none) (d1 : (x1 == ("__debug__" : Str)) = false) (c1 : (x1 == ("__classdict__" : Str)) = false)
    (d2 : (x2 == ("__debug__" : Str)) = false) (c2 : (x2 == ("__classdict__" : Str)) = false) :
    FnOk P w K mg base CX (k + 1) f (PySem.W.fnX name qual params (supStmt p0 p1 p2 p3 p4 p5 m j :: [setSt f1 x1 q1 q2 q3 q4, setSt f2 x2 q5 q6 q7 q8]) scope [("__class__", cc)] dV kV doc pm an (.ref cda) ct) ["self", x1, x2] (spX C [f1, f2]) := by
  refine fn_sup T lk hcd S hmg hks hp har rfl (S.par _ (by simp)) hc (fun vs H Q E ⟨a, ys, ev, el, _⟩ => by rw [ev]; simp [el]) (fun A outer s H vs Q E ⟨a, ys, ev, el, ea, hq⟩ => ?_)
  obtain ⟨y, z, rfl⟩ : ∃ y z, ys = [y, z] := by
    match ys, el with
    | [y, z], _ => exact ⟨y, z, rfl⟩
  subst ev
  refine ⟨a, [y, z], _, rfl, ea, pss_cons (ps_ost (pe_var (i := 0) rfl (.inl (S.par _ (by simp)))) (pe_var (i := 1) rfl (.inl (S.par _ (by simp))) d1 c1))
    (pss_one (ps_ost (pe_var (i := 0) rfl (.inl (S.par _ (by simp)))) (pe_var (i := 2) rfl (.inl (S.par _ (by simp))) d2 c2))), ?_⟩
  refine ⟨y, rfl, .ref a, rfl, a, C, rfl, T.oex, n1, .inl ⟨ea, fun dx n ne => ?_⟩⟩
  refine ⟨z, rfl, .ref a, rfl, a, C, rfl, T.oex, n2, .inr ⟨dx, [(f1, y)], upd_same, by rw [upd_ne ne, upd_same], by simp, ?_⟩⟩
  exact hq dx _ n ne (by rw [upd_ne (Ne.symm ne), upd_same]) (by rw [upd_same]; rfl) fun b h1 h2 => by rw [upd_ne h2, upd_ne h1, upd_ne h2]
end
end Den

set_option Elab.async false
set_option linter.all false
set_option maxRecDepth 100000
set_option maxHeartbeats 4000000
/-! raise X(e, ..) of a class with own __init__ -/
namespace Den
variable {hox : Option Addr}
open PySem PySem.Spec PyProof.Rows L2
theorem repF_app {K : PySem.W.Frag} {mg : Str → Option Value} {G : Hp} : ∀ {xs ys : List (Str × V)} {ds es : List (Str × D)}, RepF K mg G xs ds → RepF K mg G ys es → RepF K mg G (xs ++ ys) (ds ++ es)
  | _, _, _, _, .nil, h => h
  | _, _, _, _, .cons r t, h => .cons r (repF_app t h)
theorem repF_rev {K : PySem.W.Frag} {mg : Str → Option Value} {G : Hp} : ∀ {xs : List (Str × V)} {ds : List (Str × D)}, RepF K mg G xs ds → RepF K mg G xs.reverse ds.reverse
  | _, _, .nil => .nil
  | _, _, .cons r t => by
    rw [List.reverse_cons, List.reverse_cons]
    exact repF_app (repF_rev t) (.cons r .nil)
theorem repF_zip {K : PySem.W.Frag} {mg : Str → Option Value} {G : Hp} : ∀ {fls : List Str} {ys : List V} {ds : List D}, RepL K mg G ys ds → RepF K mg G (fls.zip ys) (fls.zip ds)
  | [], _, _, _ => by simp; exact .nil
  | _ :: _, _, _, .nil => by simp; exact .nil
  | _ :: _, _, _, .cons r t => .cons r (repF_zip t)
theorem repL_len {K : PySem.W.Frag} {mg : Str → Option Value} {G : Hp} : ∀ {ys : List V} {ds : List D}, RepL K mg G ys ds → ys.length = ds.length
  | _, _, .nil => rfl
  | _, _, .cons _ t => by simp [repL_len t]
/-- the object that C(e, ..) makes while nothing is handled: its context is None -/
theorem mk_oexN {CX : CXT} {X : Cx} {k : Nat} {C f : Addr} {fd : FuncData} {ps : List Str} {sp : Sp} {e : Expr} {es : List Expr} {ta : TA} {x : Str} {p pos : Pos} (T : OexC X.K C) (iC : PySem.W.findIn X.K (.ref C) "__init__" = some (some (.ref f)))
    (tI : PySem.W.typeIn X.K (.ref f) = some (.type "function")) (F1 : FnOk X.prog X.w X.K X.mg X.base CX k f fd ps sp) (hr : Room (k + 1) X.A) (hb : Binds X.K fd ps []) (out : Passes CX X (fun _ _ _ => False)) (hg : Gl X x) (hm : X.mg x = some (.ref C)) (ha : PA X (e :: es) ta)
    (hdb : (x == ("__debug__" : Str)) = false) (he : starEach (e :: es) X.env = (false, eval e X.env) :: starEach es X.env) (hpl : (backTo pos (starEach es X.env)).any (·.1) = false) : L2N.PMk X (.Call (.Name x p) (e :: es) [] pos) (tMkO C sp [] ta) := by
  rintro pins s σ H Q I wish
  obtain ⟨_, _, _, _, bm, _, _, _, _, _, _, _, _, _, _, atC, rf⟩ := T.cls
  refine wpAny_Call_Name_kw (ld_glob I hg hm (PySem.W.callWith_K (h₀ := X.base) I.ok.mod.kin T.kC (thn (ha.run pos pins s σ H _ I wish) ?_) he hpl) hdb)
  rintro us ⟨hp, g, dr, tk, os⟩ ⟨vs, H1, J, rv, small, q1⟩
  refine ⟨J.kIn, ?_⟩
  show wpAny _ _ (call (.ref C) us) _ _ _
  -- the new object, its address
  have fresh : hp.objs.size ≤ (hp.objs.size + 1) := Nat.le_succ _
  have hq := q1 (hp.objs.size + 1) (J.hok.fresh fresh)
  rw [List.append_nil] at hq
  have up : ∀ b o, hp.get? b = some o → ((hp.push (PySem.W.kdv_tup us)).push (PySem.HandSPX.excO C hp.objs.size)).get? b = some o :=
    fun b o z => Heap.get?_push_of_some _ (Heap.get?_push_of_some _ z)
  have J2 : Inv X pins σ (upd H1 (hp.objs.size + 1) (exo (hp.objs.size + 1) C none)) ⟨(hp.push (PySem.W.kdv_tup us)).push (PySem.HandSPX.excO C hp.objs.size), g, dr, tk, os⟩ := by
    have there : ((hp.push (PySem.W.kdv_tup us)).push (PySem.HandSPX.excO C hp.objs.size)).get? (hp.objs.size + 1) = some (PySem.HandSPX.excO C hp.objs.size) := by
      heap_get
    exact J.laid (t' := tk) (a := (hp.objs.size + 1)) (o := exo (hp.objs.size + 1) C none) up fresh (exo_ok there)
  have rs : Vals (V.ref (hp.objs.size + 1) :: vs) (Value.ref (hp.objs.size + 1) :: us) := .cons rfl rv
  have len : (Value.ref (hp.objs.size + 1) :: us).length = ps.length := rs.length.symm.trans (F1.len _ _ _ _ hq)
  have few : us.length ≤ sizeLine := by
    have := Paired.length rv
    rw [sizeLine_eq]; omega
  have bind := hb _ (Value.ref (hp.objs.size + 1) :: us) J2.kIn (by rw [List.append_nil]; exact len)
  rw [List.append_nil] at bind
  have body := F1.run _ X.stack _ _ ⟨Value.ref (hp.objs.size + 1) :: us, []⟩ (Value.ref (hp.objs.size + 1) :: us) _ _ (fun _ _ _ => False) (hr.make C us []) (J2.env0.make C us []) bind rs hq
  refine wpAny_call (PySem.HandSPX.call_own F.excBase_ValueError (fun Y => PySem.HandSPX.refsVE_contains Y bm rf) (J.kIn _ _ atC) (PySem.W.looks_findIn J.kIn iC) (fun self => PySem.W.bind_fn J.kIn self tI) few (codeAny_mono body ?_))
  rintro (er | fl) s' z
  · exact out pins σ _ _ er s' J2 z
  · cases fl with
    | ret u =>
      obtain ⟨v, H2, os2, bare2, un2, hok2, ru, rfl, d, fs, ea, ed, hd1, q2⟩ := z
      obtain ⟨h2, g2, d2, t2, os'⟩ := s'
      obtain ⟨t0, G, J3, kG, ge, hoe, na⟩ := mk_end0 (d2 := d2) (t2 := t2) J fresh up un2 hok2 os2 bare2 ea ed hd1
      exact ⟨ru, (hp.objs.size + 1), _, _, ⟨G, g2, d2, t2, os'⟩, _, .ref C, some d, rfl, J3, kG, ge, hoe, ⟨rfl, rfl, fun ws hv => by cases hv; rfl⟩, rfl, rfl, na, rfl, bare2, raises_own T.exC T.tyC, q2⟩
    | _ => exact z.elim
def mRaiseX (cn : Str) (fls : List Str) (ml : ML) : MS := fun s => (ml s).bind fun ds s1 => if ds.length = fls.length then .exc ⟨cn, (fls.zip ds).reverse⟩ s1 else .bad
section
variable {X : Cx} {W : WX} {k : Nat} {C f : Addr} {fd : FuncData} {ps fls : List Str} {e : Expr} {es : List Expr} {ml : ML} {x : Str} {p pos rpos : Pos}
theorem ss_raiseX (hc : X.calm = true) (tk : L2N.Takes X W) (T : OexC X.K C) (iC : PySem.W.findIn X.K (.ref C) "__init__" = some (some (.ref f))) (tI : PySem.W.typeIn X.K (.ref f) = some (.type "function"))
    (F1 : FnOk X.prog X.w X.K X.mg X.base (L2N.CX X.prog X.w) k f fd ps (spX C fls)) (hl : fls.length ≤ 900) (hr : Room (k + 1) X.A) (hb : Binds X.K fd ps []) (hm : X.mg x = some (.ref C)) (ha : SL hox X W (e :: es) ml) (hg : Gl X x := by rfl) (hdb : (x == ("__debug__" : Str)) = false := by decide)
    (he : starEach (e :: es) X.env = (false, eval e X.env) :: starEach es X.env := by rfl) (hpl : (backTo pos (starEach es X.env)).any (·.1) = false := by rfl) :
    SS hox X W (.Raise (some (.Call (.Name x p) (e :: es) [] pos)) none rpos) (mRaiseX x fls ml) :=
  PS.imp (L2N.ps_raise hc tk (mk_oexN T iC tI F1 hr hb (fun pins σ H s e s' I h => (cx_never h).elim) hg hm ha hdb he hpl)) fun D σ H ⟨c, s, st, q⟩ => ⟨c, s, st, (ResS.split q).imp fun ds s1 H1 g q1 ys ry => by
    by_cases z : ds.length = fls.length
    · rw [if_pos z] at q1
      have ly := repL_len ry
      refine ⟨by rw [ly, z]; omega, fun a na => ⟨a, ys, by rw [List.append_nil], by rw [ly, z], upd_same, fun dx H2 nd ne e1 e2 e3 => ?_⟩⟩
      have nd1 : H1 dx = none := by rw [upd_ne ne] at nd; exact nd
      have eq : upd (del H2 a) dx (.xd (fls.zip ys).reverse) = upd H1 dx (.xd (fls.zip ys).reverse) := by
        funext b
        by_cases b1 : b = dx
        · rw [b1, upd_same, upd_same]
        · rw [upd_ne b1, upd_ne b1]
          by_cases b2 : b = a
          · rw [b2, del_same, na]
          · rw [del_ne b2, e3 b b2 b1, upd_ne b2]
      refine ⟨rfl, dx, _, e1, e2, nd1, ?_⟩
      rw [eq]
      have gr := Go.grow (H' := upd H1 dx (.xd (fls.zip ys).reverse)) g.1 (same_new nd1)
      refine q1 (.ref C) (some dx) σ _ gr ⟨⟨C, rfl, hm⟩, .inr ⟨dx, _, rfl, by rw [vis, hid_no (g.1.newHid nd1)]; exact upd_same, repF_rev (repF_zip (ry.mono gr.2))⟩⟩
    · rw [if_neg z] at q1
      exact q1.elim⟩
end
end Den
namespace Den
open PySem PySem.Spec PyProof.Rows L2
open NdefX (NScope)
/-- what the written part says of such a class and its __init__ -/
structure SupF (P : Program) (K : PySem.W.Frag) (mg : Str → Option Value) (qual : Str) (st : Stmt) (C f : Addr) (fd : FuncData) : Prop where
  ex : ∃ (cc cda : Addr) (oc : Value) (od : Option Addr) (kV doc pm : Value) (an : Option Addr) (ct : Value) (osl : Array (Option Value)), SupC P K C cc cda ∧
    fd = PySem.W.fnX "__init__" qual (defArgs st) (defBody st) (defScope st) [("__class__", cc)] .none kV doc pm an (.ref cda) ct ∧ K.lookup f = some ⟨oc, od, .func fd, osl⟩ ∧ PySem.W.codeIn K (.ref cda) qual = true
  oex : OexC K C
  ini : PySem.W.findIn K (.ref C) "__init__" = some (some (.ref f))
  ty : PySem.W.typeIn K (.ref f) = some (.type "function")
  sp : mg "super" = none
section
variable {P : Program} {w : World} {K : PySem.W.Frag} {mg : Str → Option Value} {base : Heap} {qual m x1 x2 f1 f2 : Str} {st : Stmt} {C f : Addr} {fd : FuncData} {j : Nat} {p0 p1 p2 p3 p4 p5 q1 q2 q3 q4 q5 q6 q7 q8 : Pos} {ar : Arg} {ps : List Str}
theorem SupF.binds (F : SupF P K mg qual st C f fd)
    (h : ∀ (cc : Addr) (kV doc pm : Value) (an : Option Addr) (cdv ct : Value) (us : List Value), us.length = ps.length → bindArgs (PySem.W.fnX "__init__" qual (defArgs st) (defBody st) (defScope st) [("__class__", cc)] .none kV doc pm an cdv ct) ⟨us, []⟩ = pure (ps.zip us)) : Binds K fd ps [] := by
  obtain ⟨cc, cda, oc, od, kV, doc, pm, an, ct, osl, _, rfl, _, _⟩ := F.ex
  exact .all (h cc kV doc pm an _ ct)
theorem SupF.ok1 (F : SupF P K mg qual st C f fd) (hb : defBody st = supStmt p0 p1 p2 p3 p4 p5 m j :: [setSt f1 x1 q1 q2 q3 q4]) (S : NScope ["self", x1, "__class__"] ["self", x1] ["__class__"] (defScope st)) (hks : (defScope st).names.lookup ("super" : Str) = some .globalImplicit)
    (hp : ((defArgs st).posonlyargs ++ (defArgs st).args).head? = some ar) (har : ar.arg = ("self" : Str)) (hc : ∀ env : Env, ∃ pl, SupEv env p0 p1 p2 p3 p4 m j pl) (n1 : PySem.W.findIn K (.ref C) f1 = some none) (d1 : (x1 == ("__debug__" : Str)) = false) (c1 : (x1 == ("__classdict__" : Str)) = false) :
    FnOk P w K mg base (L2N.CX P w) 1 f fd ["self", x1] (spX C [f1]) := by
  obtain ⟨cc, cda, oc, od, kV, doc, pm, an, ct, osl, T, rfl, lk, hcd⟩ := F.ex
  rw [hb] at lk ⊢
  exact fn_sup1 T lk hcd S F.sp hks hp har hc n1 d1 c1
theorem SupF.ok2 (F : SupF P K mg qual st C f fd) (hb : defBody st = supStmt p0 p1 p2 p3 p4 p5 m j :: [setSt f1 x1 q1 q2 q3 q4, setSt f2 x2 q5 q6 q7 q8]) (S : NScope ["self", x1, x2, "__class__"] ["self", x1, x2] ["__class__"] (defScope st)) (hks : (defScope st).names.lookup ("super" : Str) = some .globalImplicit)
    (hp : ((defArgs st).posonlyargs ++ (defArgs st).args).head? = some ar) (har : ar.arg = ("self" : Str)) (hc : ∀ env : Env, ∃ pl, SupEv env p0 p1 p2 p3 p4 m j pl) (n1 : PySem.W.findIn K (.ref C) f1 = some none) (n2 : PySem.W.findIn K (.ref C) f2 = some none)
    (d1 : (x1 == ("__debug__" : Str)) = false) (c1 : (x1 == ("__classdict__" : Str)) = false) (d2 : (x2 == ("__debug__" : Str)) = false) (c2 : (x2 == ("__classdict__" : Str)) = false) :
    FnOk P w K mg base (L2N.CX P w) 1 f fd ["self", x1, x2] (spX C [f1, f2]) := by
  obtain ⟨cc, cda, oc, od, kV, doc, pm, an, ct, osl, T, rfl, lk, hcd⟩ := F.ex
  rw [hb] at lk ⊢
  exact fn_sup2 T lk hcd S F.sp hks hp har hc n1 n2 d1 c1 d2 c2
end
end Den

set_option Elab.async false
set_option linter.all false
set_option maxRecDepth 100000
set_option maxHeartbeats 4000000
/-! except X as n: y = (.. n.f ..) -/
namespace Den
variable {hox : Option Addr}
open PySem PySem.Spec PyProof.Rows L2
/-- an expression of the suite: what it makes of the exception -/
def SE (X : Cx) (i : Nat) (e : Expr) (g : Exc → Option D) : Prop := ∃ te : Addr → Value → Option Addr → TE,
  (∀ (a : Addr) (oe : Obj) (cls : Value) (d : Option Addr) (pn : List (Addr × Obj)), Zc cls d oe → (∃ vs, oe.data = .fields vs) → PE (X.suite a ((a, oe) :: pn)) e (te a cls d)) ∧
  ∀ (h : Addr → Prop) (a : Addr) (cls : Value) (d : Option Addr) (σ : St) (H : Hp) (x : Exc) (z : D) (Q : VK), (∀ p, h p → ∃ o, H p = some o) → σ[i]? = some (some (V.ref a)) → ExcR X.K X.mg (hid h H) cls d x → g x = some z →
    (∀ v H', Same H H' → Rep X.K X.mg (hid h H') v z → Q v H') → te a cls d σ H Q
def xFld (cn fl : Str) : Exc → Option D := fun x => if x.c = cn then x.fs.lookup fl else none
def xK (d : D) : Exc → Option D := fun _ => some d
def xTup2 (g1 g2 : Exc → Option D) : Exc → Option D := fun x => match g1 x, g2 x with
  | some a, some b => some (.tup [a, b])
  | _, _ => none
theorem repF_look2 {K : PySem.W.Frag} {mg : Str → Option Value} {G : Hp} {fl : Str} {z : D} : ∀ {xs : List (Str × V)} {ds : List (Str × D)}, RepF K mg G xs ds → ds.lookup fl = some z → ∃ v, xs.lookup fl = some v ∧ Rep K mg G v z
  | _, _, .nil, h => by cases h
  | _, _, @RepF.cons _ _ _ k v vs d ds r t, h => by
    simp only [List.lookup] at h ⊢
    split at h
    · rename_i e
      cases h
      exact ⟨v, rfl, r⟩
    · exact repF_look2 t h
section
variable {X : Cx} {W : WX} {i jx : Nat} {n cn fl y cx : Str} {C : Addr} {p p1 p2 p3 p4 np pos pos' : Pos} {e e1 e2 : Expr} {g g1 g2 : Exc → Option D}
/-- the name's slot empty, the target written -/
def asEnd (i jx : Nat) (z : D) (s1 : S) : Out Fl := if (free s1 i && (free (s1.set i none) jx && free ((s1.set i none).set jx (some (.val z))) i)) = true then .ok .nx (((s1.set i none).set jx (some (.val z))).set i none) else .bad
def mTryAs (t : Str → Option Bool) (mb : MS) (i jx : Nat) (g : Exc → Option D) : MS := fun s => match mb s with
  | .exc x s1 => match t x.c with
    | some true => match g x with
      | some z => asEnd i jx z s1
      | none => .bad
    | some false => .exc x s1
    | none => .bad
  | o => o
end
end Den

set_option Elab.async false
set_option linter.all false
set_option maxRecDepth 100000
set_option maxHeartbeats 4000000
/-! isinstance(x, an own class) and own == where the other side may be a tuple; len of an own object -/
namespace Den
variable {hox : Option Addr}
open PySem PySem.Spec PyProof.Rows L2
def gIsiD (cn : Str) (d : D) : Option D := match d with
  | .obj c _ => if c = cn then some (.bl true) else none
  | .tup _ => some (.bl false)
  | _ => none
def mIsiD (cn : Str) (m : MD) : MD := mUn (gIsiD cn) m
section
variable {X : Cx} {W : WX} {C f : Addr} {e : Expr} {p py pos : Pos} {m : MD} {y : Str}
end
/-- what stands at the right of the own == -/
def RhsOk (C : Addr) (H : Hp) (y : V) : Prop := ∃ b, y = .ref b ∧ ((∃ dy gs, H b = some (.ins C dy gs)) ∨ ∃ ys, H b = some (.tup ys))
def rEqOT (K : PySem.W.Frag) (mg : Str → Option Value) (C : Addr) (F : FP) : R2 := fun x y H Q => ∃ a dx fs, x = .ref a ∧ H a = some (.ins C dx fs) ∧ RhsOk C H y ∧
  spP K mg 2 F [x, y] H (fun v H' => (∃ k, v = .bl k) ∧ Q v H') (fun _ _ _ => False)
def isOT (cn : Str) : D → Bool
  | .obj c _ => decide (c = cn)
  | .tup _ => true
  | _ => false
def gEqOT (cn : Str) (F : FP) (x y : D) : Option D := if (isOb cn x && isOT cn y) = true then match F [x, y] with
  | .ok (.val (.bl b)) _ => some (.bl b)
  | _ => none
  else none
section
variable {X : Cx} {k : Nat} {C f : Addr} {fd : FuncData} {ps : List Str} {F : FP}
end

/-- len of an own object -/
def rLenO (K : PySem.W.Frag) (mg : Str → Option Value) (C : Addr) (F : FP) : List V → Hp → VK → Prop := fun xs H Q => ∃ a dx fs, xs = [.ref a] ∧ H a = some (.ins C dx fs) ∧
  spP K mg 1 F [.ref a] H (fun v H' => (∃ n, v = .int n ∧ 0 ≤ n ∧ n < 4611686018427387904) ∧ Q v H') (fun _ _ _ => False)
def gLenO (cn : Str) (F : FP) : List D → Option D
  | [x] => if isOb cn x = true then match F [x] with
    | .ok (.val (.int n)) _ => if 0 ≤ n ∧ n < 4611686018427387904 then some (.int n) else none
    | _ => none
    else none
  | _ => none
section
variable {X : Cx} {k : Nat} {C f : Addr} {fd : FuncData} {ps : List Str} {F : FP}
end
end Den

set_option Elab.async false
set_option linter.all false
set_option maxRecDepth 100000
set_option maxHeartbeats 4000000
/-! text * int -/
namespace Den
variable {hox : Option Addr}
open PySem PySem.Spec PyProof.Rows L2
def strRep (a : Str) (k : Nat) : Str := ⟨(List.replicate k a.cps).foldl (· ++ ·) #[]⟩
def rMulS : R2 := fun x y H Q => ∃ a k, x = .str a ∧ y = .int k ∧ 2 ≤ k ∧ k ≤ 100 ∧ 1 ≤ a.length ∧ a.length ≤ 1000 ∧ Q (.str (strRep a k.toNat)) H
def gMulS : D → D → Option D
  | .str a, .int k => if (decide (2 ≤ k) && decide (k ≤ 100) && decide (1 ≤ a.length) && decide (a.length ≤ 1000)) = true then some (.str (strRep a k.toNat)) else none
  | _, _ => none
end Den

set_option Elab.async false
set_option linter.all false
set_option maxRecDepth 100000
set_option maxHeartbeats 4000000
/-! x in a constant dict, x any text -/
namespace Den
variable {hox : Option Addr}
open PySem PySem.Spec PyProof.Rows L2
/-- the dict's keys are all in the table -/
def keysB (K : PySem.W.Frag) (a : Addr) (tb : Tb) : Bool := match K.lookup a with
  | some ⟨_, _, .dict es _, _⟩ => es.toList.all fun e => match e.key with
    | .str k _ => (tb.lookup k).isSome && !e.refKey
    | _ => false
  | _ => false
def mKInA (neg : Bool) (tb : Tb) (m : MD) : MD := fun s => (m s).bind fun d s1 => match d with
  | .str z => match tb.lookup z with
    | some r => .ok (.bl (if neg = true then !r.isSome else r.isSome)) s1
    | none => .ok (.bl (if neg = true then true else false)) s1
  | _ => .bad
section
variable {X : Cx} {W : WX} {a : Addr} {tb : Tb} {e : Expr} {m : MD} {x : Str} {p pos : Pos}
end
end Den

set_option Elab.async false
set_option linter.all false
set_option maxRecDepth 100000
set_option maxHeartbeats 4000000
/-! x != e, x an own list that stays own -/
namespace Den
variable {hox : Option Addr}
open PySem PySem.Spec PyProof.Rows L2
def mNeO (i : Nat) (m : MD) : MD := fun s => match Den.mutL s i with
  | none => .bad
  | some _ => (m s).bind fun y s1 => match Den.mutL s1 i with
    | none => .bad
    | some (_, ds) => o2 (gNe (.lst ds) y) s1
section
variable {X : Cx} {W : WX} {b : Expr} {m : MD} {y : Str} {py pos : Pos}
end
section
variable {X : Cx} {W : WX} {a : Addr} {tb : Tb} {e : Expr} {m : MD} {x : Str} {p pos : Pos}
end
end Den

set_option Elab.async false
set_option linter.all false
set_option maxRecDepth 100000
set_option maxHeartbeats 4000000
/-! except X as n, the exception held as a thing of its own: it may be handed to defs -/
namespace Den
variable {hox : Option Addr}
open PySem PySem.Spec PyProof.Rows L2
/-- an object at a, told as it is -/
theorem exA_ok {P : Program} {w : World} {H : Hp} {h : Heap} {a : Addr} {oe : Obj} (e : h.get? a = some oe) : ObjOk P w H h a (ExA a oe) :=
  ⟨e, ⟨oe, e⟩, fun _ _ z k => k oe z⟩
section
variable {X : Cx} {pins : List (Addr × Obj)} {σ : St} {H : Hp}
/-- the clause has the exception: it is new to the body, and from now on it is told -/
theorem held_new {B : Heap} {sI s1 : Shared} {a : Addr} {oe : Obj} (I : Inv X pins σ H sI) (nb : ∀ b o, sI.heap.get? b = some o → b ∉ frs X.stack → B.get? b = some o) (st : B.StaysIn s1.heap) (hB : B.get? a = none)
    (up : sI.heap.UpToSlots s1.heap) (os : s1.os = sI.os) (ag : AllBare s1.gens) (ha : s1.heap.get? a = some oe) (na : H a = none) (nS : a ∉ frs X.stack) :
    Inv X pins σ (upd H a (ExA a oe)) s1 := by
  have new : sI.heap.get? a = none := by
    cases e : sI.heap.get? a with
    | none => rfl
    | some o =>
      have z := nb a o e nS
      rw [hB] at z
      cases z
  obtain ⟨G, g1, g2⟩ := restrict s1.heap fun b => decide (b ≠ a)
  have inG : ∀ b o, b ≠ a → s1.heap.get? b = some o → G.get? b = some o := fun b o hb e => (g1 b (decide_eq_true hb)).trans e
  have outG : G.get? a = none := g2 a (decide_eq_false fun z => z rfl)
  have fromG : ∀ b o, G.get? b = some o → s1.heap.get? b = some o := fun b o e => by
    have hb : b ≠ a := fun z => by rw [z, outG] at e; cases e
    exact (g1 b (decide_eq_true hb)).symm.trans e
  have stG : B.StaysIn G := fun b o e => inG b o (fun z => by rw [z, hB] at e; cases e) (st b o e)
  have upG : sI.heap.UpToSlots G := fun b o e hd => by
    obtain ⟨sl, z⟩ := up b o e hd
    exact ⟨sl, inG b _ (fun y => by rw [y, new] at e; cases e) z⟩
  have J : Inv X pins σ H { s1 with heap := G } := I.landed nb stG upG os ag
  exact J.laidN (h' := s1.heap) (t' := s1.toks) fromG outG na (exA_ok ha)
theorem Inv.inSuite (I : Inv X pins σ H s) (a : Addr) : Inv (X.suite a (X.pn ++ pins)) [] σ H s :=
  ⟨I.ok.suite _ _, I.os, I.bare, I.base, I.loc, I.cell, I.free, I.freeC, fun p hp => I.pin p (by simpa using hp), I.hok, I.len⟩
theorem Inv.offSuite {a : Addr} (I : Inv (X.suite a (X.pn ++ pins)) [] σ H s) (ok : X.Ok) : Inv X pins σ H s :=
  ⟨ok, I.os, I.bare, I.base, I.loc, I.cell, I.free, I.freeC, fun p hp => I.pin p (by simpa using hp), I.hok, I.len⟩
end
end Den

set_option Elab.async false
set_option linter.all false
set_option maxRecDepth 100000
set_option maxHeartbeats 4000000
/-! except X as n: .., clause by clause, the exception held -/
namespace Den
variable {hox : Option Addr}
open PySem PySem.Spec PyProof.Rows L2
/-- a clause: its class, its name's slot, its suite's wish -/
structure Cl where
  c : Value
  i : Nat
  ts : Addr → Obj → TS
/-- behind the suite the name is gone -/
def offN (D : Ends) (i : Nat) : Ends :=
  ⟨fun τ M => D.nx (τ.set i none) M, D.rt, fun τ M => D.bk (τ.set i none) M, fun τ M => D.ct (τ.set i none) M⟩
def wHeld (K : PySem.W.Frag) (W0 : WX) (D : Ends) : List Cl → WX
  | [] => W0
  | k :: r => fun cl dd τ M => ∃ b, PySem.W.exmOne K cl k.c = some b ∧
      (b = true → ∀ x oe, M x = none → L2N.Zn cl dd oe → (∃ vs, oe.data = .fields vs) →
        k.ts x oe (offN D k.i) (τ.set k.i (some (.ref x))) (upd M x (ExA x oe))) ∧
      (b = false → wHeld K W0 D r cl dd τ M)
inductive ClsOk (X : Cx) : List ExceptHandler → List Cl → Prop
  | nil : ClsOk X [] []
  | cons {y n : Str} {k : Cl} {st : Stmt} {more : List Stmt} {p1 p2 : Pos} {hds : List ExceptHandler} {l : List Cl} (hc : Names X y k.c) (hi : X.N[k.i]? = some n)
      (hl : X.env.kindOf n = some .local) (hsu : ∀ x oe pn, PSs (X.suite x pn) (st :: more) (k.ts x oe)) (r : ClsOk X hds l) :
      ClsOk X (.ExceptHandler (some (.Name y p1)) (some n) (st :: more) p2 :: hds) (k :: l)
section
variable {X : Cx} {body : List Stmt} {h0 : ExceptHandler} {hds : List ExceptHandler} {l : List Cl} {pos : Pos} {tb : WX → TS} {W0 : WX}
theorem ps_held (hs : X.stack = X.env :: X.outer) (hf : X.env.frame = some X.env.locals) (hN : X.N.Nodup) (tk : L2N.Takes X W0)
    (hb : ∀ (W : WX) (pn : List (Addr × Obj)) (xe : Value → Shared → Prop), L2N.Takes (X.tr pn xe) W →
      PassesOwn (model X.prog X.w) X.A X.env xe → PSs (X.tr pn xe) body (tb W))
    (hk : ClsOk X (h0 :: hds) l) : PS X (.Try body (h0 :: hds) [] [] pos) (fun D σ H => tb (wHeld X.K W0 D l) D σ H) := by
  refine ⟨fun qs s τ M D I wish => wpAny_Try_except ?_⟩
  have ok := I.ok
  have fr : X.A.frames = some (X.env :: X.outer) := ok.frames.trans (congrArg some hs)
  refine wpAny_mono (PSs.run (hb (wHeld X.K W0 D l) (X.pn ++ qs) _ ?_ PassesOwn.looking) [] s τ M D (I.toTry _) wish) ?_ (fun _ _ z => z)
  · rintro u s1 ⟨x, G, t, ps, τ1, M1, cl, dd, rfl, Y, below, grow, air, none1, os1, bare1, w1⟩
    have Y0 := Y.ofTry ok
    rw [show (X.tr (X.pn ++ qs) _).stack = X.env :: X.outer from hs] at air
    refine L2N.Sky.land L2N.Zn.steady fr hf air fun h2 fly grow2 => ?_
    obtain ⟨o2, v2, e2, z2, d2⟩ := fly.there
    have frame_no : ∀ {h : Heap} {o : Obj} {vs : Array Value}, h.FunFrames G (X.env :: X.outer) → h.get? x = some o → o.data = .fields vs → x ∉ frs (X.env :: X.outer) := by
      intro h o vs ff e dt m
      obtain ⟨_, o', e', no⟩ := ff.mem m
      cases e.symm.trans e'
      exact no _ dt
    have nS : x ∉ frs X.stack := by
      rw [hs]
      exact frame_no fly.2.2.1 e2 d2
    -- the clauses, one after the other
    suffices go : ∀ {hh : List ExceptHandler} {ll : List Cl}, ClsOk X hh ll → wHeld X.K W0 D ll cl dd τ1 M1 →
        wpAny (model X.prog X.w) X.A (handleBy (.ref x) X.env hh) (L2.SP X qs D) X.xe { s1 with heap := h2 } from go hk w1
    intro hh ll ck
    induction ck with
    | nil =>
      intro w
      refine wpAny_handleBy_nil ?_
      obtain ⟨_, _, _, oe, vs, T, _, _, he, _, hd, h1, _⟩ := id fly
      unfold PySem.passOn
      refine wpAny_bind (wpAny_field he hd h1 ?_)
      rw [if_neg (by simp)]
      have out : wpAny (model X.prog X.w) X.A (setFlight (.ref x) X.env.frame)
          (fun _ s4 => wpAny (model X.prog X.w) X.A (throw (.ref x) : Sem Flow) (L2.SP X qs D) X.xe s4) X.xe { s1 with heap := h2 } := by
        rw [hf]
        refine HandSPX.setFlight_upZ fly fun h3 held grow3 => wpAny_throw (tk _ _ ?_)
        exact ⟨x, G, t, qs, τ1, M1, cl, dd, rfl, Y0, below, (grow.trans grow2).trans grow3, .inr (.inr (by rw [hs]; exact held)), none1, os1, bare1, w⟩
      first
        | exact wpAny_bind (wpAny_pure (wpAny_bind out))
        | exact wpAny_bind out
    | @cons y n k st more p1 p2 hh2 ll2 hc hi hl hsu r ih =>
      rintro ⟨b, eb, yes, no⟩
      refine wpAny_handleBy_cons (codeAny_handlers_test ?_) (fun q => by cases q)
      have Y3 : Inv X qs τ1 (upd M1 x (ExA x o2)) { s1 with heap := h2 } := held_new Y0 below fly.1 fly.2.1 (grow.trans grow2) os1 bare1 e2 none1 nS
      have Y4 := Inv.inSuite Y3 x
      have LT : PySem.W.Looks (model X.prog X.w) h2 (typeOf (.ref x)) cl := fun A Q E s k q => wpAny_typeOf_ref (k _ _ e2) (by rw [z2.1]; exact q)
      have LM := PySem.W.exm_one (M := model X.prog X.w) Y3.kIn LT eb
      have ask : ∀ {Q E : Value → Shared → Prop}, Q k.c { s1 with heap := h2 } →
          wpAny (model X.prog X.w) (X.A.mark (some (.ref x))) (eval (.Name y p1) X.env) Q E { s1 with heap := h2 } := by
        intro Q E q
        rcases hc with ⟨hg, hd, hm | ⟨hm, hv, hn⟩⟩
        · exact ld_glob (X := X.suite x (X.pn ++ qs)) Y4 hg hm q hd
        · exact ld_blt (X := X.suite x (X.pn ++ qs)) Y4 hg hm hv q hn hd
      refine ask (LM.here ?_)
      cases b with
      | false => exact ih (no rfl)
      | true =>
        refine codeAny_handlers_suite_as (HandSPX.lands_againZ fly fun h3 fly3 grow3 => ?_)
        obtain ⟨o3, v3, e3, z3, d3⟩ := fly3.there
        have Y5 : Inv X qs τ1 (upd M1 x (ExA x o3)) { s1 with heap := h3 } :=
          held_new Y0 below fly3.1 fly3.2.1 ((grow.trans grow2).trans grow3) os1 bare1 e3 none1 nS
        refine store_ok (X := X.suite x (X.pn ++ qs)) (v := .ref x) (Inv.inSuite Y5 x) hN hi (.inl hl) rfl (fun s5 Y6 => ?_) (.inr hl)
        refine wpAny_mono ((hsu x o3 (X.pn ++ qs)).run [] s5 _ _ _ Y6 (yes rfl x o3 none1 z3 ⟨_, d3⟩)) ?_ (fun _ _ z => False.elim z)
        have bye : ∀ {τ6 : St} {M6 : Hp} {s6 : Shared} {Q : Shared → Prop}, Inv (X.suite x (X.pn ++ qs)) [] τ6 M6 s6 → (∀ s7, Inv X qs (τ6.set k.i none) M6 s7 → Q s7) →
            wpAny (model X.prog X.w) X.A (do bindName X.env n .none; unbindBehindTheSuite X.env n p2) (fun _ s7 => Q s7) X.xe s6 :=
          fun Z hq => gone_ok (Inv.offSuite Z ok) hN hi hl hq
        intro f s6 hsp
        cases f with
        | ret u =>
          obtain ⟨v6, τ6, M6, Z, r6, q6⟩ := hsp
          exact bye Z fun s7 Z7 => ⟨v6, _, M6, Z7, r6, q6⟩
        | next =>
          obtain ⟨τ6, M6, Z, q6⟩ := hsp
          exact bye Z fun s7 Z7 => ⟨_, M6, Z7, q6⟩
        | brk =>
          obtain ⟨τ6, M6, Z, q6⟩ := hsp
          exact bye Z fun s7 Z7 => ⟨_, M6, Z7, q6⟩
        | cont =>
          obtain ⟨τ6, M6, Z, q6⟩ := hsp
          exact bye Z fun s7 Z7 => ⟨_, M6, Z7, q6⟩
  · intro f s1 hsp
    cases f with
    | next =>
      obtain ⟨τ1, M1, Z, q⟩ := hsp
      exact wpAny_execs_nil ⟨τ1, M1, Z.ofTry ok, q⟩
    | ret u =>
      obtain ⟨v, τ1, M1, Z, r, q⟩ := hsp
      exact ⟨v, τ1, M1, Z.ofTry ok, r, q⟩
    | brk =>
      obtain ⟨τ1, M1, Z, q⟩ := hsp
      exact ⟨τ1, M1, Z.ofTry ok, q⟩
    | cont =>
      obtain ⟨τ1, M1, Z, q⟩ := hsp
      exact ⟨τ1, M1, Z.ofTry ok, q⟩
end
end Den

set_option Elab.async false
set_option linter.all false
set_option maxRecDepth 100000
set_option maxHeartbeats 4000000
/-! try: .. except X as n: .., each clause's suite whole, the exception a datum -/
namespace Den
variable {hox : Option Addr}
open PySem PySem.Spec PyProof.Rows L2
/-- a clause's mirror: which classes it takes, its name's slot, its suite -/
abbrev HC := (Str → Option Bool) × Nat × MS
def mOff (i : Nat) (s2 : S) (f : Fl) : Out Fl := match f with
  | .rt r => match r with
    | .val d => if free s2 i = true then .ok (.rt (.val d)) (s2.set i none) else .bad
    | _ => .bad
  | f => if free s2 i = true then .ok f (s2.set i none) else .bad
def mHdH : List HC → Exc → MS
  | [], x => fun s => .exc x s
  | k :: r, x => fun s => match k.1 x.c with
    | some true => if free s k.2.1 = true then match k.2.2 (s.set k.2.1 (some (.val (.exn x.c x.fs)))) with
        | .ok f s2 => mOff k.2.1 s2 f
        | _ => .bad
      else .bad
    | some false => mHdH r x s
    | none => .bad
def mTryH (b : MS) (l : List HC) : MS := fun s => match b s with
  | .exc x s1 => mHdH l x s1
  | o => o
/-- the suite's entry: the exception is there, and stays -/
def Ct.heat (c : Ct) (a : Addr) (oe : Obj) : Ct := { c with H0 := upd c.H0 a (ExA a oe) }
section
variable {K : PySem.W.Frag} {mg : Str → Option Value} {c : Ct} {s s2 : S} {σ τ : St} {H M : Hp} {D : Ends} {W : WX} {a : Addr} {oe : Obj}
theorem StR.heat (x : StR none K mg c s σ H) (ea : H a = some (ExA a oe)) (nh : ¬ hs c s σ a) (ct : CtxF oe) : StR (some a) K mg (c.heat a oe) s σ H := by
  have ne : ∀ {b : Addr}, hs c s σ b → b ≠ a := fun h z => nh (z ▸ h)
  have nA : ¬ c.A a := fun h => nh (.inl h)
  refine ⟨x.len, x.val, fun i o e => ?_, x.bor, x.brw, x.uni, x.bun, x.lnt, fun b o n e => ?_, fun p h => ?_, fun p ho e => ?_, fun b e => ?_⟩
  · obtain ⟨p, e1, n, r⟩ := x.own i o e
    refine ⟨p, e1, fun b f => ⟨(n b f).1, ?_⟩, r⟩
    show upd c.H0 a _ b = none
    rw [upd_ne (ne (.inr (.inr ⟨i, o, p, e, e1, f⟩)))]
    exact (n b f).2
  · by_cases z : b = a
    · subst z
      have e : upd c.H0 b (ExA b oe) b = some o := e
      rw [upd_same] at e
      rw [← e]; exact ea
    · have e : upd c.H0 a (ExA a oe) b = some o := e
      rw [upd_ne z] at e
      exact x.keep b o n e
  · obtain ⟨o, e⟩ := x.act p h
    refine ⟨o, ?_⟩
    show upd c.H0 a _ p = _
    rw [upd_ne (ne (.inl h))]; exact e
  · obtain ⟨h1, h2, h3, h4⟩ := x.tmp p ho e
    refine ⟨?_, h2, h3, h4⟩
    show upd c.H0 a _ p = none
    rw [upd_ne (ne (.inr (.inl ⟨ho, e⟩)))]; exact h1
  · cases e
    refine ⟨oe, upd_same, ct, fun h => ?_⟩
    obtain ⟨i, o, p, e1, e2, f⟩ := x.lnt a h
    obtain ⟨p', _, e4, k, _⟩ := x.bor i o e1
    rw [e2] at e4; cases e4
    exact nA (k a f).1
theorem StR.cool (x : StR (some a) K mg (c.heat a oe) s σ H) (na : c.H0 a = none) (ac : ∀ p, c.A p → ∃ o, c.H0 p = some o) : StR none K mg c s σ H := by
  have off : ∀ {b : Addr}, (c.heat a oe).H0 b = none → c.H0 b = none := fun {b} e => by
    have e : upd c.H0 a (ExA a oe) b = none := e
    by_cases z : b = a
    · subst z; exact na
    · rw [upd_ne z] at e; exact e
  refine ⟨x.len, x.val, fun i o e => ?_, x.bor, x.brw, x.uni, x.bun, x.lnt, fun b o n e => x.keep b o n ?_, ac, fun p ho e => ?_, fun b e => (by cases e)⟩
  · obtain ⟨p, e1, n, r⟩ := x.own i o e
    exact ⟨p, e1, fun b f => ⟨(n b f).1, off (n b f).2⟩, r⟩
  · show upd c.H0 a _ b = _
    rw [upd_ne (fun z => by rw [z, na] at e; cases e)]; exact e
  · obtain ⟨h1, h2, h3, h4⟩ := x.tmp p ho e
    exact ⟨off h1, h2, h3, h4⟩
theorem off_res {i : Nat} {r : Out Fl} (na : c.H0 a = none) (ac : ∀ p, c.A p → ∃ o, c.H0 p = some o) (h : match r with | .ok f s2 => ResS none K mg W c s σ H D (mOff i s2 f) | _ => False) : ResS (some a) K mg (fun _ _ _ _ => False) (c.heat a oe) s σ H (offN D i) r := by
  have off : ∀ {s2 : S} {τ : St} {M : Hp}, Go (some a) K mg (c.heat a oe) s σ H s2 τ M → Go none K mg c s σ H s2 τ M := fun g => ⟨g.1.cool na ac, g.2⟩
  cases r with
  | exc x s' => exact h.elim
  | bad => exact h.elim
  | ok f s2 =>
    simp only at h
    unfold mOff at h
    cases f with
    | nx =>
      by_cases e : free s2 i = true
      · simp only [e, if_true] at h
        exact fun τ M g => h _ _ ((off g).trans ((off g).1.put e none none (fun d e => by cases e) (.inr rfl)))
      · simp only [e] at h; exact h.elim
    | bk =>
      by_cases e : free s2 i = true
      · simp only [e, if_true] at h
        exact fun τ M g => h _ _ ((off g).trans ((off g).1.put e none none (fun d e => by cases e) (.inr rfl)))
      · simp only [e] at h; exact h.elim
    | ct =>
      by_cases e : free s2 i = true
      · simp only [e, if_true] at h
        exact fun τ M g => h _ _ ((off g).trans ((off g).1.put e none none (fun d e => by cases e) (.inr rfl)))
      · simp only [e] at h; exact h.elim
    | rt r =>
      cases r with
      | own o => exact h.elim
      | bor o => exact h.elim
      | val d =>
        by_cases e : free s2 i = true
        · simp only [e, if_true] at h
          refine fun v τ M g => h v (τ.set i none) M ?_
          have G := (off g.1).1.put e none none (fun d e => by cases e) (.inr rfl)
          exact ⟨(off g.1).trans G, Rep.mono G.2 g.2⟩
        · simp only [e] at h; exact h.elim
end
/-- the clauses held to the code -/
inductive HdOk (X : Cx) : List ExceptHandler → List HC → List Cl → Prop
  | nil : HdOk X [] [] []
  | cons {y n : Str} {c : Value} {t : Str → Option Bool} {i : Nat} {m : MS} {st : Stmt} {more : List Stmt} {p1 p2 : Pos} {hds : List ExceptHandler} {l : List HC} {ts : List Cl} (hc : Names X y c)
      (ht : ∀ n b, t n = some b → ∃ C, X.mg n = some (.ref C) ∧ PySem.W.exmOne X.K (.ref C) c = some b) (hi : X.N[i]? = some n) (hl : X.env.kindOf n = some .local)
      (hsu : ∀ x pn, SSs (some x) (X.suite x pn) W0 (st :: more) m) (r : HdOk X hds l ts) :
      HdOk X (.ExceptHandler (some (.Name y p1)) (some n) (st :: more) p2 :: hds) ((t, i, m) :: l) (⟨c, i, fun x _ => tS (some x) X.K X.mg W0 m⟩ :: ts)
theorem HdOk.ok {X : Cx} {hds : List ExceptHandler} {l : List HC} {ts : List Cl} (h : HdOk X hds l ts) : ClsOk X hds ts := by
  induction h with
  | nil => exact .nil
  | cons hc ht hi hl hsu r ih => exact .cons (k := ⟨_, _, _⟩) hc hi hl (fun x oe pn => hsu x pn) ih
theorem HdOk.wish {X : Cx} {hds : List ExceptHandler} {l : List HC} {ts : List Cl} (h : HdOk X hds l ts) {Wout : WX} {D : Ends} {x : Exc} {c : Ct} {s : S} {σ : St} {H : Hp} {cls : Value} {dd : Option Addr} (st : StR none X.K X.mg c s σ H)
    (r : ExcR X.K X.mg (vis c s σ H) cls dd x) (q : ResS none X.K X.mg Wout c s σ H D (mHdH l x s)) : wHeld X.K Wout D ts cls dd σ H := by
  induction h with
  | nil => exact q cls dd σ H (.refl st) r
  | @cons y n c0 t i m st0 more p1 p2 hds l ts hc ht hi hl hsu r0 ih =>
    unfold mHdH at q
    obtain ⟨⟨C, rfl, hC⟩, r2⟩ := id r
    cases e : t x.c with
    | none => simp only [e] at q; exact q.elim
    | some b =>
      obtain ⟨C', hC', hx⟩ := ht _ _ e
      rw [hC] at hC'; cases hC'
      refine ⟨b, hx, fun hb a oe na hz hf => ?_, fun hb => ?_⟩
      · subst hb
        simp only [e] at q
        by_cases fr : free s i = true
        · simp only [fr, if_true] at q
          have sm : Same H (upd H a (ExA a oe)) := same_new na
          have G1 := Go.grow st sm
          have nh : ¬ hs c s σ a := st.newHid na
          have hG : vis c s σ (upd H a (ExA a oe)) a = some (ExA a oe) := by
            show hid (hs c s σ) _ a = _
            rw [hid_no nh]; exact upd_same
          have ze : ExIs C dd oe := ⟨hz.1, hz.2.1, hf⟩
          have rx : Rep X.K X.mg (vis c s σ (upd H a (ExA a oe))) (.ref a) (.exn x.c x.fs) := by
            rcases (r.mono G1.2).2 with ⟨e1, e2⟩ | ⟨d, xs, e1, e2, e3⟩
            · rw [e1]; subst e2; exact .exn0 hC ze hG
            · subst e1; exact .exnD hC ze hG e2 e3
          have G2 := G1.1.put fr (some (.val (.exn x.c x.fs))) (some (V.ref a)) (fun d e => by cases e; exact ⟨_, rfl, rx⟩) (.inl ⟨_, rfl⟩)
          have G := G1.trans G2
          have na0 : c.H0 a = none := st.newBase na
          have nh2 : ¬ hs c (s.set i (some (.val (.exn x.c x.fs)))) (σ.set i (some (V.ref a))) a := fun z => by
            have k := G2.2
            have e0 : vis c (s.set i (some (.val (.exn x.c x.fs)))) (σ.set i (some (V.ref a))) (upd H a (ExA a oe)) a = some (ExA a oe) := k.ext a _ hG
            exact (hid_some e0).1 z
          refine ⟨c.heat a oe, _, G2.1.heat upd_same nh2 ⟨_, hf.choose_spec, hz.2.2 _ hf.choose_spec⟩, off_res (W := Wout) na0 st.act ?_⟩
          cases e2 : m (s.set i (some (.val (.exn x.c x.fs)))) with
          | ok f s2 =>
            rw [e2] at q
            exact ResS.after q G
          | exc y s' => rw [e2] at q; exact q.elim
          | bad => rw [e2] at q; exact q.elim
        · simp only [fr] at q; exact q.elim
      · subst hb
        simp only [e] at q
        exact ih q
section
variable {X : Cx} {W : WX} {pos : Pos}
theorem ss_held {body : List Stmt} {h₀ : ExceptHandler} {hds : List ExceptHandler} {mb : MS} {l : List HC} {ts : List Cl} (hs : X.stack = X.env :: X.outer) (hf : X.env.frame = some X.env.locals) (hN : X.N.Nodup) (tk : L2N.Takes X W)
    (hb : ∀ (W : WX) (pn : List (Addr × Obj)) (xe : Value → Shared → Prop), L2N.Takes (X.tr pn xe) W → PassesOwn (model X.prog X.w) X.A X.env xe → SSs none (X.tr pn xe) W body mb) (hh : HdOk X (h₀ :: hds) l ts) : SS none X W (.Try body (h₀ :: hds) [] [] pos) (mTryH mb l) :=
  PS.imp (ps_held (tb := fun W => tS none X.K X.mg W mb) hs hf hN tk hb hh.ok) fun D σ H ⟨c, s, st, q⟩ => ⟨c, s, st, by
    unfold mTryH at q
    cases e : mb s with
    | ok f s1 =>
      rw [e] at q
      cases f <;> exact q
    | exc x s1 =>
      rw [e] at q
      intro cls dd σ' H' g r
      exact hh.wish g.1 r (ResS.after q g)
    | bad => rw [e] at q; exact q⟩
end
end Den

set_option Elab.async false
set_option linter.all false
set_option maxRecDepth 100000
set_option maxHeartbeats 4000000
/-! a held exception: isinstance, its fields -/
namespace Den
variable {hox : Option Addr}
open PySem PySem.Spec PyProof.Rows L2
def excB (K : PySem.W.Frag) (D : Addr) : Bool :=
  decide (PySem.W.findIn K (.ref D) "__getattribute__" = some (some (.builtin "BaseException.__getattribute__"))) && (decide (PySem.W.findIn K (.ref D) "__getattr__" = some none) && (decide (PySem.W.subIn K (.ref D) (.type "BaseException") = some true) && (PySem.W.hasDictIn K D &&
  (decide (PySem.W.findIn K (.ref D) "__class__" = some (some (.builtin "object.__class__"))) && (decide (PySem.W.specialIn K (.builtin "object.__class__") "__get__" = some (some (.builtin "getset_descriptor.__get__"))) && (decide (PySem.W.takesIn K (.builtin "object.__class__") = some true) && decide (PySem.W.mroIn K D (.type "object") = some true)))))))
theorem excB_ok {K : PySem.W.Frag} {D : Addr} (h : excB K D = true) : ExcC K D := by
  obtain ⟨h1, h⟩ := Bool.and_eq_true_iff.mp h
  obtain ⟨h2, h⟩ := Bool.and_eq_true_iff.mp h
  obtain ⟨h3, h⟩ := Bool.and_eq_true_iff.mp h
  obtain ⟨h4, h⟩ := Bool.and_eq_true_iff.mp h
  obtain ⟨h5, h⟩ := Bool.and_eq_true_iff.mp h
  obtain ⟨h6, h⟩ := Bool.and_eq_true_iff.mp h
  obtain ⟨h7, h8⟩ := Bool.and_eq_true_iff.mp h
  exact ⟨of_decide_eq_true h1, of_decide_eq_true h2, of_decide_eq_true h3, h4, of_decide_eq_true h5, of_decide_eq_true h6, of_decide_eq_true h7, of_decide_eq_true h8⟩
/-- the machine's thing: a held exception of class C -/
def XAt (H : Hp) (a C : Addr) : Prop := ∃ (dd : Option Addr) (oe : Obj), ExIs C dd oe ∧ H a = some (ExA a oe) ∧ ∀ d, dd = some d → ∃ fs, H d = some (.xd fs)
theorem XAt.inst {X : Cx} {pins : List (Addr × Obj)} {σ : St} {H : Hp} {s : Shared} {a C : Addr} (I : Inv X pins σ H s) (h : XAt H a C) : ∃ ox od, PySem.W.InstAt s.heap a ox C od := by
  obtain ⟨dd, oe, z, ea, hd⟩ := h
  have hget : s.heap.get? a = some oe := (I.hok a _ ea).1
  obtain ⟨vs, hv⟩ := z.data
  have nc : PySem.W.notCls oe := by unfold PySem.W.notCls; rw [hv] <;> rfl
  cases dd with
  | none => exact ⟨oe, none, hget, z.cls, nc, by rw [z.dict]; trivial⟩
  | some d =>
    obtain ⟨fs, hf⟩ := hd d rfl
    have hx : ObjOk X.prog X.w H s.heap d (.xd fs) := I.hok d _ hf
    obtain ⟨mA, hns, hr⟩ := hx
    obtain ⟨od, ho, hl⟩ := lookIn_ns hns
    exact ⟨oe, some od, hget, z.cls, nc, by rw [z.dict]; exact ho⟩
def rIsX (K : PySem.W.Frag) : List V → Hp → VK → Prop := fun xs H Q => ∃ (a D : Addr) (c : V) (cv : Value) (b : Bool), xs = [.ref a, c] ∧ ExcC K D ∧ XAt H a D ∧ (∀ u, RelV c u → u = cv) ∧ PySem.W.kitOne K (.ref D) cv = some b ∧ Q (.bl b) H
theorem call_isX {X : Cx} : CallR X (.builtin "isinstance") (rIsX X.K) := by
  intro pins s σ H xs us Q I r h
  obtain ⟨a, D, c, cv, b, rfl, C, hx, hcv, e, q⟩ := h
  cases r with
  | cons rx rr =>
    cases rr with
    | cons rt rr =>
      cases rr
      cases rx
      have ec := hcv _ rt
      subst ec
      obtain ⟨ox, od, J⟩ := hx.inst I
      have hcl : (PySem.W.clsIn X.K D).isSome = true := by
        obtain ⟨cd, hc, _⟩ := PySem.W.any_some C.hd
        rw [hc]; rfl
      exact PySem.W.kia_one (PySem.W.kitx_exc hcl C.hg C.hk C.hs C.ha C.hn C.ht C.hm) I.kIn J e (fun z => nomatch z) fun tk => ⟨.bl b, H, I.kept (t' := tk) fun _ _ z => z, rfl, q⟩
def gIsX (t : Str → Option Bool) (d : D) : Option D := match d with
  | .exn c _ => match t c with
    | some b => some (.bl b)
    | none => none
  | _ => none
def mIsX (t : Str → Option Bool) (m : MD) : MD := mUn (gIsX t) m
theorem rep_exn {K : PySem.W.Frag} {mg : Str → Option Value} {h : Addr → Prop} {H : Hp} {v : V} {cn : Str} {fs : List (Str × D)} (r : Rep K mg (hid h H) v (.exn cn fs)) : ∃ a C, v = .ref a ∧ mg cn = some (.ref C) ∧ XAt H a C := by
  cases r with
  | exn0 m z g => exact ⟨_, _, rfl, m, none, _, z, (hid_some g).2, fun d e => by cases e⟩
  | exnD m z g hd r => exact ⟨_, _, rfl, m, some _, _, z, (hid_some g).2, fun d e => by cases e; exact ⟨_, (hid_some hd).2⟩⟩
section
variable {X : Cx} {W : WX} {e : Expr} {p py pos : Pos} {m : MD} {y : Str} {t : Str → Option Bool}
theorem sd_isXC {C : Addr} (ha : SD hox X W e m) (ht : ∀ n b, t n = some b → ∃ D, X.mg n = some (.ref D) ∧ ExcC X.K D ∧ PySem.W.kitOne X.K (.ref D) (.ref C) = some b) (hm : X.mg "isinstance" = none) (hC : X.mg y = some (.ref C)) (hg : Gl X "isinstance" := by rfl) (hgC : Gl X y := by rfl) (hdb : (y == ("__debug__" : Str)) = false := by decide)
    (he : starEach [e, .Name y py] X.env = (false, eval e X.env) :: starEach [.Name y py] X.env := by rfl) (he2 : starEach [.Name y py] X.env = (false, eval (.Name y py) X.env) :: starEach [] X.env := by rfl) (hpl : (backTo pos (starEach [.Name y py] X.env)).any (·.1) = false := by rfl)
    (hv : bootBuiltins "isinstance" = some (.builtin "isinstance") := by decide +kernel) : SD hox X W (.Call (.Name "isinstance" p) [e, .Name y py] [] pos) (mIsX t m) :=
  PE.imp (pe_callB call_isX hg hm hv (pa_cons ha (pa_cons (C8.pe_gc (v := V.ref C) hgC ⟨_, hC, rfl⟩ hdb) pa_nil he2) he) (by decide) (by decide) he hpl) fun σ H Q ⟨c, s, st, q⟩ => ⟨c, s, st, q.split.imp fun d s1 H1 g1 q1 v r => by
    cases d with
    | exn cn fs =>
      unfold o2 gIsX at q1
      cases z : t cn with
      | none => simp only [z] at q1; exact q1.elim
      | some b =>
        simp only [z] at q1
        obtain ⟨a, D, rfl, hD, hx⟩ := rep_exn r
        obtain ⟨D', hD', k, kk⟩ := ht _ _ z
        rw [hD] at hD'; cases hD'
        exact ⟨a, D, .ref C, .ref C, b, rfl, k, hx, fun u r => r, kk, q1 H1 (.refl g1.1) _ (.bl b)⟩
    | _ => exact q1.elim⟩
theorem sd_isXT (T : String) (ha : SD hox X W e m) (ht : ∀ n b, t n = some b → ∃ D, X.mg n = some (.ref D) ∧ ExcC X.K D ∧ PySem.W.kitOne X.K (.ref D) (.type T) = some b) (hm : X.mg "isinstance" = none) (hmT : X.mg y = none) (hT : bootBuiltins y = some (.type T)) (hg : Gl X "isinstance" := by rfl) (hgT : Gl X y := by rfl) (hn : y ≠ "__name__" := by decide) (hd : (y == ("__debug__" : Str)) = false := by decide)
    (he : starEach [e, .Name y py] X.env = (false, eval e X.env) :: starEach [.Name y py] X.env := by rfl) (he2 : starEach [.Name y py] X.env = (false, eval (.Name y py) X.env) :: starEach [] X.env := by rfl) (hpl : (backTo pos (starEach [.Name y py] X.env)).any (·.1) = false := by rfl)
    (hv : bootBuiltins "isinstance" = some (.builtin "isinstance") := by decide +kernel) : SD hox X W (.Call (.Name "isinstance" p) [e, .Name y py] [] pos) (mIsX t m) :=
  PE.imp (pe_callB call_isX hg hm hv (pa_cons ha (pa_cons (pe_bltn (v := .ty T) hgT hmT hT rfl hn hd) pa_nil he2) he) (by decide) (by decide) he hpl) fun σ H Q ⟨c, s, st, q⟩ => ⟨c, s, st, q.split.imp fun d s1 H1 g1 q1 v r => by
    cases d with
    | exn cn fs =>
      unfold o2 gIsX at q1
      cases z : t cn with
      | none => simp only [z] at q1; exact q1.elim
      | some b =>
        simp only [z] at q1
        obtain ⟨a, D, rfl, hD, hx⟩ := rep_exn r
        obtain ⟨D', hD', k, kk⟩ := ht _ _ z
        rw [hD] at hD'; cases hD'
        exact ⟨a, D, .ty T, .type T, b, rfl, k, hx, fun u r => r, kk, q1 H1 (.refl g1.1) _ (.bl b)⟩
    | _ => exact q1.elim⟩
/-! ### a field -/
def tXg (K : PySem.W.Frag) (n : Str) (te : TE) : TE := fun σ H Q => te σ H fun x H1 => ∃ (a C dd : Addr) (oe : Obj) (fs : List (Str × V)) (v : V), x = .ref a ∧ XfC K C ∧ PySem.W.findIn K (.ref C) n = some none ∧ ExIs C (some dd) oe ∧ H1 a = some (ExA a oe) ∧ H1 dd = some (.xd fs) ∧ fs.lookup n = some v ∧ Q v H1
theorem pe_xg {te : TE} {n : Str} (he : PE X e te) (hb : attributeBase e n X.env (eval e X.env) = eval e X.env := by rfl) : PE X (.Attribute e n pos) (tXg X.K n te) := by
  refine ⟨fun pins s σ H Q I h => ?_⟩
  refine attr_of hb (thn (he.run pins s σ H _ I h) fun u s1 hh => ?_)
  obtain ⟨x, H1, I1, rx, a, C, dd, oe, fs, v, ex, T, hno, z, ea, ed, l, q⟩ := hh
  subst ex
  obtain rfl : u = Value.ref a := rx
  have ha : s1.heap.get? a = some oe := (I1.hok a _ ea).1
  obtain ⟨vs, hd⟩ := z.data
  have hx : ObjOk X.prog X.w H1 s1.heap dd (.xd fs) := I1.hok dd _ ed
  obtain ⟨mA, hns, hr⟩ := hx
  obtain ⟨od, ho, hl⟩ := lookIn_ns hns
  obtain ⟨u, hu, ru⟩ := RelO.some_of (v := v) (o := mA n) (by rw [← l]; exact hr n)
  have J : PySem.W.InstAt s1.heap a oe C (some od) := ⟨ha, z.cls, by unfold PySem.W.notCls; rw [hd] <;> rfl, by rw [z.dict]; exact ho⟩
  exact HandSPX.exc_get I1.kIn J T.ga T.gg T.exC (PySem.W.findObj_own T.hdC hno rfl (by rw [hl, hu])) (handed_of ru) ⟨v, H1, I1.tok _, ru, q⟩
def gXf (cl : Str → Bool) (fl : Str) (d : D) : Option D := match d with
  | .exn c fs => if cl c = true then fs.lookup fl else none
  | _ => none
def mXf (cl : Str → Bool) (fl : Str) (m : MD) : MD := mUn (gXf cl fl) m
theorem sd_xf {cl : Str → Bool} {fl : Str} (ha : SD hox X W e m) (hcl : ∀ n, cl n = true → ∃ C, X.mg n = some (.ref C) ∧ XfC X.K C ∧ PySem.W.findIn X.K (.ref C) fl = some none)
    (hb : attributeBase e fl X.env (eval e X.env) = eval e X.env := by rfl) : SD hox X W (.Attribute e fl pos) (mXf cl fl m) :=
  PE.imp (pe_xg ha hb) fun σ H Q ⟨c, s, st, q⟩ => ⟨c, s, st, q.split.imp fun d s1 H1 g1 q1 v r => by
    cases d with
    | exn cn fs =>
      unfold o2 gXf at q1
      by_cases z : cl cn = true
      · simp only [if_pos z] at q1
        obtain ⟨C, hC, T, hno⟩ := hcl _ z
        cases e1 : fs.lookup fl with
        | none => simp only [e1] at q1; exact q1.elim
        | some d =>
          simp only [e1] at q1
          cases r with
          | exn0 m z g => cases e1
          | exnD m z g hd r =>
            rw [hC] at m; cases m
            obtain ⟨v, l, rv⟩ := repF_look2 r e1
            exact ⟨_, C, _, _, _, v, rfl, T, hno, z, (hid_some g).2, (hid_some hd).2, l, q1 H1 (.refl g1.1) _ rv⟩
      · simp only [if_neg z] at q1
        exact q1.elim
    | _ => exact q1.elim⟩
end
end Den

set_option Elab.async false
set_option linter.all false
set_option maxRecDepth 100000
set_option maxHeartbeats 4000000
/-! where an exception is handled: a list comprehension over range(..), all(..) of a list -/
namespace Den
variable {hox : Option Addr}
open PySem PySem.Spec PyProof.Rows L2
/-- the handled exception is told in H, its context None -/
def Hot (a : Addr) (H : Hp) : Prop := ∃ oe, H a = some (ExA a oe) ∧ CtxF oe
theorem StR.isHot {a : Addr} {K : PySem.W.Frag} {mg : Str → Option Value} {c : Ct} {s : S} {σ : St} {H : Hp} (x : StR (some a) K mg c s σ H) : Hot a H := by
  obtain ⟨oe, e, k, n⟩ := x.hot a rfl
  exact ⟨oe, x.keep a _ n e, k⟩
theorem Hot.at {X : Cx} {pins : List (Addr × Obj)} {σ : St} {H : Hp} {s : Shared} {a : Addr} (h : Hot a H) (hh : X.A.handled = some (.ref a)) (I : Inv X pins σ H s) : HotX.HotAt X.A a s.heap := by
  obtain ⟨oe, e, vs, e1, e2⟩ := h
  exact ⟨hh, oe, vs, (I.hok a _ e).1, e1, e2⟩
/-- an iterator over 0, 1, .. -/
structure RgIt (X : Cx) (iter : Expr) (wi : TI) : Prop where
  run : ∀ (pins : List (Addr × Obj)) (s : Shared) (σ : St) (H : Hp) (R : It → Hp → Prop), Inv X pins σ H s → wi σ H R → wpAny (model X.prog X.w) X.A (eval iter X.env) (fun v s1 => wpAny (model X.prog X.w) X.A (pyIter v)
    (fun iv s2 => ∃ (q : Addr) (n : Nat) (H2 : Hp), iv = .ref q ∧ Inv X pins σ H2 s2 ∧ IsRangeIter s2.heap q 0 (n : Int) 1 ∧ FpOk X pins H2 q ∧ R (Itr 0 n) H2) X.xe s1) X.xe s
section
variable {X : Cx}
theorem RgIt.imp {iter : Expr} {t t' : TI} (h : RgIt X iter t) (i : ∀ σ H R, t' σ H R → t σ H R) : RgIt X iter t' := ⟨fun pins s σ H R I q => h.run pins s σ H R I (i σ H R q)⟩
theorem rg_one {e : Expr} {ta : TA} {p pos : Pos} (hg : Gl X "range") (hm : X.mg "range" = none) (ha : PA X [e] ta) (hs : starEach [e] X.env = [(false, eval e X.env)]) : RgIt X (.Call (.Name "range" p) [e] [] pos) (iRng1 ta) := by
  constructor
  intro pins s σ H R I wish
  have args := ha.run pos pins s σ H _ I wish
  refine Call_ (ld_blt I hg hm boot_range (PyProof.Rows.callWith_type1 (thn args ?_) hs rfl))
  rintro us s1 ⟨vs, H1, J, rv, j, rfl, lo, hi, r⟩
  match us, rv with
  | _, .cons ⟨t, rfl⟩ .nil =>
    apply call_range_1
    refine wpAny_pyIter_range (IsRange.new ..) (small_one (by omega) (by omega) lo hi) ?_
    refine ⟨_, j.toNat, H1, rfl, J.kept fun b o z => Heap.get?_push_of_some _ (Heap.get?_push_of_some _ z), ?_, ?_, r⟩
    · have sz : Builtin.Range.rangeSize 0 j 1 = ((j.toNat : Nat) : Int) := by
        rw [rangeSize_one]
        split <;> omega
      rw [← sz]
      exact Heap.get?_push_size _ rfl
    · refine J.fpOk ?_ (J.hok.fresh ?_) <;> (rw [Heap.size_push]; exact Nat.le_succ _)
end
section
variable {X : Cx}
/-- [elt for tg in range(..) if ..], an exception being handled -/
theorem pe_lcT {a : Addr} {elt tg iter : Expr} {ifs : List Expr} {scope : Scope} {own : List (Str × Nat)} {pos : Pos} {wi : TI} {g : TG} {tt : TT} {te : TE} (hh : X.A.handled = some (.ref a)) (nd : X.N.Nodup) (hi : RgIt X iter wi) (ok : BlkOk X.N X.env.scope scope own)
    (hg : ∀ (s : Shared) (H : Hp) (C : Addr) (cl : List (Str × Addr)) (fp : List Addr), PG (X.blk s H scope (compEnvC scope cl C X.env) fp) tg g) (ht : ∀ (s : Shared) (H : Hp) (C : Addr) (cl : List (Str × Addr)) (fp : List Addr), PTs (X.blk s H scope (compEnvC scope cl C X.env) fp) ifs tt)
    (he : ∀ (s : Shared) (H : Hp) (C : Addr) (cl : List (Str × Addr)) (fp : List Addr), PE (X.blk s H scope (compEnvC scope cl C X.env) fp) elt te) (hs : ∀ x, foldedSetIterable iter X.env x = pure x) :
    PE X (.ListComp elt [⟨tg, iter, ifs, 0⟩] scope pos) (fun σ H Q => tLc wi g tt te (own.map (·.2)) σ H fun v H' => Hot a H' ∧ Q v H') := by
  constructor
  intro pins s σ H Q I wish
  rw [eval_ListComp]
  have clo : ∀ y ∈ scope.names, y.2 = .free → ∃ c, X.env.cells.lookup y.1 = some c := fun y hy e => I.ok.has _ ((ok.free y hy e).imp id id)
  refine wpAny_comprehension_free (use := none) rfl hs (closure_ok clo) ok.kind (fun y hy e => (ok.uniq y hy).trans (congrArg some e)) ?_
  refine thn (hi.run pins s σ H _ I wish) fun rv s1 made => thn made ?_
  rintro iv s2 ⟨q, cnt, H2, rfl, I2, at2, fp2, todo⟩
  refine wpAny_newObj_type (newEnv_comp ?_) (by show 0 ≤ sizeLine; decide)
  -- the list, at L
  obtain ⟨L, hL⟩ : ∃ L, L = s2.heap.objs.size := ⟨_, rfl⟩
  have qlt : q < s2.heap.objs.size := Heap.lt_size at2
  obtain ⟨W, ⟨m0, w0⟩, step⟩ := todo L (I2.hok.fresh (Nat.le_of_eq hL.symm))
  obtain ⟨s3, e3⟩ : ∃ s3 : Shared, s3 = { s2 with heap := s2.heap.push { cls := .type "list", data := .seq ([] : List Value).toArray } } := ⟨_, rfl⟩
  have up3 : ∀ b o, s2.heap.get? b = some o → s3.heap.get? b = some o := fun b o z => by rw [e3]; exact Heap.get?_push_of_some _ z
  have I3 : Inv X pins σ (upd H2 L (.lst [])) s3 := by
    rw [e3]
    refine I2.laid (t' := s2.toks) (fun b o z => Heap.get?_push_of_some _ z) (Nat.le_of_eq hL.symm) ⟨Nat.zero_le _, [], 0, .nil, ?_⟩
    subst hL
    exact Heap.get?_push_size _ rfl
  have nqL : q ≠ L := fun z => by rw [z, hL] at qlt; exact absurd qlt (Nat.lt_irrefl _)
  have at3 := up3 _ _ at2
  have fq3 : FpOk X pins (upd H2 L (.lst [])) q := ⟨by rw [upd_ne nqL]; exact fp2.1, fp2.2⟩
  have I4 := block_start (fp := [q]) I3 ok nd fun b hb => by
    rw [List.mem_singleton.mp hb]
    exact ⟨fq3, Heap.lt_size at3⟩
  have A1 := hg s3 (upd H2 L (.lst [])) s3.heap.objs.size (cellsFrom (s3.heap.objs.size + 1) scope.names (cloFrom X.env.cells scope.names [])) [q]
  have A2 := ht s3 (upd H2 L (.lst [])) s3.heap.objs.size (cellsFrom (s3.heap.objs.size + 1) scope.names (cloFrom X.env.cells scope.names [])) [q]
  have A3 := he s3 (upd H2 L (.lst [])) s3.heap.objs.size (cellsFrom (s3.heap.objs.size + 1) scope.names (cloFrom X.env.cells scope.names [])) [q]
  rw [← e3, ← hL]
  show codeAny _ _ (.compStart (.ListComp elt [⟨tg, iter, ifs, 0⟩] scope pos) 0 (.ref q) (.ref L) (compEnvC scope (cellsFrom (s3.heap.objs.size + 1) scope.names (cloFrom X.env.cells scope.names [])) s3.heap.objs.size X.env))
    (compPost (model X.prog X.w) X.A X.xe none (EP X pins σ Q) (.ref L) s3.heap.objs.size) { s3 with heap := pushCells (s3.heap.push { cls := .type "dict", data := .dict #[] }) scope.names }
  obtain ⟨env, ee⟩ : ∃ env, env = compEnvC scope (cellsFrom (s3.heap.objs.size + 1) scope.names (cloFrom X.env.cells scope.names [])) s3.heap.objs.size X.env := ⟨_, rfl⟩
  have eL : env.locals = s3.heap.objs.size := by rw [ee]; rfl
  rw [← ee] at I4 A1 A2 A3 ⊢
  obtain ⟨H3, eH⟩ : ∃ H3, H3 = upd H2 L (.lst []) := ⟨_, rfl⟩
  rw [← eH] at I3 I4 A1 A2 A3 fq3 w0
  obtain ⟨s4, e4⟩ : ∃ s4 : Shared, s4 = { s3 with heap := pushCells (s3.heap.push { cls := .type "dict", data := .dict #[] }) scope.names } := ⟨_, rfl⟩
  rw [← e4] at I4 ⊢
  have at4 : IsRangeIter s4.heap q 0 (cnt : Int) 1 := by
    rw [e4]
    exact pushCells_keeps _ _ _ _ (Heap.get?_push_of_some _ at3)
  -- the block's state ahead of turn i
  have qfp : ∀ {σ' : St} {H' : Hp} {s' : Shared}, Inv (X.blk s3 H3 scope env [q]) [] σ' H' s' → H' q = none → FpOk (X.blk s3 H3 scope env [q]) [] H' q := fun {σ' H' s'} J nq => by
    have mq : q ∈ (X.blk s3 H3 scope env [q]).ex := List.mem_singleton.mpr rfl
    exact ⟨nq, (J.ok.exf q mq).1, J.ok.exfs q mq, .inl mq, fun x c z => (J.ok.exf q mq).2 x c z, fun p hp => by cases hp⟩
  have loop : codeAny (model X.prog X.w) X.A (.compLoop (.ListComp elt [⟨tg, iter, ifs, 0⟩] scope pos) 0 (.ref q) (.ref L) env) (compPost (model X.prog X.w) X.A X.xe none (EP X pins σ Q) (.ref L) s3.heap.objs.size) s4 := by
    refine compLoop_any (fun m s' => ∃ (i : Nat) (H' : Hp), Inv (X.blk s3 H3 scope env [q]) [] (wipe σ (own.map (·.2))) H' s' ∧ IsRangeIter s'.heap q (i : Int) ((cnt : Int) - (i : Int)) 1 ∧ H' q = none ∧ W i m H') ?_ m0
      ⟨0, H3, I4, by simpa using at4, fq3.1, w0⟩
    rintro m s5 ⟨i, H5, I5, at5, n5, w5⟩
    rcases step i m H5 w5 with ⟨stop, hot, qq⟩ | ⟨go, Nx, next, turn⟩
    · -- the end
      have hot5 := hot.at (X := X.blk s3 H3 scope env [q]) hh I5
      refine HotX.pyNext_range_end_hot hot5 at5 (by have : cnt ≤ i := stop; omega) fun h' up => ?_
      obtain ⟨g0, g1, g2, g3, g4, g5⟩ := qfp I5 n5
      have I6 : Inv (X.blk s3 H3 scope env [q]) [] (wipe σ (own.map (·.2))) H5 { s5 with heap := h' } := I5.turned (t' := s5.toks) (fun b o _ z => up b o z) g0 g1 g3 g4 g5
      have I7 : Inv X pins σ H5 { s5 with heap := h' } := I3.call' (ch := [q]) I6.os I6.base I6.hok I6.bare fun b hb => by
        rw [List.mem_singleton.mp hb]
        exact ⟨fq3.2.2.2.1, fq3.2.1, fq3.2.2.2.2.1, fq3.2.2.2.2.2⟩
      have nC : H5 s3.heap.objs.size = none := by rw [← eL]; exact I6.free
      obtain ⟨mm, ns, _⟩ := I6.loc
      have ns : Heap.Ns h' env.locals mm := ns
      rw [eL] at ns
      obtain ⟨k0, k1, k2, k3, k4, k5⟩ := I3.fpOk (Nat.le_refl _) nC
      exact ⟨mm, ns, fun h'' sb => ⟨.ref L, H5, I7.turned (t' := s5.toks) (fun b o hb z => (sb.2 b hb).trans z) k0 k1 k3 k4 k5, rfl, qq⟩⟩
    · -- a turn
      have lt : i < cnt := go
      refine wpAny_pyNext_range_item at5 (by omega) fun h' st' sb => ?_
      obtain ⟨g0, g1, g2, g3, g4, g5⟩ := qfp I5 n5
      have at6 : IsRangeIter h' q ((i + 1 : Nat) : Int) ((cnt : Int) - ((i + 1 : Nat) : Int)) 1 := by
        have z1 : (i : Int) + 1 = ((i + 1 : Nat) : Int) := by omega
        have z2 : (cnt : Int) - (i : Int) - 1 = (cnt : Int) - ((i + 1 : Nat) : Int) := by omega
        rw [z1, z2] at st'
        exact st'
      have I6 : Inv (X.blk s3 H3 scope env [q]) [] (wipe σ (own.map (·.2))) H5 { s5 with heap := h', toks := s5.toks + 1 } := I5.turned (fun b o hb z => (sb.2 b hb).trans z) g0 g1 g3 g4 g5
      refine go_of (s := { s5 with heap := h', toks := s5.toks + 1 }) (n := "range_iterator") at6 rfl rfl (by decide) ?_
      have I6' := I6.pinned (fp := [q]) (fun b hb => by rw [List.mem_singleton.mp hb]; exact qfp I6 n5) (fun b hb => by
        rw [List.mem_singleton.mp hb]
        exact ⟨_, at6, fun v z => by cases z⟩)
      have yv : (Itr 0 cnt).yld i H5 (.int (i : Int)) H5 := ⟨rfl, by rw [Int.zero_add]⟩
      refine thnF (A1.run _ _ _ H5 (.int (i : Int)) _ _ I6' ⟨s5.toks, rfl⟩ (turn _ H5 yv)) ?_
      rintro _ s8 ⟨σ8, H8, I8, same, q8⟩
      refine thnF (A2.run _ s8 σ8 H8 _ I8 q8) ?_
      rintro b s9 ⟨H9, I9, q9⟩
      have over : ∀ {s' : Shared} {H' : Hp}, Inv (X.blk s3 H3 scope env [q]) ([] ++ pinsAt [q] h') σ8 H' s' → Nx H' →
          ∃ m', m' < m ∧ ∃ (i : Nat) (H' : Hp), Inv (X.blk s3 H3 scope env [q]) [] (wipe σ (own.map (·.2))) H' s' ∧ IsRangeIter s'.heap q (i : Int) ((cnt : Int) - (i : Int)) 1 ∧ H' q = none ∧ W i m' H' := fun {s' H'} J nx => by
        obtain ⟨m', less, w'⟩ := next H' nx
        have pq := J.pin (q, _) (List.mem_append_right _ (List.mem_append_right _ (mem_pinsAt (List.mem_singleton.mpr rfl) at6)))
        refine ⟨m', less, i + 1, H', (J.unpinned (pins := [])).weak (by rw [← same, wipe_length]) (fun j v z => ?_), pq.1, pq.2.1, w'⟩
        rw [← same] at z
        exact (wipe_some z).1
      cases b with
      | false =>
        rw [if_neg Bool.false_ne_true] at q9 ⊢
        exact over I9 q9
      | true =>
        rw [if_pos rfl] at q9 ⊢
        refine thnF (A3.run _ s9 σ8 H9 _ I9 q9) ?_
        rintro z s10 ⟨y, H10, I10, r10, acc, atL, few, nx⟩
        exact app_ok (X := X.blk s3 H3 scope env [q]) I10 atL few r10 fun s11 I11 => over I11 nx
  exact codeAny_compStart_list loop (wpAny_pyIter_rangeiter at4 loop)
end
/-! ### all(..) of a list -/
section
variable {prog : Program} {w : World} {A : Around} {E : Value → Shared → Prop} {s : Shared}
theorem lend_hot {it l x1 : Addr} {i : Nat} {items : Array Value} {Q : Option Value → Shared → Prop} (hot : HotX.HotAt A x1 s.heap) (ne : x1 ≠ it) (hit : s.heap.IsListIter it l i) (hl : s.heap.IsList l items) (out : items[i]? = none)
    (q : ∀ h', (∀ b o, b ≠ it → s.heap.get? b = some o → h'.get? b = some o) → Q none { s with heap := h' }) : wpAny (model prog w) A (pyNext (.ref it)) Q E s := by
  obtain ⟨oi, geti, _, dati⟩ := id hit
  obtain ⟨ol, getl, _, nl, datl⟩ := hl
  have nn : ¬ ((Value.ref l == Value.none) = true) := Bool.false_ne_true
  unfold pyNext
  have body := fun Q' E' z => wpAny_callSpecial?_slot (M := model prog w) (A := A) (Q := Q') (E := E') (name := Str.ofString "__next__") hit.typeIs slot_listiter_next (wpAny_call_entry slot_listiter_next hit.typeIs entry_listiter_next z (args_listiter_next _))
  refine wpAny_bind (wpAny_attempt (body _ _ ?_))
  show wpAny _ _ (do let v ← field (.ref it) 0; _) _ _ s
  refine wpAny_bind (wpAny_field (x := .ref l) geti dati rfl ?_)
  show wpAny _ _ (ite ((Value.ref l == Value.none) = true) _ _) _ _ s
  rw [if_neg nn]
  show wpAny _ _ (do let v ← field (.ref it) 1; _) _ _ s
  refine wpAny_bind (wpAny_field (x := .int i 0) geti dati rfl ?_)
  show wpAny _ _ (do let v ← seqItems? (.ref l); _) _ _ s
  refine wpAny_bind (wpAny_seqItems getl datl ?_)
  rw [Int.toNat_natCast]
  simp only [out]
  refine wpAny_bind (wpAny_rule (wpAny_bind (wpAny_setField geti dati (by simp) ?_)))
  show wpAny _ _ (do let e ← newExc (.type "StopIteration") []; _) _ _ _
  refine wpAny_bind ?_
  simp only [newExc, newTuple]
  refine wpAny_bind (wpAny_newObj_type (wpAny_bind (m := firstArgMember _ _) (wpAny_of_eq (a := Value.none) (by first | rfl | (simp only [firstArgMember]; rfl)) (wpAny_newObj_type ?_ (by size_fits)))) (by size_fits))
  obtain ⟨hh, oe, vs, g1, g2, g3⟩ := hot
  have up1 : ∀ b o, b ≠ it → s.heap.get? b = some o → (s.heap.update it (Obj.mapFields (·.setIfInBounds 0 .none))).get? b = some o := fun b o nb z => (Heap.get?_update_other s.heap _ (Ne.symm nb)).trans z
  have g1' := up1 _ _ ne g1
  have g4 := fun (o1 o2 : Obj) => Heap.get?_push_of_some o2 (Heap.get?_push_of_some o1 g1')
  refine HotX.raiseNew_hot ⟨hh, oe, vs, g4 _ _, g2, g3⟩ (Nat.ne_of_lt (Heap.lt_size (Heap.get?_push_of_some _ g1'))) (Heap.get?_push_size _ rfl) rfl (by first | (simp; done) | (simp; omega) | (simp only [Array.size_append]; simp; omega)) ?_
  refine wpAny_bind (wpAny_isInstance (T := "StopIteration") (b := true) ⟨_, Heap.get?_update_self _ (Heap.get?_push_size _ rfl) rfl, rfl⟩ isSubtype_stop (wpAny_pure (q _ fun b o nb z => ?_)))
  have z1 := Heap.get?_push_of_some { cls := Value.type "tuple", data := .seq #[] } (up1 b o nb z)
  rw [Heap.get?_update_other _ _ (Nat.ne_of_gt (Heap.lt_size z1))]
  exact Heap.get?_push_of_some _ z1
end
end Den

set_option Elab.async false
set_option linter.all false
set_option maxRecDepth 100000
set_option maxHeartbeats 4000000
/-! where an exception is handled: all(..), comprehensions, calls of defs -/
namespace Den
variable {hox : Option Addr}
open PySem PySem.Spec PyProof.Rows L2
theorem walks_hot {prog : Program} {w : World} {A : Around} {x1 it l : Addr} {oe : Obj} {vs : Array Value} (hh : A.handled = some (.ref x1)) (d : oe.data = .fields vs) (c : vs[2]? = some .none) (n1 : x1 ≠ it) (n2 : l ≠ it) (items : Array Value) :
    Walks prog w A it [it, l, x1] [it] items.size (fun i v => items[i]? = some v) (fun i h => (h.IsListIter it l i ∧ h.IsList l items) ∧ h.get? x1 = some oe) := by
  have only : ∀ {b : Addr}, b ∉ [it] → b ≠ it := fun nb z => nb (by rw [z]; exact List.mem_singleton.mpr rfl)
  refine ⟨fun b hb => ?_, fun i h h' st k => ?_, fun i s Q E hi st q => ?_, fun s Q E st q => ?_, fun i s Q E st q => wpAny_pyIter_listiter st.1.1 q⟩
  · rw [List.mem_singleton.mp hb]
    exact List.mem_cons_self
  · exact ⟨⟨st.1.1.at fun o z => k it (by simp) o z, st.1.2.at fun o z => k l (by simp) o z⟩, k x1 (by simp) oe st.2⟩
  · have here : items[i]? = some items[i] := by simp [hi]
    refine wpAny_pyNext_list_item st.1.1 st.1.2 here fun h' next same => q _ h' s.toks here ⟨⟨next, st.1.2.extBut same.extBut n2⟩, (same.2 x1 n1).trans st.2⟩ ?_
    exact fun b o nb z => (same.2 b (only nb)).trans z
  · refine lend_hot ⟨hh, oe, vs, st.2, d, c⟩ n1 st.1.1 st.1.2 (by simp) fun h' k => q h' s.toks fun b o nb z => k b o (only nb) z
section
variable {X : Cx} {a : Addr}
theorem call_allT (hh : X.A.handled = some (.ref a)) : CallR X (.builtin "all") (fun xs H Q => Hot a H ∧ rAll X.K xs H Q) := by
  rintro pins s σ H vs us Q I r ⟨⟨oe, ea, ws, d, c⟩, l, bs, rfl, seq, q⟩
  obtain ⟨its, rv, hl, _⟩ := I.list seq
  have bools := rv.bls
  have exc : s.heap.get? a = some oe := (I.hok a _ ea).1
  rw [Vals.ref1 r]
  refine call_all_walk (iter_any hl.isList ?_)
  rintro s2 rfl st ne
  have n1 : a ≠ s.heap.objs.size := Nat.ne_of_lt (Heap.lt_size exc)
  refine ⟨_, _, _, _, _, _, _, rfl, walks_hot (A := X.A.in1) hh d c n1 ne its.toArray, ⟨st, Heap.get?_push_of_some _ exc⟩, truth_bools bools, fun h' tk keep => ⟨.bl _, H, ?_, ?_, q⟩⟩
  · refine I.kept fun b o z => keep b o (fun m => ?_) (Heap.get?_push_of_some _ z)
    have e := List.mem_singleton.mp m
    rw [e] at z
    exact absurd (Heap.lt_size z) (Nat.lt_irrefl _)
  · show Value.bool _ = Value.bool (bs.all id)
    rw [← L2.all_range, bools, List.size_toArray, List.length_map]
variable {W : WX} {e : Expr} {es : List Expr} {ml : ML} {p pos : Pos}
theorem sd_allT (hh : X.A.handled = some (.ref a)) (hG : Gl X "all") (hm : X.mg "all" = none) (hv : bootBuiltins "all" = some (.builtin "all")) (ha : SL (some a) X W (e :: es) ml)
    (he : starEach (e :: es) X.env = (false, eval e X.env) :: starEach es X.env := by rfl) (hpl : (backTo pos (starEach es X.env)).any (·.1) = false := by rfl) : SD (some a) X W (.Call (.Name "all" p) (e :: es) [] pos) (mApp gAll ml) :=
  PE.imp (pe_callB (call_allT hh) hG hm hv ha (by decide) (by decide) he hpl) fun σ H Q ⟨c, s, st, q⟩ => ⟨c, s, st, q.split.imp fun ds s1 H1 g1 q1 vs rs => by
    refine ⟨g1.1.isHot, ?_⟩
    unfold o2 at q1
    cases z : gAll ds with
    | none => simp only [z] at q1; exact q1.elim
    | some dz =>
      simp only [z] at q1
      exact rc_all _ H1 _ ds dz Q (st_hid g1.1) rs z fun u H' sm ru => q1 H' (.grow g1.1 sm) u ru⟩
/-- what is not reached -/
def mDead {α : Type} : S → Out α := fun _ => .bad
theorem sss_dead {st : List Stmt} : SSs hox X W st mDead := ⟨fun _ _ _ _ _ _ ⟨_, _, _, q⟩ => q.elim⟩
/-! ### a comprehension over range(..) -/
abbrev SR (hox : Option Addr) (X : Cx) (W : WX) (iter : Expr) (m : MI) : Prop := RgIt X iter (tI hox X.K X.mg W m)
theorem sr_1T (hg : Gl X "range") (hm : X.mg "range" = none) (ha : SL hox X W [e] ml) (hs : starEach [e] X.env = [(false, eval e X.env)] := by rfl) : SR hox X W (.Call (.Name "range" p) [e] [] pos) (iR1 ml) :=
  RgIt.imp (rg_one hg hm ha hs) fun σ H R ⟨c, t, st, q⟩ => ⟨c, t, st, q.split.imp fun ds t1 H1 g1 q1 vs rs => by
    rcases iR1_inv (ds := ds) (t := t1) rfl with z | ⟨j, rfl, f, z⟩
    · rw [z] at q1; exact q1.elim
    · rw [z] at q1
      match vs, rs with
      | _, .cons r1 .nil =>
        cases r1
        exact ⟨j, rfl, (i62_iff f).1, (i62_iff f).2, q1 H1 (.refl g1.1) _ itOk_r⟩⟩
theorem hot_up {m : MO} {σ : St} {H : Hp} {Q : VK} (h : tO (some a) X.K X.mg W m σ H Q) : tO (some a) X.K X.mg W m σ H fun v H' => Hot a H' ∧ Q v H' := by
  obtain ⟨c, s, st, q⟩ := h
  refine ⟨c, s, st, ?_⟩
  cases e : m s with
  | ok r s' =>
    rw [e] at q
    intro v H' g
    refine ⟨?_, q v H' g⟩
    cases r with
    | val d => exact g.1.1.isHot
    | own o => obtain ⟨p, ho, _, _, _, st', _⟩ := g; exact st'.unext.isHot
    | bor o => exact g.elim
  | exc x s' => rw [e] at q; exact q
  | bad => rw [e] at q; exact q
theorem so_lcT {elt tg iter : Expr} {ifs : List Expr} {scope : Scope} {js : List Nat} {mi : MI} {g : MG} {tt : MB} {te : MD} (own : List (Str × Nat)) (hh : X.A.handled = some (.ref a)) (hN : X.N.Nodup) (hi : SR (some a) X W iter mi) (ok : BlkOk X.N X.env.scope scope own)
    (hg : ∀ (s : Shared) (H : Hp) (C : Addr) (cl : List (Str × Addr)) (fp : List Addr), SG (some a) (X.blk s H scope (compEnvC scope cl C X.env) fp) js tg g)
    (ht : ∀ (s : Shared) (H : Hp) (C : Addr) (cl : List (Str × Addr)) (fp : List Addr), STs (some a) (X.blk s H scope (compEnvC scope cl C X.env) fp) W0 ifs tt)
    (he : ∀ (s : Shared) (H : Hp) (C : Addr) (cl : List (Str × Addr)) (fp : List Addr), SD (some a) (X.blk s H scope (compEnvC scope cl C X.env) fp) W0 elt te) (hj : ∀ j ∈ js, j ∈ own.map (·.2) := by decide) (hs : ∀ x, foldedSetIterable iter X.env x = pure x := by intro _; rfl) :
    SO (some a) X W (.ListComp elt [⟨tg, iter, ifs, 0⟩] scope pos) (mComp (own.map (·.2)) mi g tt te) :=
  PE.imp (pe_lcT hh hN hi ok hg ht he hs) fun σ H Q h => lc_imp hj (hot_up h)
end
end Den

set_option Elab.async false
set_option linter.all false
set_option maxRecDepth 100000
set_option maxHeartbeats 4000000
/-! defs called where an exception is handled -/
namespace Den
variable {hox : Option Addr}
open PySem PySem.Spec PyProof.Rows L2
/-- what such a def promises; it lets no exception out -/
def FnT (P : Program) (w : World) (K : PySem.W.Frag) (mg : Str → Option Value) (base : Heap) (k : Nat) (f : Addr) (fd : FuncData) (ps : List Str) (n : Nat) (F : FP) : Prop :=
  ∀ (a : Addr) (A : Around) (outer : List Env) (s : Shared) (H : Hp) (args : Args) (us : List Value) (vs : List V) (Q : VK), L2H.RoomH k A → A.handled = some (.ref a) → Hot a H → Env0 P w K mg base A outer s H → BindsTo s fd args (ps.zip us) → Vals vs us →
    spP K mg n F vs H Q (fun _ _ _ => False) → codeAny (model P w) A (.call (.ref f) args) (fun r s' => ∃ u, r = .ok (.ret u) ∧ CE outer P w H s Q u s') s
/-- its body's context -/
def cxT (P : Program) (w : World) (K : PySem.W.Frag) (mg : Str → Option Value) (base : Heap) (N : List Str) (qual : Str) (scope : Scope) (f : Addr) (cd : Value) (A : Around) (outer : List Env) (s : Shared) (H : Hp) : Cx :=
  { cxOf (L2N.CX P w) P w K mg base N qual scope f cd A outer s H (fun _ _ _ => False) with calm := false, xe := fun _ _ => False }
section
variable {P : Program} {w : World} {K : PySem.W.Frag} {mg : Str → Option Value} {base : Heap} {k : Nat} {f : Addr} {fd : FuncData} {N ps : List Str} {x qual : Str} {st : Stmt} {m : MS} {n : Nat} {F : FP}
theorem FnT.mono {j : Nat} (h : FnT P w K mg base j f fd ps n F) (l : j ≤ k) : FnT P w K mg base k f fd ps n F := fun a A outer s H args us vs Q r => h a A outer s H args us vs Q (r.mono l)
theorem never_T : FnT P w K mg base k f fd ps n (fun _ => .bad) := fun a A outer s H args us vs Q _ _ _ _ _ _ ⟨_, _, _, _, _, q⟩ => q.elim
theorem inv_cool {scope : Scope} {cd : Value} {A A' : Around} {outer : List Env} {s s1 : Shared} {H H1 : Hp} {E : XK} {CX : CXT} {pins : List (Addr × Obj)} {σ : St} (I : Inv (cxOf CX P w K mg base N qual scope f cd A' outer s H E) pins σ H1 s1) (fr : A.frames = some outer) :
    Inv (cxT P w K mg base N qual scope f cd A outer s H) pins σ H1 s1 := by
  have o := I.ok
  exact ⟨⟨o.mod, o.kind, o.glob, o.blt, o.above, o.inj, o.has, o.cab, (fun z => Bool.noConfusion (show false = true from z)), Around.frames_deeper fr, o.stk, o.exf, o.bs, o.bsz, o.noex, o.exfs, o.funs, o.frf⟩,
    I.os, I.bare, I.base, I.loc, I.cell, I.free, I.freeC, I.pin, I.hok, I.len⟩
theorem fn_T (F : Fun K x qual st f fd) (S : FnScope N ps (defScope st))
    (h : ∀ (cdv : Value) (A : Around) (outer : List Env) (s : Shared) (H : Hp) (a : Addr), L2H.RoomH k (A.deeper (envOfC qual (defScope st) s.heap.objs.size f cdv)) → (A.deeper (envOfC qual (defScope st) s.heap.objs.size f cdv)).handled = some (.ref a) →
      SSs (some a) (cxT P w K mg base N qual (defScope st) f cdv A outer s H) W0 (defBody st) m) : FnT P w K mg base (k + 1) f fd ps ps.length (runP N.length ps.length m) := by
  obtain ⟨oc, od, kV, doc, pm, an, cdv, ct, osl, rfl, lk, hcd⟩ := F.ex
  intro a A outer s H args us vs Q room hh hot e0 bind rv ⟨A', ds, hA, hl, r, q⟩
  have len : vs.length = ps.length := by rw [r.length, hl]
  have inK : K.In s.heap := e0.mod.kin.keeps fun b o z => (e0.bs b o z).1
  have roomy : s.heap.NoLimit := e0.mod.nolimit.keeps fun b o z => (e0.bs b o z).1
  have kinds : ∀ y ∈ ps.zip us, (defScope st).names.lookup y.1 = some .local ∨ ((defScope st).names.lookup y.1 = some .cell ∧ ((cellsFrom (s.heap.objs.size + 1) (defScope st).names []).lookup y.1).isSome = true) := by
    rintro ⟨nm, v⟩ hy
    exact (S.par nm (List.of_mem_zip hy).1).imp id fun z => ⟨z, PySem.W.cellsFrom_some _ _ _ (.inl z)⟩
  refine codeAny_call_function room.depth (inK _ _ lk) rfl S.co S.gen rfl (PySem.W.codeRec_of inK hcd) (bind _ _ _ _ (wpAny_newFunctionEnv_cells S.kind kinds ?_))
  rintro env rfl s1 inCall
  refine ⟨roomy.keeps inCall.toInCall.keep, codeAny_func ?_⟩
  have body := h cdv A outer s H a (room.deeper _) hh
  have e1 : Env0 P w K mg base { A with handled := none } outer s H := ⟨e0.frames, e0.mod, e0.bs, e0.bsz, e0.funs, e0.frf, e0.hok, e0.bare⟩
  have I := inv_cool (A := A) (inv_start (CX := L2N.CX P w) (A := { A with handled := none }) (E := fun _ _ _ => False) S rfl e1 len rv inCall) e0.frames
  have start : tS (some a) K mg W0 m { nx := fun _ H' => Q .non H', rt := Q } (L2.start N vs) H := by
    refine ⟨⟨H, A', fun _ => none, fun _ _ => False, fun _ => False⟩, init N.length ds, stR_start (fun b e => by cases e; exact hot) hA r ?_, ?_⟩
    · have := congrArg List.length S.pre
      rw [List.length_take] at this
      omega
    · unfold runP at q
      rw [if_pos hl] at q
      exact end_of (hox := some a) (c := ⟨H, A', fun _ => none, fun _ _ => False, fun _ => False⟩) rfl (fun b z => z.elim) (fun _ _ _ _ => trivial) q
  refine wpAny_mono (body.run [] s1 (L2.start N vs) H _ I start) (fun fl s' z => ?_) fun e s' z => z.elim
  have over : ∀ {σ' : St} {H' : Hp} {v : V} {u : Value}, Inv (cxT P w K mg base N qual (defScope st) f cdv A outer s H) [] σ' H' s' → RelV v u → Q v H' → CE outer P w H s Q u s' :=
    fun {σ' H' v u} J ru qq => ⟨v, H', J.os, J.bare, J.base, J.hok, ru, qq⟩
  cases fl with
  | ret u =>
    obtain ⟨v, σ', H', J, ru, qq⟩ := z
    exact ⟨u, rfl, over J ru qq⟩
  | next =>
    obtain ⟨σ', H', J, qq⟩ := z
    exact ⟨.none, rfl, over (v := V.non) J rfl qq⟩
  | brk => obtain ⟨_, _, _, qq⟩ := z; exact False.elim qq
  | cont => obtain ⟨_, _, _, qq⟩ := z; exact False.elim qq
end
/-! ### the call -/
def mCallT (F : FP) (n : Nat) (ml : ML) : MO := fun s => (ml s).bind fun ds s1 => if ds.length = n then match F ds with
  | .ok (.val d) _ => .ok (.val d) s1
  | .ok (.own o) _ => .ok (.own o) s1
  | _ => .bad
  else .bad
section
variable {X : Cx} {W : WX} {k n : Nat} {f a : Addr} {fd : FuncData} {ps : List Str} {e : Expr} {es : List Expr} {ml : ML} {x : Str} {p pos : Pos} {F : FP} {ta : TA}
def tCallT (K : PySem.W.Frag) (mg : Str → Option Value) (a : Addr) (ps : List Str) (n : Nat) (F : FP) (ta : TA) : TE := fun σ H Q => ta σ H fun vs H1 => Hot a H1 ∧ vs.length = ps.length ∧ spP K mg n F vs H1 Q (fun _ _ _ => False)
theorem pe_callT (FK : FnT X.prog X.w X.K X.mg X.base k f fd ps n F) (hr : L2H.RoomH k X.A) (hh : X.A.handled = some (.ref a)) (hm : X.mg x = some (.ref f)) (hk : PySem.W.keepIn X.K (.ref f) = true) (hb : Binds X.K fd ps []) (ha : PA X (e :: es) ta) (hg : Gl X x)
    (hdb : (x == ("__debug__" : Str)) = false) (he : starEach (e :: es) X.env = (false, eval e X.env) :: starEach es X.env) (hpl : (backTo pos (starEach es X.env)).any (·.1) = false) : PE X (.Call (.Name x p) (e :: es) [] pos) (tCallT X.K X.mg a ps n F ta) := by
  constructor
  intro pins s σ H Q I wish
  refine wpAny_Call_Name_kw (ld_glob I hg hm (PySem.W.callWith_K (h₀ := X.base) I.ok.mod.kin hk (thn (ha.run pos pins s σ H _ I wish) ?_) he hpl) hdb)
  rintro us s1 ⟨vs, H1, J, rv, hot, len, q⟩
  have bind := hb s1 us J.kIn (by rw [List.append_nil, ← rv.length]; exact len)
  rw [List.append_nil] at bind
  refine ⟨J.kIn, wpAny_call (codeAny_mono (FK a X.A X.stack s1 H1 ⟨us, []⟩ us vs Q hr hh hot J.env0 bind rv q) ?_)⟩
  rintro r s' ⟨u, rfl, z⟩
  exact J.after z
theorem so_callH (FK : FnT X.prog X.w X.K X.mg X.base k f fd ps n F) (hn : ps.length = n) (hr : L2H.RoomH k X.A) (hh : X.A.handled = some (.ref a)) (hm : X.mg x = some (.ref f)) (hk : PySem.W.keepIn X.K (.ref f) = true) (hb : Binds X.K fd ps []) (ha : SL (some a) X W (e :: es) ml) (hg : Gl X x := by rfl)
    (hdb : (x == ("__debug__" : Str)) = false := by decide) (he : starEach (e :: es) X.env = (false, eval e X.env) :: starEach es X.env := by rfl) (hpl : (backTo pos (starEach es X.env)).any (·.1) = false := by rfl) : SO (some a) X W (.Call (.Name x p) (e :: es) [] pos) (mCallT F n ml) :=
  PE.imp (pe_callT FK hr hh hm hk hb ha hg hdb he hpl) fun σ H Q ⟨c, s, st, q⟩ => ⟨c, s, st, q.split.imp fun ds s1 H1 g1 q1 vs rs => by
    by_cases hl : ds.length = n
    · rw [if_pos hl] at q1
      refine ⟨g1.1.isHot, by rw [rs.length, hl, hn], hs c s1 σ, ds, fun p h => g1.1.hidden h, hl, rs, ?_⟩
      cases e1 : F ds with
      | ok r s' =>
        cases r with
        | val d =>
          simp only [e1] at q1
          intro v H' kp _ rv
          exact q1 v H' ⟨.grow g1.1 fun b o e => kp b o (fun z => z) e, rv⟩
        | own o =>
          simp only [e1] at q1
          intro p H' hz n kp _ ro
          have sm : Same H1 H' := fun b o e => kp b o (fun z => z) e
          obtain ⟨ho, hp⟩ := ro.there
          obtain ⟨a1, a2, a3⟩ := g1.1.allocG n sm hp
          exact q1 _ H' ⟨p, ho, rfl, hz, a3, a1, a2, ro.mono (Le.hsub fun b z => hs_ext.mp z) fun _ _ _ h => h⟩
        | bor o => simp only [e1] at q1; exact q1.elim
      | exc y s' => simp only [e1] at q1; exact q1.elim
      | bad => simp only [e1] at q1; exact q1.elim
    · rw [if_neg hl] at q1; exact q1.elim⟩
end
end Den
namespace Den
open PySem PySem.Spec PyProof.Rows L2
theorem roomT {k : Nat} {A : Around} (r : Room k A) (h : Option Value) : L2H.RoomH k (A.mark h) := ⟨r.dp, r.un⟩
theorem huT {k : Nat} {A : Around} (r : L2H.RoomH k A) : A.units + 64 < cLine := by have := r.un; omega
end Den

set_option Elab.async false
set_option linter.all false
set_option maxRecDepth 100000
set_option maxHeartbeats 4000000
/-! W rules: exceptions with fields, own +, ==, len -/
namespace Den
variable {hox : Option Addr}
open PySem PySem.Spec PyProof.Rows L2
/-- an own object's making that raises -/
@[irreducible] def MEx (F : FL) (cn : Str) (ds : List D) (x : Exc) : Prop := ∃ s, F (.ins cn []) ds = .exc x s
theorem MEx.get {F : FL} {cn : Str} {ds : List D} {x : Exc} (h : MEx F cn ds x) : ∃ s, F (.ins cn []) ds = .exc x s := by with_unfolding_all exact h
theorem MEx.mk {F : FL} {cn : Str} {ds : List D} {x : Exc} (h : ∃ s, F (.ins cn []) ds = .exc x s) : MEx F cn ds x := by with_unfolding_all exact h
section
variable {s : S} {n : Nat} {cn : Str} {ml : ML} {mb : MS} {ma m2 m : MD} {P : D → S → Prop} {PO : Sl → S → Prop} {PS : Fl → S → Prop} {E : Exc → S → Prop}
end
end Den

set_option Elab.async false
set_option linter.all false
set_option maxRecDepth 100000
set_option maxHeartbeats 8000000
namespace Den
open PySem PySem.Spec PyProof.Rows L2
def B__law_random_1 : MS := (mSet 2 (mVal (mBin gMod (mApp gInt (lCons (mBin gAdd (mBin gMul (mVar 2) (mK (.int 31))) (mApp gAbs (lCons (mVar 3) lNil))) lNil)) (mK (.int 2147483647)))))
def M__law_random : MS := (mSeq (mSet 2 (mVal (mVar 1)))
    (mSeq (mFor (iKill [false, false, false, true] (iSeq (mVar 0))) (gN 3) (mKill [false, false, false, true] B__law_random_1))
    (mRet (mBinL gCatL (mFrz (mLst (lCons (mVar 2) (lCons (mK (.int 0)) lNil)))) (mFrz (mComp [3] (iSeq (mVar 0)) (gN 3) (mTest (mBin (gCmp ge') (mVar 3) (mBin gPow (mK (.int 10)) (mK (.int 18))))) (mVar 3)))))))
def F__law_random : FP := runP 4 2 M__law_random
def M__law_below : MS := (mSeq (mIfS (bAnd (mTest (mBin gEq (mIxO 0 (mK (.int 1))) (mK (.int 0)))) (mTest (mBin (gCmp gt') (mLenO 0) (mK (.int 2))))) (mSetIx 0 (mK (.int 1)) (mPop 0 (mK (.int 2)))) mNx)
    (mSeq (mIfS (mTest (mBin (gCmp gt') (mIxO 0 (mK (.int 1))) (mK (.int 0)))) (mSeq (mSet 2 (mVal (mBin gMod (mApp gInt (lCons (mIxO 0 (mK (.int 1))) lNil)) (mVar 1))))
    (mSeq (mSetIx 0 (mK (.int 1)) (mBin gFDiv (mIxO 0 (mK (.int 1))) (mVar 1)))
    (mRet (mVal (mVar 2))))) mNx)
    (mSeq (mSetIx 0 (mK (.int 0)) (mBin gMod (mApp gInt (lCons (mBin gAdd (mBin gMul (mIxO 0 (mK (.int 0))) (mK (.int 48271))) (mK (.int 11))) lNil)) (mK (.int 2147483647))))
    (mRet (mVal (mBin gMod (mApp gInt (lCons (mBin gFDiv (mIxO 0 (mK (.int 0))) (mK (.int 64))) lNil)) (mVar 1)))))))
def F__law_below : FL := runL 3 2 M__law_below
def M__law_pick : MS := (mRet (mVal (mBin gIx (mVar 1) (mFrz (mCallL 0 F__law_below 2 (lCons (mApp gLen (lCons (mVar 1) lNil)) lNil))))))
def F__law_pick : FL := runL 2 2 M__law_pick
end Den

set_option Elab.async false
set_option linter.all false
set_option maxRecDepth 100000
set_option maxHeartbeats 8000000
namespace Den
open PySem PySem.Spec PyProof.Rows L2
def mt_LetterError_z14 : Str → Option Bool := fun n => if n = "BadChoice" then some true else if n = "BadLength" then some true else if n = "BadLine" then some true else if n = "BadPlace" then some true else if n = "BadSeen" then some true else if n = "BadSize" then some true else if n = "BadSteps" then some true else if n = "BadText" then some true else if n = "LetterError" then some true else if n = "TooLong" then some true else none
def isx_BadChoice_z14 : Str → Option Bool := fun n => if n = "BadChoice" then some true else if n = "BadLength" then some false else if n = "BadLine" then some false else if n = "BadPlace" then some false else if n = "BadSeen" then some false else if n = "BadSize" then some false else if n = "BadSteps" then some false else if n = "BadText" then some false else if n = "TooLong" then some false else none
def isx_BadLength_z14 : Str → Option Bool := fun n => if n = "BadChoice" then some false else if n = "BadLength" then some true else if n = "BadLine" then some false else if n = "BadPlace" then some false else if n = "BadSeen" then some false else if n = "BadSize" then some false else if n = "BadSteps" then some false else if n = "BadText" then some false else if n = "TooLong" then some false else none
def isx_BadLine_z14 : Str → Option Bool := fun n => if n = "BadChoice" then some false else if n = "BadLength" then some false else if n = "BadLine" then some true else if n = "BadPlace" then some false else if n = "BadSeen" then some false else if n = "BadSize" then some false else if n = "BadSteps" then some false else if n = "BadText" then some false else if n = "TooLong" then some false else none
def isx_BadPlace_z14 : Str → Option Bool := fun n => if n = "BadChoice" then some false else if n = "BadLength" then some false else if n = "BadLine" then some false else if n = "BadPlace" then some true else if n = "BadSeen" then some false else if n = "BadSize" then some false else if n = "BadSteps" then some false else if n = "BadText" then some false else if n = "TooLong" then some false else none
def isx_BadSeen_z14 : Str → Option Bool := fun n => if n = "BadChoice" then some false else if n = "BadLength" then some false else if n = "BadLine" then some false else if n = "BadPlace" then some false else if n = "BadSeen" then some true else if n = "BadSize" then some false else if n = "BadSteps" then some false else if n = "BadText" then some false else if n = "TooLong" then some false else none
def isx_BadSize_z14 : Str → Option Bool := fun n => if n = "BadChoice" then some false else if n = "BadLength" then some false else if n = "BadLine" then some false else if n = "BadPlace" then some false else if n = "BadSeen" then some false else if n = "BadSize" then some true else if n = "BadSteps" then some false else if n = "BadText" then some false else if n = "TooLong" then some false else none
def isx_BadSteps_z14 : Str → Option Bool := fun n => if n = "BadChoice" then some false else if n = "BadLength" then some false else if n = "BadLine" then some false else if n = "BadPlace" then some false else if n = "BadSeen" then some false else if n = "BadSize" then some false else if n = "BadSteps" then some true else if n = "BadText" then some false else if n = "TooLong" then some false else none
def isx_BadText_z14 : Str → Option Bool := fun n => if n = "BadChoice" then some false else if n = "BadLength" then some false else if n = "BadLine" then some false else if n = "BadPlace" then some false else if n = "BadSeen" then some false else if n = "BadSize" then some false else if n = "BadSteps" then some false else if n = "BadText" then some true else if n = "TooLong" then some false else none
def isx_TooLong_z14 : Str → Option Bool := fun n => if n = "BadChoice" then some false else if n = "BadLength" then some false else if n = "BadLine" then some false else if n = "BadPlace" then some false else if n = "BadSeen" then some false else if n = "BadSize" then some false else if n = "BadSteps" then some false else if n = "BadText" then some false else if n = "TooLong" then some true else none
def isx_ValueError_z14 : Str → Option Bool := fun n => if n = "BadChoice" then some true else if n = "BadLength" then some true else if n = "BadLine" then some true else if n = "BadPlace" then some true else if n = "BadSeen" then some true else if n = "BadSize" then some true else if n = "BadSteps" then some true else if n = "BadText" then some true else if n = "TooLong" then some true else none
def xc_index_z14 : Str → Bool := fun n => if n = "BadChoice" then true else if n = "BadSeen" then true else if n = "BadSteps" then true else false
def xc_line_z14 : Str → Bool := fun n => if n = "BadLine" then true else false
def xc_word_z14 : Str → Bool := fun n => if n = "BadLine" then true else false
def M__law_classes_z14 : MS := (mSeq (mSet 1 (mVal (mFrz (mLst (lCons (mIsX isx_BadLength_z14 (mVar 0)) (lCons (mIsX isx_BadPlace_z14 (mVar 0)) (lCons (mIsX isx_BadSize_z14 (mVar 0)) (lCons (mIsX isx_BadText_z14 (mVar 0)) lNil))))))))
    (mSeq (mSet 1 (mVal (mFrz (mBinL gCatL (mVar 1) (mFrz (mLst (lCons (mIsX isx_TooLong_z14 (mVar 0)) (lCons (mIsX isx_BadChoice_z14 (mVar 0)) (lCons (mIsX isx_BadSeen_z14 (mVar 0)) lNil)))))))))
    (mRet (mBinL gCatL (mVar 1) (mFrz (mLst (lCons (mIsX isx_BadSteps_z14 (mVar 0)) (lCons (mIsX isx_BadLine_z14 (mVar 0)) lNil))))))))
def F__law_classes_z14 : FP := runP 2 1 M__law_classes_z14
def M__law_fields_z14 : MS := (mSeq (mIfS (mTest (mBin (gCmp lt') (mVar 0) (mK (.int 5)))) (mRet (mLst lNil)) mNx)
    (mRet (mVal (mIf (mTest (mBin (gCmp lt') (mVar 0) (mK (.int 8)))) (mFrz (mLst (lCons (mXf xc_index_z14 "index" (mVar 1)) lNil))) (mFrz (mLst (lCons (mXf xc_line_z14 "line" (mVar 1)) (lCons (mXf xc_word_z14 "word" (mVar 1)) lNil))))))))
def F__law_fields_z14 : FP := runP 2 2 M__law_fields_z14
def M__law_thrown_z14 : MS := (mSeq (mIfS (mTest (mBin gEq (mVar 0) (mK (.int 0)))) (mRaise0 "BadLength") mNx)
    (mSeq (mIfS (mTest (mBin gEq (mVar 0) (mK (.int 1)))) (mRaise0 "BadPlace") mNx)
    (mSeq (mIfS (mTest (mBin gEq (mVar 0) (mK (.int 2)))) (mRaise0 "BadSize") mNx)
    (mSeq (mIfS (mTest (mBin gEq (mVar 0) (mK (.int 3)))) (mRaise0 "BadText") mNx)
    (mSeq (mIfS (mTest (mBin gEq (mVar 0) (mK (.int 4)))) (mRaise0 "TooLong") mNx)
    (mSeq (mIfS (mTest (mBin gEq (mVar 0) (mK (.int 5)))) (mRaiseX "BadChoice" ["index"] (lCons (mVar 1) lNil)) mNx)
    (mSeq (mIfS (mTest (mBin gEq (mVar 0) (mK (.int 6)))) (mRaiseX "BadSeen" ["index"] (lCons (mVar 1) lNil)) mNx)
    (mSeq (mIfS (mTest (mBin gEq (mVar 0) (mK (.int 7)))) (mRaiseX "BadSteps" ["index"] (lCons (mVar 1) lNil)) mNx)
    (mRaiseX "BadLine" ["line", "word"] (lCons (mVar 1) (lCons (mVar 2) lNil)))))))))))
def F__law_thrown_z14 : FP := runP 3 3 M__law_thrown_z14
def M__law_equal_z14 (F : FP) : MS := (mSeq (mIfS (mTest (mBin gIsN (mVar 1) (mK .non))) (mRet (mVal (mBin gIsN (mVar 0) (mK .non)))) mNx)
    (mSeq (mIfS (mTest (mIsi "bool" (mVar 1))) (mRet (mVal (mAnd (mIsi "bool" (mVar 0)) (mBin gEq (mVar 0) (mVar 1))))) mNx)
    (mSeq (mIfS (mTest (mIsi "int" (mVar 1))) (mRet (mVal (mAnd (mIsi "int" (mVar 0)) (mAnd (mNot (mIsi "bool" (mVar 0))) (mBin gEq (mVar 0) (mVar 1)))))) mNx)
    (mSeq (mIfS (mTest (mIsi "str" (mVar 1))) (mRet (mVal (mAnd (mIsi "str" (mVar 0)) (mBin gEq (mVar 0) (mVar 1))))) mNx)
    (mSeq (mIfS (mTest (mIsi "dict" (mVar 1))) mDead mNx)
    (mSeq (mIfS (mTest (mBin gNe (mIsi "tuple" (mVar 1)) (mIsi "tuple" (mVar 0)))) (mRet (mVal (mK (.bl false)))) mNx)
    (mSeq (mIfS (mTest (mBin gNe (mIsi "list" (mVar 1)) (mIsi "list" (mVar 0)))) (mRet (mVal (mK (.bl false)))) mNx)
    (mSeq (mIfS (mTest (mBin gNe (mApp gLen (lCons (mVar 0) lNil)) (mApp gLen (lCons (mVar 1) lNil)))) (mRet (mVal (mK (.bl false)))) mNx)
    (mRet (mVal (mApp gAll (lCons (mFrz (mComp [3] (iR1 (lCons (mApp gLen (lCons (mVar 1) lNil)) lNil)) (gN 3) bYes (mFrz (mCallT F 2 (lCons (mBin gIx (mVar 0) (mVar 3)) (lCons (mBin gIx (mVar 1) (mVar 3)) lNil)))))) lNil))))))))))))
def F__law_equal_z14 : Nat → FP
  | 0 => fun _ => .bad
  | n + 1 => runP 4 2 (M__law_equal_z14 (F__law_equal_z14 n))
def B_law_z14_1 : MS := (mSeq (mSet 3 (mVal (mFrz (mCallL 1 F__law_pick 2 (lCons (mFrz (mLst (lCons (mK (.str "a")) (lCons (mK (.str "")) (lCons (mK (.int 7)) (lCons (mK .non) (lCons (mTup (lCons (mK (.int 1)) lNil)) (lCons (mFrz (mLst (lCons (mK (.int 2)) lNil))) lNil)))))))) lNil)))))
    (mSeq (mSet 4 (mVal (mFrz (mCallL 1 F__law_pick 2 (lCons (mFrz (mLst (lCons (mK (.int 0)) (lCons (mK .non) (lCons (mK (.str "b")) (lCons (mUn gNeg (mK (.int 1))) lNil)))))) lNil)))))
    (mSeq (mSet 5 (mVal (mFrz (mLst lNil))))
    (mSeq (mIfS (mTest (mBin (gCmp gt') (mVar 2) (mK (.int 4)))) (mSet 5 (mVal (mIf (mTest (mBin (gCmp lt') (mVar 2) (mK (.int 8)))) (mFrz (mLst (lCons (mVar 3) lNil))) (mFrz (mLst (lCons (mVar 3) (lCons (mVar 4) lNil))))))) mNx)
    (mSeq (mSet 6 (mVal (mK (.bl false))))
    (mSeq (mTryH (mDrop (mCall F__law_thrown_z14 3 (lCons (mVar 2) (lCons (mVar 3) (lCons (mVar 4) lNil))))) [(mt_LetterError_z14, 7, (mSeq (mSet 6 (mVal (mAnd (mIsX isx_ValueError_z14 (mVar 7)) (mBin gEq (mFrz (mCallT F__law_classes_z14 1 (lCons (mVar 7) lNil))) (mFrz (mComp [8] (iR1 (lCons (mK (.int 9)) lNil)) (gN 8) bYes (mBin gEq (mVar 8) (mVar 2))))))))
    (mSet 6 (mVal (mAnd (mVar 6) (mFrz (mCallT (F__law_equal_z14 6) 2 (lCons (mFrz (mCallT F__law_fields_z14 2 (lCons (mVar 2) (lCons (mVar 7) lNil)))) (lCons (mVar 5) lNil)))))))))])
    (mIfS (bNot (mTest (mVar 6))) (mRet (mVal (mK (.bl false)))) mNx)))))))
def M_law_z14 : MS := (mSeq (mSet 1 (mCall F__law_random 2 (lCons (mVar 0) (lCons (mK (.int 164)) lNil))))
    (mSeq (mFor (iKill [false, false, true, true, true, true, true] (iR1 (lCons (mK (.int 9)) lNil))) (gN 2) (mKill [false, false, true, true, true, true, true] B_law_z14_1))
    (mRet (mVal (mK (.bl true))))))
def F_law_z14 : FP := runP 9 1 M_law_z14
end Den

set_option Elab.async false
set_option linter.all false
set_option maxRecDepth 100000
set_option maxHeartbeats 8000000
namespace Den
open PySem PySem.Spec PyProof.Rows L2

def topS (i : Nat) : Stmt := PySem.Challenge.pw_ringalphabet_k14_errors_apart.main.body.getD i (.Pass ⟨0, 0, 0, 0⟩)
abbrev s__law_random : Stmt := topS 12
abbrev s__law_below : Stmt := topS 13
abbrev s__law_classes_z14 : Stmt := topS 17
abbrev s__law_fields_z14 : Stmt := topS 18
abbrev s__law_pick : Stmt := topS 14
abbrev s__law_thrown_z14 : Stmt := topS 16
abbrev s__law_equal_z14 : Stmt := topS 15
abbrev s_law_z14 : Stmt := topS 19
theorem bt_ValueError : bootBuiltins "ValueError" = some (.type "ValueError") := by decide +kernel
theorem bt_abs : bootBuiltins "abs" = some (.builtin "abs") := by decide +kernel
theorem bt_all : bootBuiltins "all" = some (.builtin "all") := by decide +kernel
theorem bt_bool : bootBuiltins "bool" = some (.type "bool") := by decide +kernel
theorem bt_dict : bootBuiltins "dict" = some (.type "dict") := by decide +kernel
theorem bt_int : bootBuiltins "int" = some (.type "int") := by decide +kernel
theorem bt_len : bootBuiltins "len" = some (.builtin "len") := by decide +kernel
theorem bt_list : bootBuiltins "list" = some (.type "list") := by decide +kernel
theorem bt_str : bootBuiltins "str" = some (.type "str") := by decide +kernel
theorem bt_tuple : bootBuiltins "tuple" = some (.type "tuple") := by decide +kernel
abbrev s_BadChoice___init__ : Stmt := (clsBody (topS 9)).getD 0 (.Pass ⟨0, 0, 0, 0⟩)
abbrev s_BadLine___init__ : Stmt := (clsBody (topS 10)).getD 0 (.Pass ⟨0, 0, 0, 0⟩)
abbrev s_BadSeen___init__ : Stmt := (clsBody (topS 8)).getD 0 (.Pass ⟨0, 0, 0, 0⟩)
abbrev s_BadSteps___init__ : Stmt := (clsBody (topS 2)).getD 0 (.Pass ⟨0, 0, 0, 0⟩)
structure Tx (P : Program) (K : PySem.W.Frag) (mg : Str → Option Value) (w : World) where
  f__law_random : Addr
  d__law_random : FuncData
  F__law_random : Fun K "_law_random" "_law_random" s__law_random f__law_random d__law_random
  b__law_random : Binds K d__law_random ["_law_script", "_law_salt"] []
  g__law_random : mg "_law_random" = some (.ref f__law_random)
  f__law_below : Addr
  d__law_below : FuncData
  F__law_below : Fun K "_law_below" "_law_below" s__law_below f__law_below d__law_below
  b__law_below : Binds K d__law_below ["_law_d", "_law_size"] []
  g__law_below : mg "_law_below" = some (.ref f__law_below)
  f__law_classes_z14 : Addr
  d__law_classes_z14 : FuncData
  F__law_classes_z14 : Fun K "_law_classes" "_law_classes" s__law_classes_z14 f__law_classes_z14 d__law_classes_z14
  b__law_classes_z14 : Binds K d__law_classes_z14 ["_law_e"] []
  g__law_classes_z14 : mg "_law_classes" = some (.ref f__law_classes_z14)
  f__law_fields_z14 : Addr
  d__law_fields_z14 : FuncData
  F__law_fields_z14 : Fun K "_law_fields" "_law_fields" s__law_fields_z14 f__law_fields_z14 d__law_fields_z14
  b__law_fields_z14 : Binds K d__law_fields_z14 ["_law_k", "_law_e"] []
  g__law_fields_z14 : mg "_law_fields" = some (.ref f__law_fields_z14)
  f__law_pick : Addr
  d__law_pick : FuncData
  F__law_pick : Fun K "_law_pick" "_law_pick" s__law_pick f__law_pick d__law_pick
  b__law_pick : Binds K d__law_pick ["_law_d", "_law_items"] []
  g__law_pick : mg "_law_pick" = some (.ref f__law_pick)
  f__law_thrown_z14 : Addr
  d__law_thrown_z14 : FuncData
  F__law_thrown_z14 : Fun K "_law_thrown" "_law_thrown" s__law_thrown_z14 f__law_thrown_z14 d__law_thrown_z14
  b__law_thrown_z14 : Binds K d__law_thrown_z14 ["_law_k", "_law_one", "_law_two"] []
  g__law_thrown_z14 : mg "_law_thrown" = some (.ref f__law_thrown_z14)
  f__law_equal_z14 : Addr
  d__law_equal_z14 : FuncData
  F__law_equal_z14 : Fun K "_law_equal" "_law_equal" s__law_equal_z14 f__law_equal_z14 d__law_equal_z14
  b__law_equal_z14 : Binds K d__law_equal_z14 ["_law_actual", "_law_expected"] []
  g__law_equal_z14 : mg "_law_equal" = some (.ref f__law_equal_z14)
  f_law_z14 : Addr
  d_law_z14 : FuncData
  F_law_z14 : Fun K "law" "law" s_law_z14 f_law_z14 d_law_z14
  b_law_z14 : Binds K d_law_z14 ["_law_script"] []
  g_law_z14 : mg "law" = some (.ref f_law_z14)
  z_ValueError : mg "ValueError" = none
  z_abs : mg "abs" = none
  z_all : mg "all" = none
  z_bool : mg "bool" = none
  z_dict : mg "dict" = none
  z_int : mg "int" = none
  z_isinstance : mg "isinstance" = none
  z_len : mg "len" = none
  z_list : mg "list" = none
  z_range : mg "range" = none
  z_str : mg "str" = none
  z_tuple : mg "tuple" = none
  C_BadChoice : Addr
  g_BadChoice : mg "BadChoice" = some (.ref C_BadChoice)
  C_BadLength : Addr
  g_BadLength : mg "BadLength" = some (.ref C_BadLength)
  C_BadLine : Addr
  g_BadLine : mg "BadLine" = some (.ref C_BadLine)
  C_BadPlace : Addr
  g_BadPlace : mg "BadPlace" = some (.ref C_BadPlace)
  C_BadSeen : Addr
  g_BadSeen : mg "BadSeen" = some (.ref C_BadSeen)
  C_BadSize : Addr
  g_BadSize : mg "BadSize" = some (.ref C_BadSize)
  C_BadSteps : Addr
  g_BadSteps : mg "BadSteps" = some (.ref C_BadSteps)
  C_BadText : Addr
  g_BadText : mg "BadText" = some (.ref C_BadText)
  C_LetterError : Addr
  g_LetterError : mg "LetterError" = some (.ref C_LetterError)
  C_TooLong : Addr
  g_TooLong : mg "TooLong" = some (.ref C_TooLong)
  f_BadChoice___init__ : Addr
  d_BadChoice___init__ : FuncData
  S_BadChoice : SupF P K mg "BadChoice.__init__" s_BadChoice___init__ C_BadChoice f_BadChoice___init__ d_BadChoice___init__
  b_BadChoice___init__ : Binds K d_BadChoice___init__ ["self", "index"] []
  X_BadChoice : XfC K C_BadChoice
  v_BadChoice_index : PySem.W.findIn K (.ref C_BadChoice) "index" = some none
  f_BadLine___init__ : Addr
  d_BadLine___init__ : FuncData
  S_BadLine : SupF P K mg "BadLine.__init__" s_BadLine___init__ C_BadLine f_BadLine___init__ d_BadLine___init__
  b_BadLine___init__ : Binds K d_BadLine___init__ ["self", "line", "word"] []
  X_BadLine : XfC K C_BadLine
  v_BadLine_line : PySem.W.findIn K (.ref C_BadLine) "line" = some none
  v_BadLine_word : PySem.W.findIn K (.ref C_BadLine) "word" = some none
  f_BadSeen___init__ : Addr
  d_BadSeen___init__ : FuncData
  S_BadSeen : SupF P K mg "BadSeen.__init__" s_BadSeen___init__ C_BadSeen f_BadSeen___init__ d_BadSeen___init__
  b_BadSeen___init__ : Binds K d_BadSeen___init__ ["self", "index"] []
  X_BadSeen : XfC K C_BadSeen
  v_BadSeen_index : PySem.W.findIn K (.ref C_BadSeen) "index" = some none
  f_BadSteps___init__ : Addr
  d_BadSteps___init__ : FuncData
  S_BadSteps : SupF P K mg "BadSteps.__init__" s_BadSteps___init__ C_BadSteps f_BadSteps___init__ d_BadSteps___init__
  b_BadSteps___init__ : Binds K d_BadSteps___init__ ["self", "index"] []
  X_BadSteps : XfC K C_BadSteps
  v_BadSteps_index : PySem.W.findIn K (.ref C_BadSteps) "index" = some none
  x_BadLength : PySem.W.excIn K C_BadLength [.type "ValueError", .type "Exception", .type "BaseException", .type "object"] "ValueError.__new__" = true ∧ PySem.W.keepIn K (.ref C_BadLength) = true ∧ PySem.W.subIn K (.ref C_BadLength) (.type "BaseException") = some true ∧ PySem.W.typeIn K (.ref C_BadLength) = some (.type "type")
  x_BadPlace : PySem.W.excIn K C_BadPlace [.type "ValueError", .type "Exception", .type "BaseException", .type "object"] "ValueError.__new__" = true ∧ PySem.W.keepIn K (.ref C_BadPlace) = true ∧ PySem.W.subIn K (.ref C_BadPlace) (.type "BaseException") = some true ∧ PySem.W.typeIn K (.ref C_BadPlace) = some (.type "type")
  x_BadSize : PySem.W.excIn K C_BadSize [.type "ValueError", .type "Exception", .type "BaseException", .type "object"] "ValueError.__new__" = true ∧ PySem.W.keepIn K (.ref C_BadSize) = true ∧ PySem.W.subIn K (.ref C_BadSize) (.type "BaseException") = some true ∧ PySem.W.typeIn K (.ref C_BadSize) = some (.type "type")
  x_BadText : PySem.W.excIn K C_BadText [.type "ValueError", .type "Exception", .type "BaseException", .type "object"] "ValueError.__new__" = true ∧ PySem.W.keepIn K (.ref C_BadText) = true ∧ PySem.W.subIn K (.ref C_BadText) (.type "BaseException") = some true ∧ PySem.W.typeIn K (.ref C_BadText) = some (.type "type")
  x_TooLong : PySem.W.excIn K C_TooLong [.type "ValueError", .type "Exception", .type "BaseException", .type "object"] "ValueError.__new__" = true ∧ PySem.W.keepIn K (.ref C_TooLong) = true ∧ PySem.W.subIn K (.ref C_TooLong) (.type "BaseException") = some true ∧ PySem.W.typeIn K (.ref C_TooLong) = some (.type "type")
  h_LetterError : ∀ n b, mt_LetterError_z14 n = some b → ∃ C, mg n = some (.ref C) ∧ PySem.W.exmOne K (.ref C) (.ref C_LetterError) = some b
  i_BadChoice : ∀ n b, isx_BadChoice_z14 n = some b → ∃ D, mg n = some (.ref D) ∧ ExcC K D ∧ PySem.W.kitOne K (.ref D) (.ref C_BadChoice) = some b
  i_BadLength : ∀ n b, isx_BadLength_z14 n = some b → ∃ D, mg n = some (.ref D) ∧ ExcC K D ∧ PySem.W.kitOne K (.ref D) (.ref C_BadLength) = some b
  i_BadLine : ∀ n b, isx_BadLine_z14 n = some b → ∃ D, mg n = some (.ref D) ∧ ExcC K D ∧ PySem.W.kitOne K (.ref D) (.ref C_BadLine) = some b
  i_BadPlace : ∀ n b, isx_BadPlace_z14 n = some b → ∃ D, mg n = some (.ref D) ∧ ExcC K D ∧ PySem.W.kitOne K (.ref D) (.ref C_BadPlace) = some b
  i_BadSeen : ∀ n b, isx_BadSeen_z14 n = some b → ∃ D, mg n = some (.ref D) ∧ ExcC K D ∧ PySem.W.kitOne K (.ref D) (.ref C_BadSeen) = some b
  i_BadSize : ∀ n b, isx_BadSize_z14 n = some b → ∃ D, mg n = some (.ref D) ∧ ExcC K D ∧ PySem.W.kitOne K (.ref D) (.ref C_BadSize) = some b
  i_BadSteps : ∀ n b, isx_BadSteps_z14 n = some b → ∃ D, mg n = some (.ref D) ∧ ExcC K D ∧ PySem.W.kitOne K (.ref D) (.ref C_BadSteps) = some b
  i_BadText : ∀ n b, isx_BadText_z14 n = some b → ∃ D, mg n = some (.ref D) ∧ ExcC K D ∧ PySem.W.kitOne K (.ref D) (.ref C_BadText) = some b
  i_TooLong : ∀ n b, isx_TooLong_z14 n = some b → ∃ D, mg n = some (.ref D) ∧ ExcC K D ∧ PySem.W.kitOne K (.ref D) (.ref C_TooLong) = some b
  i_ValueError : ∀ n b, isx_ValueError_z14 n = some b → ∃ D, mg n = some (.ref D) ∧ ExcC K D ∧ PySem.W.kitOne K (.ref D) (.type "ValueError") = some b
  y_index : ∀ n, xc_index_z14 n = true → ∃ C, mg n = some (.ref C) ∧ XfC K C ∧ PySem.W.findIn K (.ref C) "index" = some none
  y_line : ∀ n, xc_line_z14 n = true → ∃ C, mg n = some (.ref C) ∧ XfC K C ∧ PySem.W.findIn K (.ref C) "line" = some none
  y_word : ∀ n, xc_word_z14 n = true → ∃ C, mg n = some (.ref C) ∧ XfC K C ∧ PySem.W.findIn K (.ref C) "word" = some none
theorem excF : ExcBaseFacts "ValueError" "ValueError.__new__" "ValueError.__init__" [.type "ValueError", .type "Exception", .type "BaseException", .type "object"] := F.excBase_ValueError
section
variable {P : Program} {w : World} {K : PySem.W.Frag} {mg : Str → Option Value} {base : Heap}
theorem sx_BadChoice : NdefX.NScope ["self", "index", "__class__"] ["self", "index"] ["__class__"] (defScope s_BadChoice___init__) := NdefX.nscope_by (by decide +kernel)
theorem okx_BadChoice (T : Tx P K mg w) : FnOk P w K mg base (L2N.CX P w) 1 T.f_BadChoice___init__ T.d_BadChoice___init__ ["self", "index"] (spX T.C_BadChoice ["index"]) := T.S_BadChoice.ok1 rfl sx_BadChoice (by decide +kernel) rfl rfl (fun _ => ⟨_, rfl⟩) T.v_BadChoice_index (by decide) (by decide)
theorem sx_BadLine : NdefX.NScope ["self", "line", "word", "__class__"] ["self", "line", "word"] ["__class__"] (defScope s_BadLine___init__) := NdefX.nscope_by (by decide +kernel)
theorem okx_BadLine (T : Tx P K mg w) : FnOk P w K mg base (L2N.CX P w) 1 T.f_BadLine___init__ T.d_BadLine___init__ ["self", "line", "word"] (spX T.C_BadLine ["line", "word"]) := T.S_BadLine.ok2 rfl sx_BadLine (by decide +kernel) rfl rfl (fun _ => ⟨_, rfl⟩) T.v_BadLine_line T.v_BadLine_word (by decide) (by decide) (by decide) (by decide)
theorem sx_BadSeen : NdefX.NScope ["self", "index", "__class__"] ["self", "index"] ["__class__"] (defScope s_BadSeen___init__) := NdefX.nscope_by (by decide +kernel)
theorem okx_BadSeen (T : Tx P K mg w) : FnOk P w K mg base (L2N.CX P w) 1 T.f_BadSeen___init__ T.d_BadSeen___init__ ["self", "index"] (spX T.C_BadSeen ["index"]) := T.S_BadSeen.ok1 rfl sx_BadSeen (by decide +kernel) rfl rfl (fun _ => ⟨_, rfl⟩) T.v_BadSeen_index (by decide) (by decide)
theorem sx_BadSteps : NdefX.NScope ["self", "index", "__class__"] ["self", "index"] ["__class__"] (defScope s_BadSteps___init__) := NdefX.nscope_by (by decide +kernel)
theorem okx_BadSteps (T : Tx P K mg w) : FnOk P w K mg base (L2N.CX P w) 1 T.f_BadSteps___init__ T.d_BadSteps___init__ ["self", "index"] (spX T.C_BadSteps ["index"]) := T.S_BadSteps.ok1 rfl sx_BadSteps (by decide +kernel) rfl rfl (fun _ => ⟨_, rfl⟩) T.v_BadSteps_index (by decide) (by decide)
theorem sc__law_random : FnScope ["_law_script", "_law_salt", "_law_seed", "_law_cell"] ["_law_script", "_law_salt"] (defScope s__law_random) := ⟨rfl, rfl, rfl, by decide +kernel, rfl, by decide +kernel, by decide +kernel⟩
theorem ok__law_random (T : Tx P K mg w) : FnOk P w K mg base (L2N.CX P w) 1 T.f__law_random T.d__law_random ["_law_script", "_law_salt"] (spP K mg 2 F__law_random) := by
    refine (fn_P (N := ["_law_script", "_law_salt", "_law_seed", "_law_cell"]) (k := 0) (m := M__law_random) T.F__law_random sc__law_random fun cdv A outer s H E hr => ?_)
    have hN : (["_law_script", "_law_salt", "_law_seed", "_law_cell"] : List Str).Nodup := sc__law_random.nd
    have hu := hr.units
    have tk := L2N.takes_of (X := cxOf (L2N.CX P w) P w K mg base ["_law_script", "_law_salt", "_law_seed", "_law_cell"] "_law_random" (defScope s__law_random) T.f__law_random cdv A outer s H E) (E := E) rfl rfl rfl rfl
    have hp := passes_of (X := cxOf (L2N.CX P w) P w K mg base ["_law_script", "_law_salt", "_law_seed", "_law_cell"] "_law_random" (defScope s__law_random) T.f__law_random cdv A outer s H E) rfl
    exact (ss_cons (ss_set 2 hN (so_val (sd_var 1)))
    (ss_cons (ss_for hp rfl (si_kill (si_seq (sd_var 0))) (sg_name 3 hN) (sss_kill (ss_one (ss_set 2 hN (so_val (sd_bin r2_mod op_mod (sd_callT rc_int call_int1 (by rfl) T.z_int bt_int (sl_cons (sd_bin r2_add op_adds (sd_bin r2_mul op_muls (sd_var 2) sd_int) (sd_callB rc_abs call_abs (by rfl) T.z_abs bt_abs (sl_cons (sd_var 3) sl_nil))) sl_nil)) sd_int))))))
    (ss_one (ss_ret (so_bin rl2_cat op_cat (sd_frz (so_lst (sl_cons (sd_var 2) (sl_cons sd_int sl_nil)))) (sd_frz (so_lc [("_law_cell", 3)] rfl hN (si_seq (sd_var 0)) (blkOk_by (by rfl)) (fun _ _ _ _ _ => (sg_name 3 hN)) (fun _ _ _ _ _ => (sts_one (sb_cmp r2_cmp op_ge (by rfl) (sd_var 3) (sd_bin r2_pow op_pow sd_int sd_int)))) (fun _ _ _ _ _ => (sd_var 3)))))))))
theorem sc__law_below : FnScope ["_law_d", "_law_size", "_law_result"] ["_law_d", "_law_size"] (defScope s__law_below) := ⟨rfl, rfl, rfl, by decide +kernel, rfl, by decide +kernel, by decide +kernel⟩
theorem ok__law_below (T : Tx P K mg w) : FnOk P w K mg base (L2N.CX P w) 1 T.f__law_below T.d__law_below ["_law_d", "_law_size"] (spL K mg 2 F__law_below) := by
    refine (fn_L (N := ["_law_d", "_law_size", "_law_result"]) (k := 0) (m := M__law_below) T.F__law_below sc__law_below fun cdv A outer s H E hr => ?_)
    have hN : (["_law_d", "_law_size", "_law_result"] : List Str).Nodup := sc__law_below.nd
    have hu := hr.units
    have tk := L2N.takes_of (X := cxOf (L2N.CX P w) P w K mg base ["_law_d", "_law_size", "_law_result"] "_law_below" (defScope s__law_below) T.f__law_below cdv A outer s H E) (E := E) rfl rfl rfl rfl
    have hp := passes_of (X := cxOf (L2N.CX P w) P w K mg base ["_law_d", "_law_size", "_law_result"] "_law_below" (defScope s__law_below) T.f__law_below cdv A outer s H E) rfl
    exact (ss_cons (ss_if (sb_w (sw_and (sb_cmp r2_eq (op_eqD hu) (by rfl) (sd_ixO 0 sd_int) sd_int) (sw_and1 (sb_cmp r2_cmp op_gt (by rfl) (sd_lenO 0 (by rfl) T.z_len) sd_int)))) (ss_one (ss_setIx (k0 := 0) 0 (sd_pop 0 sd_int) sd_int)) ss_nil)
    (ss_cons (ss_if (sb_cmp r2_cmp op_gt (by rfl) (sd_ixO 0 sd_int) sd_int) (ss_cons (ss_set 2 hN (so_val (sd_bin r2_mod op_mod (sd_callT rc_int call_int1 (by rfl) T.z_int bt_int (sl_cons (sd_ixO 0 sd_int) sl_nil)) (sd_var 1))))
    (ss_cons (ss_setIx (k0 := 0) 0 (sd_bin r2_fdiv op_fdivW (sd_ixO 0 sd_int) (sd_var 1)) sd_int)
    (ss_one (ss_ret (so_val (sd_var 2)))))) ss_nil)
    (ss_cons (ss_setIx (k0 := 0) 0 (sd_bin r2_mod op_mod (sd_callT rc_int call_int1 (by rfl) T.z_int bt_int (sl_cons (sd_bin r2_add op_adds (sd_bin r2_mul op_muls (sd_ixO 0 sd_int) sd_int) sd_int) sl_nil)) sd_int) sd_int)
    (ss_one (ss_ret (so_val (sd_bin r2_mod op_mod (sd_callT rc_int call_int1 (by rfl) T.z_int bt_int (sl_cons (sd_bin r2_fdiv op_fdivW (sd_ixO 0 sd_int) sd_int) sl_nil)) (sd_var 1))))))))
theorem sc__law_classes_z14 : FnScope ["_law_e", "_law_found"] ["_law_e"] (defScope s__law_classes_z14) := ⟨rfl, rfl, rfl, by decide +kernel, rfl, by decide +kernel, by decide +kernel⟩
theorem ok__law_classes_z14 (T : Tx P K mg w) : FnT P w K mg base 1 T.f__law_classes_z14 T.d__law_classes_z14 ["_law_e"] 1 F__law_classes_z14 := by
    refine (fn_T (N := ["_law_e", "_law_found"]) (k := 0) (m := M__law_classes_z14) T.F__law_classes_z14 sc__law_classes_z14 fun cdv A outer s H a hr hh => ?_)
    have hN : (["_law_e", "_law_found"] : List Str).Nodup := sc__law_classes_z14.nd
    have hu := huT hr
    exact (ss_cons (ss_set 1 hN (so_val (sd_frz (so_lst (sl_cons (sd_isXC (sd_var 0) T.i_BadLength T.z_isinstance T.g_BadLength) (sl_cons (sd_isXC (sd_var 0) T.i_BadPlace T.z_isinstance T.g_BadPlace) (sl_cons (sd_isXC (sd_var 0) T.i_BadSize T.z_isinstance T.g_BadSize) (sl_cons (sd_isXC (sd_var 0) T.i_BadText T.z_isinstance T.g_BadText) sl_nil))))))))
    (ss_cons (ss_set 1 hN (so_val (sd_frz (so_bin rl2_cat op_cat (sd_var 1) (sd_frz (so_lst (sl_cons (sd_isXC (sd_var 0) T.i_TooLong T.z_isinstance T.g_TooLong) (sl_cons (sd_isXC (sd_var 0) T.i_BadChoice T.z_isinstance T.g_BadChoice) (sl_cons (sd_isXC (sd_var 0) T.i_BadSeen T.z_isinstance T.g_BadSeen) sl_nil)))))))))
    (ss_one (ss_ret (so_bin rl2_cat op_cat (sd_var 1) (sd_frz (so_lst (sl_cons (sd_isXC (sd_var 0) T.i_BadSteps T.z_isinstance T.g_BadSteps) (sl_cons (sd_isXC (sd_var 0) T.i_BadLine T.z_isinstance T.g_BadLine) sl_nil)))))))))
theorem sc__law_fields_z14 : FnScope ["_law_k", "_law_e"] ["_law_k", "_law_e"] (defScope s__law_fields_z14) := ⟨rfl, rfl, rfl, by decide +kernel, rfl, by decide +kernel, by decide +kernel⟩
theorem ok__law_fields_z14 (T : Tx P K mg w) : FnT P w K mg base 1 T.f__law_fields_z14 T.d__law_fields_z14 ["_law_k", "_law_e"] 2 F__law_fields_z14 := by
    refine (fn_T (N := ["_law_k", "_law_e"]) (k := 0) (m := M__law_fields_z14) T.F__law_fields_z14 sc__law_fields_z14 fun cdv A outer s H a hr hh => ?_)
    have hN : (["_law_k", "_law_e"] : List Str).Nodup := sc__law_fields_z14.nd
    have hu := huT hr
    exact (ss_cons (ss_if (sb_cmp r2_cmp op_lt (by rfl) (sd_var 0) sd_int) (ss_one (ss_ret (so_lst sl_nil))) ss_nil)
    (ss_one (ss_ret (so_val (sd_if (sb_cmp r2_cmp op_lt (by rfl) (sd_var 0) sd_int) (sd_frz (so_lst (sl_cons (sd_xf (sd_var 1) T.y_index) sl_nil))) (sd_frz (so_lst (sl_cons (sd_xf (sd_var 1) T.y_line) (sl_cons (sd_xf (sd_var 1) T.y_word) sl_nil)))))))))
theorem sc__law_pick : FnScope ["_law_d", "_law_items"] ["_law_d", "_law_items"] (defScope s__law_pick) := ⟨rfl, rfl, rfl, by decide +kernel, rfl, by decide +kernel, by decide +kernel⟩
theorem ok__law_pick (T : Tx P K mg w) : FnOk P w K mg base (L2N.CX P w) 2 T.f__law_pick T.d__law_pick ["_law_d", "_law_items"] (spL K mg 2 F__law_pick) := by
    refine (fn_L (N := ["_law_d", "_law_items"]) (k := 1) (m := M__law_pick) T.F__law_pick sc__law_pick fun cdv A outer s H E hr => ?_)
    have hN : (["_law_d", "_law_items"] : List Str).Nodup := sc__law_pick.nd
    have hu := hr.units
    have tk := L2N.takes_of (X := cxOf (L2N.CX P w) P w K mg base ["_law_d", "_law_items"] "_law_pick" (defScope s__law_pick) T.f__law_pick cdv A outer s H E) (E := E) rfl rfl rfl rfl
    have hp := passes_of (X := cxOf (L2N.CX P w) P w K mg base ["_law_d", "_law_items"] "_law_pick" (defScope s__law_pick) T.f__law_pick cdv A outer s H E) rfl
    exact (ss_one (ss_ret (so_val (sd_ix r2_ix ix_seq (sd_var 1) (sd_frz (so_callL 0 ((ok__law_below T).mono (by decide)) hr T.g__law_below T.F__law_below.kp T.b__law_below tk (sl_cons (sd_callB rc_len call_lens (by rfl) T.z_len bt_len (sl_cons (sd_var 1) sl_nil)) sl_nil)))))))
theorem sc__law_thrown_z14 : FnScope ["_law_k", "_law_one", "_law_two"] ["_law_k", "_law_one", "_law_two"] (defScope s__law_thrown_z14) := ⟨rfl, rfl, rfl, by decide +kernel, rfl, by decide +kernel, by decide +kernel⟩
theorem ok__law_thrown_z14 (T : Tx P K mg w) : FnOk P w K mg base (L2N.CX P w) 3 T.f__law_thrown_z14 T.d__law_thrown_z14 ["_law_k", "_law_one", "_law_two"] (spP K mg 3 F__law_thrown_z14) := by
    refine (fn_P (N := ["_law_k", "_law_one", "_law_two"]) (k := 2) (m := M__law_thrown_z14) T.F__law_thrown_z14 sc__law_thrown_z14 fun cdv A outer s H E hr => ?_)
    have hN : (["_law_k", "_law_one", "_law_two"] : List Str).Nodup := sc__law_thrown_z14.nd
    have hu := hr.units
    have tk := L2N.takes_of (X := cxOf (L2N.CX P w) P w K mg base ["_law_k", "_law_one", "_law_two"] "_law_thrown" (defScope s__law_thrown_z14) T.f__law_thrown_z14 cdv A outer s H E) (E := E) rfl rfl rfl rfl
    have hp := passes_of (X := cxOf (L2N.CX P w) P w K mg base ["_law_k", "_law_one", "_law_two"] "_law_thrown" (defScope s__law_thrown_z14) T.f__law_thrown_z14 cdv A outer s H E) rfl
    exact (ss_cons (ss_if (sb_cmp r2_eq (op_eqD hu) (by rfl) (sd_var 0) sd_int) (ss_one (ss_raise0 rfl tk excF T.x_BadLength.1 T.g_BadLength T.x_BadLength.2.1 T.x_BadLength.2.2.1 T.x_BadLength.2.2.2)) ss_nil)
    (ss_cons (ss_if (sb_cmp r2_eq (op_eqD hu) (by rfl) (sd_var 0) sd_int) (ss_one (ss_raise0 rfl tk excF T.x_BadPlace.1 T.g_BadPlace T.x_BadPlace.2.1 T.x_BadPlace.2.2.1 T.x_BadPlace.2.2.2)) ss_nil)
    (ss_cons (ss_if (sb_cmp r2_eq (op_eqD hu) (by rfl) (sd_var 0) sd_int) (ss_one (ss_raise0 rfl tk excF T.x_BadSize.1 T.g_BadSize T.x_BadSize.2.1 T.x_BadSize.2.2.1 T.x_BadSize.2.2.2)) ss_nil)
    (ss_cons (ss_if (sb_cmp r2_eq (op_eqD hu) (by rfl) (sd_var 0) sd_int) (ss_one (ss_raise0 rfl tk excF T.x_BadText.1 T.g_BadText T.x_BadText.2.1 T.x_BadText.2.2.1 T.x_BadText.2.2.2)) ss_nil)
    (ss_cons (ss_if (sb_cmp r2_eq (op_eqD hu) (by rfl) (sd_var 0) sd_int) (ss_one (ss_raise0 rfl tk excF T.x_TooLong.1 T.g_TooLong T.x_TooLong.2.1 T.x_TooLong.2.2.1 T.x_TooLong.2.2.2)) ss_nil)
    (ss_cons (ss_if (sb_cmp r2_eq (op_eqD hu) (by rfl) (sd_var 0) sd_int) (ss_one (ss_raiseX rfl tk T.S_BadChoice.oex T.S_BadChoice.ini T.S_BadChoice.ty ((okx_BadChoice T).mono (by decide)) (by decide) hr T.b_BadChoice___init__ T.g_BadChoice (sl_cons (sd_var 1) sl_nil))) ss_nil)
    (ss_cons (ss_if (sb_cmp r2_eq (op_eqD hu) (by rfl) (sd_var 0) sd_int) (ss_one (ss_raiseX rfl tk T.S_BadSeen.oex T.S_BadSeen.ini T.S_BadSeen.ty ((okx_BadSeen T).mono (by decide)) (by decide) hr T.b_BadSeen___init__ T.g_BadSeen (sl_cons (sd_var 1) sl_nil))) ss_nil)
    (ss_cons (ss_if (sb_cmp r2_eq (op_eqD hu) (by rfl) (sd_var 0) sd_int) (ss_one (ss_raiseX rfl tk T.S_BadSteps.oex T.S_BadSteps.ini T.S_BadSteps.ty ((okx_BadSteps T).mono (by decide)) (by decide) hr T.b_BadSteps___init__ T.g_BadSteps (sl_cons (sd_var 1) sl_nil))) ss_nil)
    (ss_one (ss_raiseX rfl tk T.S_BadLine.oex T.S_BadLine.ini T.S_BadLine.ty ((okx_BadLine T).mono (by decide)) (by decide) hr T.b_BadLine___init__ T.g_BadLine (sl_cons (sd_var 1) (sl_cons (sd_var 2) sl_nil))))))))))))
theorem sc__law_equal_z14 : FnScope ["_law_actual", "_law_expected", "_law_key", "_law_k"] ["_law_actual", "_law_expected"] (defScope s__law_equal_z14) := ⟨rfl, rfl, rfl, by decide +kernel, rfl, by decide +kernel, by decide +kernel⟩
theorem ok__law_equal_z14 (T : Tx P K mg w) : ∀ n : Nat, FnT P w K mg base (n + 0) T.f__law_equal_z14 T.d__law_equal_z14 ["_law_actual", "_law_expected"] 2 (F__law_equal_z14 n)
  | 0 => never_T
  | n + 1 => by
    have ih := ok__law_equal_z14 T n
    refine (fn_T (N := ["_law_actual", "_law_expected", "_law_key", "_law_k"]) (k := n + 0) (m := M__law_equal_z14 (F__law_equal_z14 n)) T.F__law_equal_z14 sc__law_equal_z14 fun cdv A outer s H a hr hh => ?_)
    have hN : (["_law_actual", "_law_expected", "_law_key", "_law_k"] : List Str).Nodup := sc__law_equal_z14.nd
    have hu := huT hr
    exact (ss_cons (ss_if (sb_cmp r2_isN op_isN (by rfl) (sd_var 1) sd_non) (ss_one (ss_ret (so_val (sd_cmp r2_isN op_isN (by rfl) (sd_var 0) sd_non)))) ss_nil)
    (ss_cons (ss_if (sb_val (sd_isi "bool" (sd_var 1) T.z_isinstance T.z_bool bt_bool)) (ss_one (ss_ret (so_val (sd_and (sd_isi "bool" (sd_var 0) T.z_isinstance T.z_bool bt_bool) (sd_one (sd_cmp r2_eq (op_eqD hu) (by rfl) (sd_var 0) (sd_var 1))))))) ss_nil)
    (ss_cons (ss_if (sb_val (sd_isi "int" (sd_var 1) T.z_isinstance T.z_int bt_int)) (ss_one (ss_ret (so_val (sd_and (sd_isi "int" (sd_var 0) T.z_isinstance T.z_int bt_int) (sd_and (sd_not (sd_isi "bool" (sd_var 0) T.z_isinstance T.z_bool bt_bool)) (sd_one (sd_cmp r2_eq (op_eqD hu) (by rfl) (sd_var 0) (sd_var 1)))))))) ss_nil)
    (ss_cons (ss_if (sb_val (sd_isi "str" (sd_var 1) T.z_isinstance T.z_str bt_str)) (ss_one (ss_ret (so_val (sd_and (sd_isi "str" (sd_var 0) T.z_isinstance T.z_str bt_str) (sd_one (sd_cmp r2_eq (op_eqD hu) (by rfl) (sd_var 0) (sd_var 1))))))) ss_nil)
    (ss_cons (ss_if (sb_val (sd_isi "dict" (sd_var 1) T.z_isinstance T.z_dict bt_dict)) sss_dead ss_nil)
    (ss_cons (ss_if (sb_cmp r2_ne (op_neD hu) (by rfl) (sd_isi "tuple" (sd_var 1) T.z_isinstance T.z_tuple bt_tuple) (sd_isi "tuple" (sd_var 0) T.z_isinstance T.z_tuple bt_tuple)) (ss_one (ss_ret (so_val sd_bl))) ss_nil)
    (ss_cons (ss_if (sb_cmp r2_ne (op_neD hu) (by rfl) (sd_isi "list" (sd_var 1) T.z_isinstance T.z_list bt_list) (sd_isi "list" (sd_var 0) T.z_isinstance T.z_list bt_list)) (ss_one (ss_ret (so_val sd_bl))) ss_nil)
    (ss_cons (ss_if (sb_cmp r2_ne (op_neD hu) (by rfl) (sd_callB rc_len call_lens (by rfl) T.z_len bt_len (sl_cons (sd_var 0) sl_nil)) (sd_callB rc_len call_lens (by rfl) T.z_len bt_len (sl_cons (sd_var 1) sl_nil))) (ss_one (ss_ret (so_val sd_bl))) ss_nil)
    (ss_one (ss_ret (so_val (sd_allT hh (by rfl) T.z_all bt_all (sl_cons (sd_frz (so_lcT [("_law_k", 3)] hh hN (sr_1T (by rfl) T.z_range (sl_cons (sd_callB rc_len call_lens (by rfl) T.z_len bt_len (sl_cons (sd_var 1) sl_nil)) sl_nil)) (blkOk_by (by rfl)) (fun _ _ _ _ _ => (sg_name 3 hN)) (fun _ _ _ _ _ => sts_nil) (fun _ _ _ _ _ => (sd_frz (so_callH ih rfl hr hh T.g__law_equal_z14 T.F__law_equal_z14.kp T.b__law_equal_z14 (sl_cons (sd_ix r2_ix ix_seq (sd_var 0) (sd_var 3)) (sl_cons (sd_ix r2_ix ix_seq (sd_var 1) (sd_var 3)) sl_nil))))))) sl_nil)))))))))))))
theorem sc_law_z14 : FnScope ["_law_script", "_law_d", "_law_k", "_law_one", "_law_two", "_law_due", "_law_good", "_law_e", "_law_other"] ["_law_script"] (defScope s_law_z14) := ⟨rfl, rfl, rfl, by decide +kernel, rfl, by decide +kernel, by decide +kernel⟩
theorem ok_law_z14 (T : Tx P K mg w) : FnOk P w K mg base (L2N.CX P w) 7 T.f_law_z14 T.d_law_z14 ["_law_script"] (spP K mg 1 F_law_z14) := by
    refine (fn_P (N := ["_law_script", "_law_d", "_law_k", "_law_one", "_law_two", "_law_due", "_law_good", "_law_e", "_law_other"]) (k := 6) (m := M_law_z14) T.F_law_z14 sc_law_z14 fun cdv A outer s H E hr => ?_)
    have hN : (["_law_script", "_law_d", "_law_k", "_law_one", "_law_two", "_law_due", "_law_good", "_law_e", "_law_other"] : List Str).Nodup := sc_law_z14.nd
    have hu := hr.units
    have tk := L2N.takes_of (X := cxOf (L2N.CX P w) P w K mg base ["_law_script", "_law_d", "_law_k", "_law_one", "_law_two", "_law_due", "_law_good", "_law_e", "_law_other"] "law" (defScope s_law_z14) T.f_law_z14 cdv A outer s H E) (E := E) rfl rfl rfl rfl
    have hp := passes_of (X := cxOf (L2N.CX P w) P w K mg base ["_law_script", "_law_d", "_law_k", "_law_one", "_law_two", "_law_due", "_law_good", "_law_e", "_law_other"] "law" (defScope s_law_z14) T.f_law_z14 cdv A outer s H E) rfl
    exact (ss_cons (ss_set 1 hN (so_call ((ok__law_random T).mono (by decide)) hr T.g__law_random T.F__law_random.kp T.b__law_random tk (sl_cons (sd_var 0) (sl_cons sd_int sl_nil))))
    (ss_cons (ss_for hp rfl (si_kill (si_r1 (by rfl) T.z_range (sl_cons sd_int sl_nil))) (sg_name 2 hN) (sss_kill (ss_cons (ss_set 3 hN (so_val (sd_frz (so_callL 1 ((ok__law_pick T).mono (by decide)) hr T.g__law_pick T.F__law_pick.kp T.b__law_pick tk (sl_cons (sd_frz (so_lst (sl_cons sd_str (sl_cons sd_str (sl_cons sd_int (sl_cons sd_non (sl_cons (sd_tup (sl_cons sd_int sl_nil)) (sl_cons (sd_frz (so_lst (sl_cons sd_int sl_nil))) sl_nil)))))))) sl_nil)))))
    (ss_cons (ss_set 4 hN (so_val (sd_frz (so_callL 1 ((ok__law_pick T).mono (by decide)) hr T.g__law_pick T.F__law_pick.kp T.b__law_pick tk (sl_cons (sd_frz (so_lst (sl_cons sd_int (sl_cons sd_non (sl_cons sd_str (sl_cons (sd_un r1_neg un_neg sd_int) sl_nil)))))) sl_nil)))))
    (ss_cons (ss_set 5 hN (so_val (sd_frz (so_lst sl_nil))))
    (ss_cons (ss_if (sb_cmp r2_cmp op_gt (by rfl) (sd_var 2) sd_int) (ss_one (ss_set 5 hN (so_val (sd_if (sb_cmp r2_cmp op_lt (by rfl) (sd_var 2) sd_int) (sd_frz (so_lst (sl_cons (sd_var 3) sl_nil))) (sd_frz (so_lst (sl_cons (sd_var 3) (sl_cons (sd_var 4) sl_nil)))))))) ss_nil)
    (ss_cons (ss_set 6 hN (so_val sd_bl))
    (ss_cons (ss_held rfl rfl hN tk (fun W pn xe tk hp => (ss_one (ss_expr (so_call ((ok__law_thrown_z14 T).mono (by decide)) hr T.g__law_thrown_z14 T.F__law_thrown_z14.kp T.b__law_thrown_z14 tk (sl_cons (sd_var 2) (sl_cons (sd_var 3) (sl_cons (sd_var 4) sl_nil))))))) (HdOk.cons ⟨by rfl, by decide, .inl T.g_LetterError⟩ T.h_LetterError (by rfl) (by rfl) (fun _ _ => (ss_cons (ss_set 6 hN (so_val (sd_and (sd_isXT "ValueError" (sd_var 7) T.i_ValueError T.z_isinstance T.z_ValueError bt_ValueError) (sd_one (sd_cmp r2_eq (op_eqD hu) (by rfl) (sd_frz (so_callH (FnT.mono (ok__law_classes_z14 T) (by decide)) rfl (roomT hr _) rfl T.g__law_classes_z14 T.F__law_classes_z14.kp T.b__law_classes_z14 (sl_cons (sd_var 7) sl_nil))) (sd_frz (so_lcT [("_law_other", 8)] rfl hN (sr_1T (by rfl) T.z_range (sl_cons sd_int sl_nil)) (blkOk_by (by rfl)) (fun _ _ _ _ _ => (sg_name 8 hN)) (fun _ _ _ _ _ => sts_nil) (fun _ _ _ _ _ => (sd_cmp r2_eq (op_eqD hu) (by rfl) (sd_var 8) (sd_var 2))))))))))
    (ss_one (ss_set 6 hN (so_val (sd_and (sd_var 6) (sd_one (sd_frz (so_callH (FnT.mono (ok__law_equal_z14 T 6) (by decide)) rfl (roomT hr _) rfl T.g__law_equal_z14 T.F__law_equal_z14.kp T.b__law_equal_z14 (sl_cons (sd_frz (so_callH (FnT.mono (ok__law_fields_z14 T) (by decide)) rfl (roomT hr _) rfl T.g__law_fields_z14 T.F__law_fields_z14.kp T.b__law_fields_z14 (sl_cons (sd_var 2) (sl_cons (sd_var 7) sl_nil)))) (sl_cons (sd_var 5) sl_nil))))))))))) HdOk.nil))
    (ss_one (ss_if (sb_not (sb_val (sd_var 6))) (ss_one (ss_ret (so_val sd_bl))) ss_nil))))))))))
    (ss_one (ss_ret (so_val sd_bl)))))
end
end Den

set_option maxHeartbeats 4000000
namespace Den
open PySem PySem.Spec PyProof.Rows L2
local macro_rules | `(tactic| array_get_dec) => `(tactic| repeat (first | (with_reducible (first | refine w_seq ?_ | refine kq_nx ?_ | refine kq_rt ?_ | refine w_bin ?_ | refine w_un ?_ | refine w_isi ?_ | refine w_val ?_ | refine w_frz ?_ | refine w_test ?_ | refine kt_bl ?_ | refine w_if ?_ | refine w_and ?_ | refine w_or ?_ | refine w_not ?_ | refine w_mAnd ?_ | refine w_mOr ?_ | refine w_mNot ?_ | refine w_chain ?_ | refine w_nil ?_ | refine w_cons ?_ | refine w_star ?_ | refine w_app ?_ | refine w_appL ?_ | refine w_binL ?_ | refine w_nx ?_ | refine w_drop ?_ | refine w_ret ?_ | refine w_retN ?_ | refine w_ifs ?_ | refine w_set ?_ | refine w_asg ?_ | refine w_seqI ?_ | refine w_K ?_ | refine w_setIx ?_ | refine kg_nx ?_ | refine kg_rt ?_ | refine sm_frzI ?_ | refine sm_frzK ?_ | refine w_dict0 ?_ | refine w_setF ?_ | refine w_fld ?_ | refine w_rev ?_ | refine w_r1 ?_ | refine w_en ?_ | refine w_zp ?_ | refine w_sl ?_ | refine w_pNo ?_ | refine w_pSo ?_ | refine w_for ?_ | refine w_compI ?_ | refine w_comp2I ?_ | refine w_isiC ?_ | refine sm_isiC ?_ | refine w_prop ?_ | refine w_yes ?_ | refine kb_t ?_ | refine kb_f ?_ | refine kl_nx ?_ | refine kl_rt ?_ | refine kf_nx ?_ | refine kf_v ?_ | refine kf_o ?_ | refine w_pre ?_ | refine w_iKill ?_ | refine w_kill ?_ | refine kk_nx ?_ | refine kk_rt ?_ | refine kse_nx ?_ | refine kse_rt ?_ | refine w_setK ?_ | refine w_copyK ?_ | refine w_disp ?_ | refine w_pairs ?_ | refine w_pairs0 ?_ | refine w_din ?_ | refine w_inT ?_ | refine w_items ?_ | refine w_values ?_ | refine w_keys ?_ | refine w_rg1 ?_ | refine w_rg2 ?_ | refine w_listR ?_ | refine w_r2 ?_ | refine w_split ?_ | refine w_join ?_ | refine w_par ?_ | refine w_kin ?_ | refine w_kix ?_ | refine w_call ?_ | refine sm_add ?_ | refine sm_sub ?_ | refine sm_neg ?_ | refine sm_cmp ?_ | refine sm_eqI ?_ | refine sm_neI ?_ | refine sm_intI ?_ | refine sm_absI ?_ | refine sm_lenT ?_ | refine sm_lenL ?_ | refine sm_tupL ?_ | refine sm_frzV ?_ | refine sm_frzL ?_ | refine sm_itT ?_ | refine sm_itL ?_ | refine sm_itS ?_ | refine sm_slT ?_ | refine sm_slL ?_ | refine w_tup ?_ | refine w_lst ?_)) | ((with_reducible refine' w_var ?e ?_); (case e => exact rfl)) | ((with_reducible refine' w_varO ?e ?f ?_); (case e => exact rfl); (case f => exact rfl)) | ((with_reducible refine' kput_v ?e ?_); (case e => exact rfl)) | ((with_reducible refine' kput_o ?e ?_); (case e => exact rfl)) | ((with_reducible refine' sm_gN ?e ?_); (case e => exact rfl)) | ((with_reducible refine' w_ixO ?e ?_); (case e => exact rfl)) | ((with_reducible refine' w_lenO ?e ?_); (case e => exact rfl)) | ((with_reducible refine' w_append ?e ?_); (case e => exact rfl)) | ((with_reducible refine' w_aug ?e ?_); (case e => exact rfl)) | ((with_reducible refine' w_getK ?e ?_); (case e => exact rfl)) | ((with_reducible refine' kb_tr ?e ?_); (case e => with_reducible assumption)) | ((with_reducible refine' kb_fr ?e ?_); (case e => with_reducible assumption)) | ((with_reducible refine' kb_tr ?e ?_); (case e => exact rfl)) | ((with_reducible refine' kb_fr ?e ?_); (case e => exact rfl)) | ((with_reducible refine' sm_isNr ?e ?_); (case e => exact rfl)) | ((with_reducible refine' sm_notNr ?e ?_); (case e => exact rfl)) | ((with_reducible refine' sm_neB ?e ?_); (case e => exact rfl)) | ((with_reducible refine' sm_mulTr ?e ?_); (case e => exact rfl)) | ((with_reducible refine' sm_gT ?e ?_); (case e => exact rfl)) | ((with_reducible refine' w_pop ?e ?_); (case e => exact rfl)) | ((with_reducible refine' w_take ?e ?_); (case e => exact rfl)) | ((with_reducible refine' w_takeV ?e ?_); (case e => exact rfl)) | ((with_reducible refine' sm_mod ?e ?_); (case e => first | with_reducible assumption | decide | omega)) | ((with_reducible refine' sm_mul ?e ?_); (case e => first | exact .inl (by with_reducible assumption) | exact .inr (by with_reducible assumption) | exact .inl (by decide +kernel) | exact .inr (by decide +kernel) | with_reducible assumption)) | ((with_reducible refine' sm_eqSf ?e ?_); (case e => decide +kernel)) | ((with_reducible refine' sm_eqSt ?e ?_); (case e => decide +kernel)) | ((with_reducible refine' sm_ixT ?e ?_); (case e => first | exact atI0 | exact atI1 | with_reducible assumption | exact atI_last _ _)) | ((with_reducible refine' sm_add1 ?e ?_); (case e => first | with_reducible assumption | exact fits_of (by first | (simp; done) | (simp; omega) | omega))) | ((with_reducible refine' sm_addT ?e ?_); (case e => first | with_reducible assumption | exact fits_of (by first | (simp; done) | (simp; omega) | omega))) | ((with_reducible refine' sm_ixL ?e ?_); (case e => first | exact atI0 | exact atI1 | with_reducible assumption | exact atI_last _ _)) | ((with_reducible refine' sm_pow ?e ?f ?g ?_); (case e => decide); (case f => decide); (case g => decide +kernel)) | ((with_reducible refine' sm_fdiv ?e ?f ?_); (case e => first | with_reducible assumption | decide); (case f => first | with_reducible assumption | decide +kernel)) | ((with_reducible refine' sm_dix ?e ?f ?_); (case e => exact rfl); (case f => first | with_reducible assumption | exact rfl)) | ((with_reducible refine' sm_isi ?e ?_ ?n ?x); (case e => exact rfl); (case n => exact fun _ _ z => (by cases z)); (case x => exact fun _ _ z => (by cases z))) | ((with_reducible refine' And.intro (show (i62 _ && i62 _ && decide _) = true from ?e) ?_); (case e => first | with_reducible assumption | exact lrs (by constructor <;> first | omega | (simp; done) | (simp; omega)) (by constructor <;> first | omega | (simp; done) | (simp; omega)))) | ((with_reducible refine' And.intro (show fits _ = true from ?e) ?_); (case e => first | with_reducible assumption | exact fits_of (by first | (simp; done) | (simp; omega) | omega | (simp only [Str.length_append]; omega)))) | ((with_reducible refine' And.intro ?e (fok_of ?f ?_)); (case e => exact rfl); (case f => array_mem_dec)) | ((with_reducible refine' And.intro (show i62 _ = true from ?e) ?_); (case e => first | exact i62_of (by constructor <;> first | omega | (simp; done) | (simp; omega)) | with_reducible assumption)) | ((with_reducible refine' w_draw ?e ?_); (case e => exact rfl)) | ((with_reducible refine' Exists.intro _ (Exists.intro _ (And.intro ?e (And.intro (show _ + 1 = _ from ?f) (And.intro (show DOk _ from ?g) ?_))))); (case e => exact rfl); (case f => exact rfl); (case g => with_reducible assumption)) | ((with_reducible refine' dthen ?e ?_); (case e => array_mem_dec)) | (with_reducible refine w_makeE ?_) | ((with_reducible refine' And.intro (show _ + 1 = _ from ?e) (mok_of ?f ?_)); (case e => exact rfl); (case f => array_mem_dec)) | ((with_reducible refine' And.intro (show List.length _ ≤ 15 from ?e) ?_); (case e => first | exact Nat.le_of_ble_eq_true rfl | with_reducible assumption)) | ((with_reducible refine' Exists.intro _ (Exists.intro _ (Exists.intro _ (Exists.intro _ (And.intro ?e (And.intro rfl (And.intro ?f ?_))))))); (case e => exact rfl); (case f => first | exact atI0 | exact atI1 | exact atI_last _ _ | exact ixN0 | exact ixN1 | exact ixN2 | with_reducible assumption)) | ((with_reducible refine' Exists.intro _ (Exists.intro _ (Exists.intro _ (And.intro ?e (And.intro ?f (And.intro ?g ?_)))))); (case e => exact rfl); (case f => exact rfl); (case g => first | exact fits_of (by first | (simp; done) | (simp; omega) | omega | (simp only [Str.length_append]; omega)) | with_reducible assumption)) | ((with_reducible refine' Exists.intro _ (Exists.intro _ (Exists.intro _ (And.intro ?e (And.intro ?f ?_))))); (case e => exact rfl); (case f => exact rfl)) | ((with_reducible refine' sm_addS ?f ?_); (case f => first | with_reducible assumption | exact fits_of (by first | omega | (simp only [Str.length_append]; omega)))) | ((with_reducible refine' sm_eqO ?f ?_); (case f => array_mem_dec)) | ((with_reducible refine' Exists.intro _ (Exists.intro _ (And.intro rfl (And.intro (show FOk _ _ _ from ?f) ?_)))); (case f => array_mem_dec)) | ((with_reducible refine' Exists.intro _ (Exists.intro _ (And.intro rfl (And.intro (show (i62 _ && i62 _) = true from ?e) ?_)))); (case e => first | with_reducible assumption | exact i62s (by constructor <;> first | omega | (simp; done) | (simp; omega)) (by constructor <;> first | omega | (simp; done) | (simp; omega)))) | ((with_reducible refine' Exists.intro _ (Exists.intro _ (And.intro rfl (And.intro (show free _ _ = true from ?e) (And.intro (show free _ _ = true from ?f) ?_))))); (case e => exact rfl); (case f => exact rfl)) | ((with_reducible refine' Exists.intro _ (Exists.intro _ (And.intro rfl (And.intro ?e ?_)))); (case e => exact rfl)) | ((with_reducible refine' Exists.intro _ (And.intro rfl (And.intro (show free _ _ = true from ?e) ?_))); (case e => exact rfl)) | (with_reducible refine Exists.intro _ (And.intro rfl ?_)) | ((with_reducible refine' Exists.intro _ (Exists.intro _ (And.intro ?e (And.intro ?f ?_)))); (case e => exact rfl); (case f => exact rfl)) | ((with_reducible refine' Exists.intro _ (Exists.intro _ (And.intro ?e ?_))); (case e => exact rfl)) | (with_reducible refine Exists.intro _ (Exists.intro _ (And.intro rfl ?_)))))
local macro_rules | `(tactic| sizeOf_list_dec) => `(tactic| first | with_reducible assumption | omega | decide)
theorem below_ok {n : Int} (hn : 0 < n) (hl : n.natAbs.log2 < 9000) : LOk F__law_below [.int n] fun d => ∃ r, d = .int r ∧ 0 ≤ r ∧ r < n := by
  refine lok rfl fun o ⟨a, b, r, e, ha, hb, hr, hlen⟩ => ?_
  subst e
  show W (M__law_below [some (.bor (.lst (.int a :: .int b :: r.map .int))), some (.val (.int n)), none]) _ _
  unfold M__law_below
  refine w_seq (W.imp (P := fun f s => f = .nx ∧ ∃ (a b : Int) (r : List Int), s = [some (.bor (.lst (.int a :: .int b :: r.map .int))), some (.val (.int n)), none] ∧ 0 ≤ a ∧ 0 ≤ b ∧ (∀ x ∈ r, 0 ≤ x) ∧ r.length ≤ 63) ?_ fun f s ⟨e, a, b, r, e2, ha, hb, hr, hlen⟩ => ?_)
  · array_get_dec
    refine ⟨fun hc => ?_, fun hc => ?_⟩
    · have hb0 : b = 0 := of_decide_eq_true hc
      subst hb0
      array_get_dec
      refine ⟨fun hc => ?_, fun hc => ?_⟩
      · have h2 : 2 < r.length + 2 := by
          have := of_decide_eq_true hc
          simp at this
          omega
        obtain ⟨x, r, rfl⟩ : ∃ x t, r = x :: t := by
          cases r with
          | nil => simp at h2
          | cons x t => exact ⟨x, t, rfl⟩
        have l2 : i62 2 = true := by decide +kernel
        array_get_dec
        exact ⟨rfl, a, x, r, rfl, ha, hr x (by simp), fun y hy => hr y (by simp [hy]), by simp at hlen; omega⟩
      · array_get_dec
        exact ⟨rfl, a, 0, r, rfl, ha, hb, hr, hlen⟩
    · array_get_dec
      exact ⟨rfl, a, b, r, rfl, ha, hb, hr, hlen⟩
  · subst e e2
    refine kq_nx ?_
    array_get_dec
    refine ⟨fun hc => ?_, fun hc => ?_⟩
    · array_get_dec
      exact kL_v rfl ⟨a, b / n, r, rfl, ha, Int.ediv_nonneg hb (by omega), hr, hlen⟩ ⟨_, rfl, Int.emod_nonneg _ (by omega), Int.emod_lt_of_pos _ hn⟩
    · array_get_dec
      exact kL_v rfl ⟨_, b, r, rfl, Int.emod_nonneg _ (by decide), hb, hr, hlen⟩ ⟨_, rfl, Int.emod_nonneg _ (by omega), Int.emod_lt_of_pos _ hn⟩
local macro_rules | `(tactic| array_mem_dec) => `(tactic| (with_reducible refine below_ok ?_ ?_) <;> sizeOf_list_dec)
theorem lg {n : Int} (h : n.natAbs < 2 ^ 200) : n.natAbs.log2 < 9000 := by
  by_cases e : n.natAbs = 0
  · rw [e]; decide
  · exact Nat.lt_of_lt_of_le ((Nat.log2_lt e).mpr h) (by decide)
theorem random_ok {ns : List Int} {salt : Int} (hl : ns.length ≤ 63) (hs : 0 ≤ salt) : FOk F__law_random [.scr ns, .int salt] fun r => ∃ o, r = .own o ∧ DOk o := by
  refine fok rfl ?_
  unfold M__law_random
  array_get_dec
  refine w_foldI (fun k => 0 ≤ k) D.int (fun k => [some (.val (.scr ns)), some (.val (.int salt)), some (.val (.int k)), none]) (fun (k j : Int) => (k * 31 + (if j < 0 then -j else j)) % 2147483647) ns salt rfl rfl hs (fun k j hk hj => ?_) fun hk => ?_
  · array_get_dec
    unfold B__law_random_1
    array_get_dec
    exact ⟨rfl, Int.emod_nonneg _ (by decide)⟩
  · generalize ns.foldl _ _ = k at hk
    array_get_dec
    refine w_fmap D.int (fun j => decide (1000000000000000000 ≤ j)) D.int rfl rfl rfl (by omega) (fun j hj => ?_) ?_
    · array_get_dec
      refine ⟨rfl, fun hc => ?_, fun hc => ?_⟩
      · array_get_dec
        exact ⟨rfl, rfl, rfl⟩
      · exact ⟨rfl, rfl⟩
    · array_get_dec
      have h1 : (ns.filter fun j => decide (1000000000000000000 ≤ j)).length ≤ 63 := Nat.le_trans (List.length_filter_le _ _) hl
      refine sm_cat (by simp; omega) ?_
      array_get_dec
      refine ⟨k, 0, _, rfl, hk, by omega, fun x hx => ?_, h1⟩
      have := of_decide_eq_true (List.mem_filter.mp hx).2
      omega
theorem get_ix {ds : List D} {i : Int} (h0 : 0 ≤ i) (h : i < (ds.length : Nat)) : ∃ d, atI ds i = some d ∧ d ∈ ds := by
  have hi : i.toNat < ds.length := by omega
  refine ⟨ds[i.toNat], ?_, List.getElem_mem hi⟩
  have e : ((i.toNat : Nat) : Int) = i := by omega
  have q := atI_nat (xs := ds) (j := i.toNat) (List.getElem?_eq_getElem hi)
  rw [e] at q
  exact q
theorem pick_map {α : Type} (f : α → D) (xs : List α) (h0 : xs ≠ []) (h1 : xs.length ≤ 1000) : LOk F__law_pick [.lst (xs.map f)] fun d => ∃ x, d = f x ∧ x ∈ xs := by
  have hp : 0 < xs.length := List.length_pos_iff.mpr h0
  refine lok rfl fun o ho => ?_
  show W (M__law_pick [some (.bor o), some (.val (.lst (xs.map f)))]) _ _
  unfold M__law_pick
  array_get_dec
  refine dthen (below_ok (by simp; omega) (lg ?_)) fun o' ho' r ⟨h0, hlt⟩ => ?_
  · have : xs.length < 2 ^ 200 := Nat.lt_of_le_of_lt h1 (by decide)
    simpa using this
  obtain ⟨d, e, hd⟩ := get_ix h0 hlt
  array_get_dec
  obtain ⟨x, hx, rfl⟩ := List.mem_map.mp hd
  exact kL_v rfl ho' ⟨x, rfl, hx⟩
def stepsN (w : Str) (ks : List Int) : List D := ks.map fun k => .tup [.str w, .int k]
def allSteps : List D := [.tup [.str "back"], .tup [.str "mirror"]] ++ stepsN "times" [2, 3] ++ stepsN "shift" [-3, -2, -1, 1, 2, 3] ++ stepsN "rise" [-2, -1, 1, 2] ++ stepsN "fall" [-2, -1, 1, 2] ++ stepsN "ahead" [-1, 1] ++ stepsN "behind" [-1, 1]
/-! steps, as plain things -/
inductive Stp where
  | back | mirror | times (k : Int) | shift (k : Int) | rise (k : Int) | fall (k : Int) | ahead (k : Int) | behind (k : Int)
  deriving DecidableEq
def Stp.d : Stp → D
  | .back => .tup [.str "back"]
  | .mirror => .tup [.str "mirror"]
  | .times k => .tup [.str "times", .int k]
  | .shift k => .tup [.str "shift", .int k]
  | .rise k => .tup [.str "rise", .int k]
  | .fall k => .tup [.str "fall", .int k]
  | .ahead k => .tup [.str "ahead", .int k]
  | .behind k => .tup [.str "behind", .int k]
def Stp.k : Stp → Int
  | .back => 0
  | .mirror => 0
  | .times k => k
  | .shift k => k
  | .rise k => k
  | .fall k => k
  | .ahead k => k
  | .behind k => k
def allS : List Stp := [.back, .mirror] ++ [2, 3].map .times ++ [-3, -2, -1, 1, 2, 3].map .shift ++ [-2, -1, 1, 2].map .rise ++ [-2, -1, 1, 2].map .fall ++ [-1, 1].map .ahead ++ [-1, 1].map .behind
def DrawnR {α : Type} (f : α → D) (Q : α → Prop) (st : O → S) (vs : List Nat) (y : D) (s2 : S) : Prop := ∃ x o', y = f x ∧ Q x ∧ DOk o' ∧ vs.all (plainAt s2) = true ∧ wipeS s2 vs = st o'
local macro_rules | `(tactic| array_mem_dec) => `(tactic| (with_reducible refine below_ok ?_ ?_) <;> sizeOf_list_dec)
/-- what a step makes of the letter at a place, before n -/
def sval (n L : Int) (x : Int → Int) : Stp → Int → Int
  | .back, p => x (L - 1 - p)
  | .mirror, p => n - 1 - x p
  | .times k, p => x p * k
  | .shift k, p => x p + k
  | .rise k, p => x p + k * p
  | .fall k, p => x p + k * (L - 1 - p)
  | .ahead k, p => if 0 < p then x p + k * x (p - 1) else x p
  | .behind k, p => if p + 1 < L then x p + k * x (p + 1) else x p
def tx (t : List Int) (p : Int) : Int := t.getD p.toNat 0
def act (n : Int) (t : List Int) (st : Stp) : List Int := (List.range t.length).map fun p => sval n (t.length : Nat) (tx t) st (p : Nat) % n
def Vt (n : Int) (t : List Int) : Prop := ∀ x ∈ t, 0 ≤ x ∧ x < n
def acts (n : Int) (t : List Int) (sts : List Stp) : List Int := sts.foldl (act n) t
/-! the steps, by the program -/
abbrev iD (t : List Int) : D := .tup (t.map .int)
section
variable {n k : Int} {t : List Int}
/-! the steps, by the law -/
end

section
variable {n k : Int} {t : List Int}
end

/-! equality of data, for the kernel -/
mutual
def D.beq : D → D → Bool
  | .non, .non => true
  | .bl a, .bl b => a == b
  | .int a, .int b => a == b
  | .str a, .str b => a == b
  | .tup a, .tup b => D.beqL a b
  | .ktup a, .ktup b => D.beqL a b
  | .lst a, .lst b => D.beqL a b
  | _, _ => false
def D.beqL : List D → List D → Bool
  | [], [] => true
  | a :: as, b :: bs => D.beq a b && D.beqL as bs
  | _, _ => false
end

mutual
theorem D.beq_eq : ∀ {a b : D}, D.beq a b = true → a = b
  | .non, .non, _ => rfl
  | .bl a, .bl b, h => by rw [eq_of_beq (show (a == b) = true from h)]
  | .int a, .int b, h => by rw [eq_of_beq (show (a == b) = true from h)]
  | .str a, .str b, h => by rw [eq_of_beq (show (a == b) = true from h)]
  | .tup a, .tup b, h => by rw [D.beqL_eq (show D.beqL a b = true from h)]
  | .ktup a, .ktup b, h => by rw [D.beqL_eq (show D.beqL a b = true from h)]
  | .lst a, .lst b, h => by rw [D.beqL_eq (show D.beqL a b = true from h)]
theorem D.beqL_eq : ∀ {a b : List D}, D.beqL a b = true → a = b
  | [], [], _ => rfl
  | a :: as, b :: bs, h => by
    have h : (D.beq a b && D.beqL as bs) = true := h
    rw [Bool.and_eq_true] at h
    rw [D.beq_eq h.1, D.beqL_eq h.2]
end

def chkV (F : FP) (ds : List D) (d : D) : Bool := match F ds with
  | .ok (.val d') _ => D.beq d' d
  | _ => false
/-! the law's own equality -/
def good : Nat → D → Bool
  | 0, _ => false
  | _ + 1, .non => true
  | _ + 1, .bl _ => true
  | _ + 1, .int _ => true
  | _ + 1, .str x => SeqAt.shaped (.str x)
  | k + 1, .tup xs => decide (xs.length ≤ 1000) && xs.all (good k)
  | k + 1, .lst xs => decide (xs.length ≤ 1000) && xs.all (good k)
  | _ + 1, _ => false
/-! the object is made -/
abbrev scO (sts : List Stp) : D := .obj "Script" [("rows", .tup (sts.map Stp.d))]
/-! k14: the law -/
def T14_2 : MS := (mSeq (mSet 5 (mVal (mFrz (mLst lNil)))) (mSeq (mIfS (mTest (mBin (gCmp gt') (mVar 2) (mK (.int 4)))) (mSet 5 (mVal (mIf (mTest (mBin (gCmp lt') (mVar 2) (mK (.int 8)))) (mFrz (mLst (lCons (mVar 3) lNil))) (mFrz (mLst (lCons (mVar 3) (lCons (mVar 4) lNil))))))) mNx) (mSeq (mSet 6 (mVal (mK (.bl false)))) (mSeq (mTryH (mDrop (mCall F__law_thrown_z14 3 (lCons (mVar 2) (lCons (mVar 3) (lCons (mVar 4) lNil))))) [(mt_LetterError_z14, 7, (mSeq (mSet 6 (mVal (mAnd (mIsX isx_ValueError_z14 (mVar 7)) (mBin gEq (mFrz (mCallT F__law_classes_z14 1 (lCons (mVar 7) lNil))) (mFrz (mComp [8] (iR1 (lCons (mK (.int 9)) lNil)) (gN 8) bYes (mBin gEq (mVar 8) (mVar 2))))))))
    (mSet 6 (mVal (mAnd (mVar 6) (mFrz (mCallT (F__law_equal_z14 6) 2 (lCons (mFrz (mCallT F__law_fields_z14 2 (lCons (mVar 2) (lCons (mVar 7) lNil)))) (lCons (mVar 5) lNil)))))))))]) (mIfS (bNot (mTest (mVar 6))) (mRet (mVal (mK (.bl false)))) mNx)))))
theorem T14_2_eq : (mSeq (mSet 5 (mVal (mFrz (mLst lNil)))) (mSeq (mIfS (mTest (mBin (gCmp gt') (mVar 2) (mK (.int 4)))) (mSet 5 (mVal (mIf (mTest (mBin (gCmp lt') (mVar 2) (mK (.int 8)))) (mFrz (mLst (lCons (mVar 3) lNil))) (mFrz (mLst (lCons (mVar 3) (lCons (mVar 4) lNil))))))) mNx) (mSeq (mSet 6 (mVal (mK (.bl false)))) (mSeq (mTryH (mDrop (mCall F__law_thrown_z14 3 (lCons (mVar 2) (lCons (mVar 3) (lCons (mVar 4) lNil))))) [(mt_LetterError_z14, 7, (mSeq (mSet 6 (mVal (mAnd (mIsX isx_ValueError_z14 (mVar 7)) (mBin gEq (mFrz (mCallT F__law_classes_z14 1 (lCons (mVar 7) lNil))) (mFrz (mComp [8] (iR1 (lCons (mK (.int 9)) lNil)) (gN 8) bYes (mBin gEq (mVar 8) (mVar 2))))))))
    (mSet 6 (mVal (mAnd (mVar 6) (mFrz (mCallT (F__law_equal_z14 6) 2 (lCons (mFrz (mCallT F__law_fields_z14 2 (lCons (mVar 2) (lCons (mVar 7) lNil)))) (lCons (mVar 5) lNil)))))))))]) (mIfS (bNot (mTest (mVar 6))) (mRet (mVal (mK (.bl false)))) mNx))))) = T14_2 := rfl

def due14 (k : Int) (one two : D) : D := if k ≤ 4 then .lst [] else if k < 8 then .lst [one] else .lst [one, two]
def ones14 : List D := [.str "a", .str "", .int 7, .non, .tup [.int 1], .lst [.int 2]]
def twos14 : List D := [.int 0, .non, .str "b", .int (-1)]
section
variable {ns : List Int} {o : O}
abbrev s14 (ns : List Int) (o : O) (k : Int) (one two : D) : S := [some (.val (.scr ns)), some (.own o), some (.val (.int k)), some (.val one), some (.val two), none, none, none, none]
abbrev e14 (ns : List Int) (o : O) (k : Int) (one two : D) : S := [some (.val (.scr ns)), some (.own o), some (.val (.int k)), some (.val one), some (.val two), some (.val (due14 k one two)), some (.val (.bl true)), none, none]
/-- a round, the fields drawn: each error in each way -/
theorem rest14 : ∀ j : Nat, j < 9 → ∀ one ∈ ones14, ∀ two ∈ twos14, T14_2 (s14 ns o (j : Nat) one two) = .ok .nx (e14 ns o (j : Nat) one two) := by
  intro j hj one h1 two h2
  unfold ones14 at h1
  unfold twos14 at h2
  simp only [List.mem_cons, List.not_mem_nil, or_false] at h1 h2
  match j, hj with
  | 0, _ => rcases h1 with rfl | rfl | rfl | rfl | rfl | rfl <;> rcases h2 with rfl | rfl | rfl | rfl <;> kernel_rfl
  | 1, _ => rcases h1 with rfl | rfl | rfl | rfl | rfl | rfl <;> rcases h2 with rfl | rfl | rfl | rfl <;> kernel_rfl
  | 2, _ => rcases h1 with rfl | rfl | rfl | rfl | rfl | rfl <;> rcases h2 with rfl | rfl | rfl | rfl <;> kernel_rfl
  | 3, _ => rcases h1 with rfl | rfl | rfl | rfl | rfl | rfl <;> rcases h2 with rfl | rfl | rfl | rfl <;> kernel_rfl
  | 4, _ => rcases h1 with rfl | rfl | rfl | rfl | rfl | rfl <;> rcases h2 with rfl | rfl | rfl | rfl <;> kernel_rfl
  | 5, _ => rcases h1 with rfl | rfl | rfl | rfl | rfl | rfl <;> rcases h2 with rfl | rfl | rfl | rfl <;> kernel_rfl
  | 6, _ => rcases h1 with rfl | rfl | rfl | rfl | rfl | rfl <;> rcases h2 with rfl | rfl | rfl | rfl <;> kernel_rfl
  | 7, _ => rcases h1 with rfl | rfl | rfl | rfl | rfl | rfl <;> rcases h2 with rfl | rfl | rfl | rfl <;> kernel_rfl
  | 8, _ => rcases h1 with rfl | rfl | rfl | rfl | rfl | rfl <;> rcases h2 with rfl | rfl | rfl | rfl <;> kernel_rfl
  | n + 9, h => exact absurd h (by omega)
theorem turn14 {j : Nat} (hj : j < 9) (ho : DOk o) : W (B_law_z14_1 [some (.val (.scr ns)), some (.own o), some (.val (.int (j : Nat))), none, none, none, none, none, none]) (fun f s => f = .nx ∧ ∃ o1 one two, DOk o1 ∧ s = e14 ns o1 (j : Nat) one two) E9 := by
  unfold B_law_z14_1
  rw [T14_2_eq]
  array_get_dec
  refine dthen (pick_map id ones14 (by decide) (by decide)) fun o1 ho1 one h1 => ?_
  array_get_dec
  refine dthen (pick_map id twos14 (by decide) (by decide)) fun o2 ho2 two h2 => ?_
  array_get_dec
  show W (T14_2 (s14 ns o2 (j : Nat) one two)) _ _
  rw [rest14 j hj one h1 two h2]
  with_unfolding_all exact ⟨rfl, o2, one, two, ho2, rfl⟩
theorem law14 (hl : ns.length ≤ 63) : FOk F_law_z14 [.scr ns] fun r => r = .val (.bl true) := by
  refine fok rfl ?_
  unfold M_law_z14
  array_get_dec
  refine And.intro rfl ((random_ok hl (by decide)).imp ?_)
  rintro r ⟨o, rfl, ho⟩
  array_get_dec
  refine w_loopO (fun o => [some (.val (.scr ns)), some (.own o), none, none, none, none, none, none, none]) rfl ho (fun j o hj ho => ?_) fun o ho => ?_
  · array_get_dec
    refine W.imp (turn14 hj ho) ?_
    rintro f s ⟨rfl, o1, one, two, ho1, rfl⟩
    exact ⟨o1, ho1, rfl⟩
  · array_get_dec
    rfl
theorem pure_law : ∀ ns : List Int, ns.length ≤ 63 → ∃ s, F_law_z14 [.scr ns] = .ok (.val (.bl true)) s := fun ns hl => by
  obtain ⟨r, s, e, _, rfl⟩ := (law14 hl).get
  exact ⟨s, e⟩
end

end Den
set_option Elab.async false
set_option linter.all false
set_option maxRecDepth 100000
set_option maxHeartbeats 8000000
namespace Den
open PySem PySem.Spec PyProof.Rows L2
theorem all_mk {P0 : Program} {w : World} {K : PySem.W.Frag} {h : Heap} {mg : Str → Option Value} {fa : Addr} (X : K.In h) (G : h.Ns mainGlobals mg) (hfa : mg "law" = some (.ref fa))
    {f_law_random : Addr} {od_law_random an_law_random : Option Addr} {sl_law_random : Array (Option Value)} {oc_law_random kV_law_random dc_law_random pm_law_random cd_law_random ct_law_random : Value} (a_law_random : PySem.W.nsIn K mainGlobals "_law_random" = some (some (.ref f_law_random)))
     (l_law_random : K.lookup f_law_random = some ⟨oc_law_random, od_law_random, .func (PySem.W.fnOf "_law_random" "_law_random" (defArgs s__law_random) (defBody s__law_random) (defScope s__law_random) .none kV_law_random dc_law_random pm_law_random an_law_random cd_law_random ct_law_random), sl_law_random⟩)
     (c_law_random : PySem.W.codeIn K cd_law_random "_law_random" = true)
     (k_law_random : PySem.W.keepIn K (.ref f_law_random) = true)
    {f_law_below : Addr} {od_law_below an_law_below : Option Addr} {sl_law_below : Array (Option Value)} {oc_law_below kV_law_below dc_law_below pm_law_below cd_law_below ct_law_below : Value} (a_law_below : PySem.W.nsIn K mainGlobals "_law_below" = some (some (.ref f_law_below)))
     (l_law_below : K.lookup f_law_below = some ⟨oc_law_below, od_law_below, .func (PySem.W.fnOf "_law_below" "_law_below" (defArgs s__law_below) (defBody s__law_below) (defScope s__law_below) .none kV_law_below dc_law_below pm_law_below an_law_below cd_law_below ct_law_below), sl_law_below⟩)
     (c_law_below : PySem.W.codeIn K cd_law_below "_law_below" = true)
     (k_law_below : PySem.W.keepIn K (.ref f_law_below) = true)
    {f_law_classes_z14 : Addr} {od_law_classes_z14 an_law_classes_z14 : Option Addr} {sl_law_classes_z14 : Array (Option Value)} {oc_law_classes_z14 kV_law_classes_z14 dc_law_classes_z14 pm_law_classes_z14 cd_law_classes_z14 ct_law_classes_z14 : Value} (a_law_classes_z14 : PySem.W.nsIn K mainGlobals "_law_classes" = some (some (.ref f_law_classes_z14)))
     (l_law_classes_z14 : K.lookup f_law_classes_z14 = some ⟨oc_law_classes_z14, od_law_classes_z14, .func (PySem.W.fnOf "_law_classes" "_law_classes" (defArgs s__law_classes_z14) (defBody s__law_classes_z14) (defScope s__law_classes_z14) .none kV_law_classes_z14 dc_law_classes_z14 pm_law_classes_z14 an_law_classes_z14 cd_law_classes_z14 ct_law_classes_z14), sl_law_classes_z14⟩)
     (c_law_classes_z14 : PySem.W.codeIn K cd_law_classes_z14 "_law_classes" = true)
     (k_law_classes_z14 : PySem.W.keepIn K (.ref f_law_classes_z14) = true)
    {f_law_fields_z14 : Addr} {od_law_fields_z14 an_law_fields_z14 : Option Addr} {sl_law_fields_z14 : Array (Option Value)} {oc_law_fields_z14 kV_law_fields_z14 dc_law_fields_z14 pm_law_fields_z14 cd_law_fields_z14 ct_law_fields_z14 : Value} (a_law_fields_z14 : PySem.W.nsIn K mainGlobals "_law_fields" = some (some (.ref f_law_fields_z14)))
     (l_law_fields_z14 : K.lookup f_law_fields_z14 = some ⟨oc_law_fields_z14, od_law_fields_z14, .func (PySem.W.fnOf "_law_fields" "_law_fields" (defArgs s__law_fields_z14) (defBody s__law_fields_z14) (defScope s__law_fields_z14) .none kV_law_fields_z14 dc_law_fields_z14 pm_law_fields_z14 an_law_fields_z14 cd_law_fields_z14 ct_law_fields_z14), sl_law_fields_z14⟩)
     (c_law_fields_z14 : PySem.W.codeIn K cd_law_fields_z14 "_law_fields" = true)
     (k_law_fields_z14 : PySem.W.keepIn K (.ref f_law_fields_z14) = true)
    {f_law_pick : Addr} {od_law_pick an_law_pick : Option Addr} {sl_law_pick : Array (Option Value)} {oc_law_pick kV_law_pick dc_law_pick pm_law_pick cd_law_pick ct_law_pick : Value} (a_law_pick : PySem.W.nsIn K mainGlobals "_law_pick" = some (some (.ref f_law_pick)))
     (l_law_pick : K.lookup f_law_pick = some ⟨oc_law_pick, od_law_pick, .func (PySem.W.fnOf "_law_pick" "_law_pick" (defArgs s__law_pick) (defBody s__law_pick) (defScope s__law_pick) .none kV_law_pick dc_law_pick pm_law_pick an_law_pick cd_law_pick ct_law_pick), sl_law_pick⟩)
     (c_law_pick : PySem.W.codeIn K cd_law_pick "_law_pick" = true)
     (k_law_pick : PySem.W.keepIn K (.ref f_law_pick) = true)
    {f_law_thrown_z14 : Addr} {od_law_thrown_z14 an_law_thrown_z14 : Option Addr} {sl_law_thrown_z14 : Array (Option Value)} {oc_law_thrown_z14 kV_law_thrown_z14 dc_law_thrown_z14 pm_law_thrown_z14 cd_law_thrown_z14 ct_law_thrown_z14 : Value} (a_law_thrown_z14 : PySem.W.nsIn K mainGlobals "_law_thrown" = some (some (.ref f_law_thrown_z14)))
     (l_law_thrown_z14 : K.lookup f_law_thrown_z14 = some ⟨oc_law_thrown_z14, od_law_thrown_z14, .func (PySem.W.fnOf "_law_thrown" "_law_thrown" (defArgs s__law_thrown_z14) (defBody s__law_thrown_z14) (defScope s__law_thrown_z14) .none kV_law_thrown_z14 dc_law_thrown_z14 pm_law_thrown_z14 an_law_thrown_z14 cd_law_thrown_z14 ct_law_thrown_z14), sl_law_thrown_z14⟩)
     (c_law_thrown_z14 : PySem.W.codeIn K cd_law_thrown_z14 "_law_thrown" = true)
     (k_law_thrown_z14 : PySem.W.keepIn K (.ref f_law_thrown_z14) = true)
    {f_law_equal_z14 : Addr} {od_law_equal_z14 an_law_equal_z14 : Option Addr} {sl_law_equal_z14 : Array (Option Value)} {oc_law_equal_z14 kV_law_equal_z14 dc_law_equal_z14 pm_law_equal_z14 cd_law_equal_z14 ct_law_equal_z14 : Value} (a_law_equal_z14 : PySem.W.nsIn K mainGlobals "_law_equal" = some (some (.ref f_law_equal_z14)))
     (l_law_equal_z14 : K.lookup f_law_equal_z14 = some ⟨oc_law_equal_z14, od_law_equal_z14, .func (PySem.W.fnOf "_law_equal" "_law_equal" (defArgs s__law_equal_z14) (defBody s__law_equal_z14) (defScope s__law_equal_z14) .none kV_law_equal_z14 dc_law_equal_z14 pm_law_equal_z14 an_law_equal_z14 cd_law_equal_z14 ct_law_equal_z14), sl_law_equal_z14⟩)
     (c_law_equal_z14 : PySem.W.codeIn K cd_law_equal_z14 "_law_equal" = true)
     (k_law_equal_z14 : PySem.W.keepIn K (.ref f_law_equal_z14) = true)
    {flaw_z14 : Addr} {odlaw_z14 anlaw_z14 : Option Addr} {sllaw_z14 : Array (Option Value)} {oclaw_z14 kVlaw_z14 dclaw_z14 pmlaw_z14 cdlaw_z14 ctlaw_z14 : Value} (alaw_z14 : PySem.W.nsIn K mainGlobals "law" = some (some (.ref flaw_z14)))
     (llaw_z14 : K.lookup flaw_z14 = some ⟨oclaw_z14, odlaw_z14, .func (PySem.W.fnOf "law" "law" (defArgs s_law_z14) (defBody s_law_z14) (defScope s_law_z14) .none kVlaw_z14 dclaw_z14 pmlaw_z14 anlaw_z14 cdlaw_z14 ctlaw_z14), sllaw_z14⟩)
     (claw_z14 : PySem.W.codeIn K cdlaw_z14 "law" = true)
     (klaw_z14 : PySem.W.keepIn K (.ref flaw_z14) = true)
     (zValueError : PySem.W.nsIn K mainGlobals "ValueError" = some none)
     (zabs : PySem.W.nsIn K mainGlobals "abs" = some none)
     (zall : PySem.W.nsIn K mainGlobals "all" = some none)
     (zbool : PySem.W.nsIn K mainGlobals "bool" = some none)
     (zdict : PySem.W.nsIn K mainGlobals "dict" = some none)
     (zint : PySem.W.nsIn K mainGlobals "int" = some none)
     (zisinstance : PySem.W.nsIn K mainGlobals "isinstance" = some none)
     (zlen : PySem.W.nsIn K mainGlobals "len" = some none)
     (zlist : PySem.W.nsIn K mainGlobals "list" = some none)
     (zrange : PySem.W.nsIn K mainGlobals "range" = some none)
     (zstr : PySem.W.nsIn K mainGlobals "str" = some none)
     (ztuple : PySem.W.nsIn K mainGlobals "tuple" = some none)
    {cBadChoice : Addr} (CBadChoice : PySem.W.nsIn K mainGlobals "BadChoice" = some (some (.ref cBadChoice)))
    {cBadLength : Addr} (CBadLength : PySem.W.nsIn K mainGlobals "BadLength" = some (some (.ref cBadLength)))
    {cBadLine : Addr} (CBadLine : PySem.W.nsIn K mainGlobals "BadLine" = some (some (.ref cBadLine)))
    {cBadPlace : Addr} (CBadPlace : PySem.W.nsIn K mainGlobals "BadPlace" = some (some (.ref cBadPlace)))
    {cBadSeen : Addr} (CBadSeen : PySem.W.nsIn K mainGlobals "BadSeen" = some (some (.ref cBadSeen)))
    {cBadSize : Addr} (CBadSize : PySem.W.nsIn K mainGlobals "BadSize" = some (some (.ref cBadSize)))
    {cBadSteps : Addr} (CBadSteps : PySem.W.nsIn K mainGlobals "BadSteps" = some (some (.ref cBadSteps)))
    {cBadText : Addr} (CBadText : PySem.W.nsIn K mainGlobals "BadText" = some (some (.ref cBadText)))
    {cLetterError : Addr} (CLetterError : PySem.W.nsIn K mainGlobals "LetterError" = some (some (.ref cLetterError)))
    {cTooLong : Addr} (CTooLong : PySem.W.nsIn K mainGlobals "TooLong" = some (some (.ref cTooLong)))
     (x1BadLength : PySem.W.excIn K cBadLength [.type "ValueError", .type "Exception", .type "BaseException", .type "object"] "ValueError.__new__" = true)
     (x2BadLength : PySem.W.keepIn K (.ref cBadLength) = true)
     (x3BadLength : PySem.W.subIn K (.ref cBadLength) (.type "BaseException") = some true)
     (x4BadLength : PySem.W.typeIn K (.ref cBadLength) = some (.type "type"))
     (x1BadPlace : PySem.W.excIn K cBadPlace [.type "ValueError", .type "Exception", .type "BaseException", .type "object"] "ValueError.__new__" = true)
     (x2BadPlace : PySem.W.keepIn K (.ref cBadPlace) = true)
     (x3BadPlace : PySem.W.subIn K (.ref cBadPlace) (.type "BaseException") = some true)
     (x4BadPlace : PySem.W.typeIn K (.ref cBadPlace) = some (.type "type"))
     (x1BadSize : PySem.W.excIn K cBadSize [.type "ValueError", .type "Exception", .type "BaseException", .type "object"] "ValueError.__new__" = true)
     (x2BadSize : PySem.W.keepIn K (.ref cBadSize) = true)
     (x3BadSize : PySem.W.subIn K (.ref cBadSize) (.type "BaseException") = some true)
     (x4BadSize : PySem.W.typeIn K (.ref cBadSize) = some (.type "type"))
     (x1BadText : PySem.W.excIn K cBadText [.type "ValueError", .type "Exception", .type "BaseException", .type "object"] "ValueError.__new__" = true)
     (x2BadText : PySem.W.keepIn K (.ref cBadText) = true)
     (x3BadText : PySem.W.subIn K (.ref cBadText) (.type "BaseException") = some true)
     (x4BadText : PySem.W.typeIn K (.ref cBadText) = some (.type "type"))
     (x1TooLong : PySem.W.excIn K cTooLong [.type "ValueError", .type "Exception", .type "BaseException", .type "object"] "ValueError.__new__" = true)
     (x2TooLong : PySem.W.keepIn K (.ref cTooLong) = true)
     (x3TooLong : PySem.W.subIn K (.ref cTooLong) (.type "BaseException") = some true)
     (x4TooLong : PySem.W.typeIn K (.ref cTooLong) = some (.type "type"))
    {fBadChoice___init__ ccBadChoice___init__ cdaBadChoice___init__ : Addr} {odBadChoice___init__ anBadChoice___init__ : Option Addr} {slBadChoice___init__ : Array (Option Value)} {ocBadChoice___init__ kVBadChoice___init__ dcBadChoice___init__ pmBadChoice___init__ ctBadChoice___init__ : Value} (iBadChoice___init__ : PySem.W.findIn K (.ref cBadChoice) "__init__" = some (some (.ref fBadChoice___init__)))
     (lBadChoice___init__ : K.lookup fBadChoice___init__ = some ⟨ocBadChoice___init__, odBadChoice___init__, .func (PySem.W.fnX "__init__" "BadChoice.__init__" (defArgs s_BadChoice___init__) (defBody s_BadChoice___init__) (defScope s_BadChoice___init__) [("__class__", ccBadChoice___init__)] .none kVBadChoice___init__ dcBadChoice___init__ pmBadChoice___init__ anBadChoice___init__ (.ref cdaBadChoice___init__) ctBadChoice___init__), slBadChoice___init__⟩)
     (cBadChoice___init__ : PySem.W.codeIn K (.ref cdaBadChoice___init__) "BadChoice.__init__" = true)
     (yBadChoice___init__ : PySem.W.typeIn K (.ref fBadChoice___init__) = some (.type "function"))
    {nmBadChoice qBadChoice : Str} {NBadChoice : Addr} {bsBadChoice bmBadChoice subBadChoice : List Value} {snBadChoice : List Str} {abBadChoice : Bool} {colBadChoice : Option Bool} {ddBadChoice : Option Addr} {k0BadChoice k1BadChoice k2BadChoice k3BadChoice k5BadChoice : Option Value} (oc1BadChoice : K.lookup cBadChoice = some (excClassObj nmBadChoice qBadChoice cBadChoice NBadChoice bsBadChoice bmBadChoice true snBadChoice subBadChoice abBadChoice colBadChoice ddBadChoice k0BadChoice k1BadChoice k2BadChoice k3BadChoice k5BadChoice "ValueError.__new__"))
     (oc2BadChoice : PySem.HandSPX.refsVE bmBadChoice = true)
     (oc3BadChoice : PySem.W.findIn K (.ref cBadChoice) "__setattr__" = some (some (.builtin "object.__setattr__")))
     (x2BadChoice : PySem.W.keepIn K (.ref cBadChoice) = true)
     (x3BadChoice : PySem.W.subIn K (.ref cBadChoice) (.type "BaseException") = some true)
     (x4BadChoice : PySem.W.typeIn K (.ref cBadChoice) = some (.type "type"))
    {ceaBadChoice : Value} {cebBadChoice : Option Addr} {cesBadChoice : Array (Option Value)} (ceBadChoice : K.lookup ccBadChoice___init__ = some ⟨ceaBadChoice, cebBadChoice, .cell (some (.ref cBadChoice)), cesBadChoice⟩)
    {coaBadChoice : Value} {cobBadChoice : Option Addr} {covBadChoice : Array Value} {cosBadChoice : Array (Option Value)} (coBadChoice : K.lookup cdaBadChoice___init__ = some ⟨coaBadChoice, cobBadChoice, .fields covBadChoice, cosBadChoice⟩)
    {cfiBadChoice : Str} {cftBadChoice : Tok} (cvBadChoice : covBadChoice[2]? = some (.str cfiBadChoice cftBadChoice))
     (cfBadChoice : ((P0.main.file : Str) == cfiBadChoice) = true)
     (opBadChoice : PySem.W.nsIn K cStatics "thirdparty.any" = some none)
     (siBadChoice : PySem.W.ks_superIn K cBadChoice cBadChoice "__init__" = some (some (.builtin "ValueError.__init__")))
     (suBadChoice : PySem.W.subIn K (.ref cBadChoice) (.type "ValueError") = some true)
     (seBadChoice : PySem.W.mroIn K cBadChoice (.ref cBadChoice) = some true)
     (toBadChoice : (P0.main.scope.names.lookup ("super" : Str)).isSome = false)
     (zsuper : PySem.W.nsIn K mainGlobals "super" = some none)
     (gaBadChoice : PySem.W.findIn K (.ref cBadChoice) "__getattribute__" = some (some (.builtin "BaseException.__getattribute__")))
     (ggBadChoice : PySem.W.findIn K (.ref cBadChoice) "__getattr__" = some none)
     (hd2BadChoice : PySem.W.hasDictIn K cBadChoice = true)
     (vfBadChoiceindex : PySem.W.findIn K (.ref cBadChoice) "index" = some none)
    {fBadLine___init__ ccBadLine___init__ cdaBadLine___init__ : Addr} {odBadLine___init__ anBadLine___init__ : Option Addr} {slBadLine___init__ : Array (Option Value)} {ocBadLine___init__ kVBadLine___init__ dcBadLine___init__ pmBadLine___init__ ctBadLine___init__ : Value} (iBadLine___init__ : PySem.W.findIn K (.ref cBadLine) "__init__" = some (some (.ref fBadLine___init__)))
     (lBadLine___init__ : K.lookup fBadLine___init__ = some ⟨ocBadLine___init__, odBadLine___init__, .func (PySem.W.fnX "__init__" "BadLine.__init__" (defArgs s_BadLine___init__) (defBody s_BadLine___init__) (defScope s_BadLine___init__) [("__class__", ccBadLine___init__)] .none kVBadLine___init__ dcBadLine___init__ pmBadLine___init__ anBadLine___init__ (.ref cdaBadLine___init__) ctBadLine___init__), slBadLine___init__⟩)
     (cBadLine___init__ : PySem.W.codeIn K (.ref cdaBadLine___init__) "BadLine.__init__" = true)
     (yBadLine___init__ : PySem.W.typeIn K (.ref fBadLine___init__) = some (.type "function"))
    {nmBadLine qBadLine : Str} {NBadLine : Addr} {bsBadLine bmBadLine subBadLine : List Value} {snBadLine : List Str} {abBadLine : Bool} {colBadLine : Option Bool} {ddBadLine : Option Addr} {k0BadLine k1BadLine k2BadLine k3BadLine k5BadLine : Option Value} (oc1BadLine : K.lookup cBadLine = some (excClassObj nmBadLine qBadLine cBadLine NBadLine bsBadLine bmBadLine true snBadLine subBadLine abBadLine colBadLine ddBadLine k0BadLine k1BadLine k2BadLine k3BadLine k5BadLine "ValueError.__new__"))
     (oc2BadLine : PySem.HandSPX.refsVE bmBadLine = true)
     (oc3BadLine : PySem.W.findIn K (.ref cBadLine) "__setattr__" = some (some (.builtin "object.__setattr__")))
     (x2BadLine : PySem.W.keepIn K (.ref cBadLine) = true)
     (x3BadLine : PySem.W.subIn K (.ref cBadLine) (.type "BaseException") = some true)
     (x4BadLine : PySem.W.typeIn K (.ref cBadLine) = some (.type "type"))
    {ceaBadLine : Value} {cebBadLine : Option Addr} {cesBadLine : Array (Option Value)} (ceBadLine : K.lookup ccBadLine___init__ = some ⟨ceaBadLine, cebBadLine, .cell (some (.ref cBadLine)), cesBadLine⟩)
    {coaBadLine : Value} {cobBadLine : Option Addr} {covBadLine : Array Value} {cosBadLine : Array (Option Value)} (coBadLine : K.lookup cdaBadLine___init__ = some ⟨coaBadLine, cobBadLine, .fields covBadLine, cosBadLine⟩)
    {cfiBadLine : Str} {cftBadLine : Tok} (cvBadLine : covBadLine[2]? = some (.str cfiBadLine cftBadLine))
     (cfBadLine : ((P0.main.file : Str) == cfiBadLine) = true)
     (opBadLine : PySem.W.nsIn K cStatics "thirdparty.any" = some none)
     (siBadLine : PySem.W.ks_superIn K cBadLine cBadLine "__init__" = some (some (.builtin "ValueError.__init__")))
     (suBadLine : PySem.W.subIn K (.ref cBadLine) (.type "ValueError") = some true)
     (seBadLine : PySem.W.mroIn K cBadLine (.ref cBadLine) = some true)
     (toBadLine : (P0.main.scope.names.lookup ("super" : Str)).isSome = false)
     (gaBadLine : PySem.W.findIn K (.ref cBadLine) "__getattribute__" = some (some (.builtin "BaseException.__getattribute__")))
     (ggBadLine : PySem.W.findIn K (.ref cBadLine) "__getattr__" = some none)
     (hd2BadLine : PySem.W.hasDictIn K cBadLine = true)
     (vfBadLineline : PySem.W.findIn K (.ref cBadLine) "line" = some none)
     (vfBadLineword : PySem.W.findIn K (.ref cBadLine) "word" = some none)
    {fBadSeen___init__ ccBadSeen___init__ cdaBadSeen___init__ : Addr} {odBadSeen___init__ anBadSeen___init__ : Option Addr} {slBadSeen___init__ : Array (Option Value)} {ocBadSeen___init__ kVBadSeen___init__ dcBadSeen___init__ pmBadSeen___init__ ctBadSeen___init__ : Value} (iBadSeen___init__ : PySem.W.findIn K (.ref cBadSeen) "__init__" = some (some (.ref fBadSeen___init__)))
     (lBadSeen___init__ : K.lookup fBadSeen___init__ = some ⟨ocBadSeen___init__, odBadSeen___init__, .func (PySem.W.fnX "__init__" "BadSeen.__init__" (defArgs s_BadSeen___init__) (defBody s_BadSeen___init__) (defScope s_BadSeen___init__) [("__class__", ccBadSeen___init__)] .none kVBadSeen___init__ dcBadSeen___init__ pmBadSeen___init__ anBadSeen___init__ (.ref cdaBadSeen___init__) ctBadSeen___init__), slBadSeen___init__⟩)
     (cBadSeen___init__ : PySem.W.codeIn K (.ref cdaBadSeen___init__) "BadSeen.__init__" = true)
     (yBadSeen___init__ : PySem.W.typeIn K (.ref fBadSeen___init__) = some (.type "function"))
    {nmBadSeen qBadSeen : Str} {NBadSeen : Addr} {bsBadSeen bmBadSeen subBadSeen : List Value} {snBadSeen : List Str} {abBadSeen : Bool} {colBadSeen : Option Bool} {ddBadSeen : Option Addr} {k0BadSeen k1BadSeen k2BadSeen k3BadSeen k5BadSeen : Option Value} (oc1BadSeen : K.lookup cBadSeen = some (excClassObj nmBadSeen qBadSeen cBadSeen NBadSeen bsBadSeen bmBadSeen true snBadSeen subBadSeen abBadSeen colBadSeen ddBadSeen k0BadSeen k1BadSeen k2BadSeen k3BadSeen k5BadSeen "ValueError.__new__"))
     (oc2BadSeen : PySem.HandSPX.refsVE bmBadSeen = true)
     (oc3BadSeen : PySem.W.findIn K (.ref cBadSeen) "__setattr__" = some (some (.builtin "object.__setattr__")))
     (x2BadSeen : PySem.W.keepIn K (.ref cBadSeen) = true)
     (x3BadSeen : PySem.W.subIn K (.ref cBadSeen) (.type "BaseException") = some true)
     (x4BadSeen : PySem.W.typeIn K (.ref cBadSeen) = some (.type "type"))
    {ceaBadSeen : Value} {cebBadSeen : Option Addr} {cesBadSeen : Array (Option Value)} (ceBadSeen : K.lookup ccBadSeen___init__ = some ⟨ceaBadSeen, cebBadSeen, .cell (some (.ref cBadSeen)), cesBadSeen⟩)
    {coaBadSeen : Value} {cobBadSeen : Option Addr} {covBadSeen : Array Value} {cosBadSeen : Array (Option Value)} (coBadSeen : K.lookup cdaBadSeen___init__ = some ⟨coaBadSeen, cobBadSeen, .fields covBadSeen, cosBadSeen⟩)
    {cfiBadSeen : Str} {cftBadSeen : Tok} (cvBadSeen : covBadSeen[2]? = some (.str cfiBadSeen cftBadSeen))
     (cfBadSeen : ((P0.main.file : Str) == cfiBadSeen) = true)
     (opBadSeen : PySem.W.nsIn K cStatics "thirdparty.any" = some none)
     (siBadSeen : PySem.W.ks_superIn K cBadSeen cBadSeen "__init__" = some (some (.builtin "ValueError.__init__")))
     (suBadSeen : PySem.W.subIn K (.ref cBadSeen) (.type "ValueError") = some true)
     (seBadSeen : PySem.W.mroIn K cBadSeen (.ref cBadSeen) = some true)
     (toBadSeen : (P0.main.scope.names.lookup ("super" : Str)).isSome = false)
     (gaBadSeen : PySem.W.findIn K (.ref cBadSeen) "__getattribute__" = some (some (.builtin "BaseException.__getattribute__")))
     (ggBadSeen : PySem.W.findIn K (.ref cBadSeen) "__getattr__" = some none)
     (hd2BadSeen : PySem.W.hasDictIn K cBadSeen = true)
     (vfBadSeenindex : PySem.W.findIn K (.ref cBadSeen) "index" = some none)
    {fBadSteps___init__ ccBadSteps___init__ cdaBadSteps___init__ : Addr} {odBadSteps___init__ anBadSteps___init__ : Option Addr} {slBadSteps___init__ : Array (Option Value)} {ocBadSteps___init__ kVBadSteps___init__ dcBadSteps___init__ pmBadSteps___init__ ctBadSteps___init__ : Value} (iBadSteps___init__ : PySem.W.findIn K (.ref cBadSteps) "__init__" = some (some (.ref fBadSteps___init__)))
     (lBadSteps___init__ : K.lookup fBadSteps___init__ = some ⟨ocBadSteps___init__, odBadSteps___init__, .func (PySem.W.fnX "__init__" "BadSteps.__init__" (defArgs s_BadSteps___init__) (defBody s_BadSteps___init__) (defScope s_BadSteps___init__) [("__class__", ccBadSteps___init__)] .none kVBadSteps___init__ dcBadSteps___init__ pmBadSteps___init__ anBadSteps___init__ (.ref cdaBadSteps___init__) ctBadSteps___init__), slBadSteps___init__⟩)
     (cBadSteps___init__ : PySem.W.codeIn K (.ref cdaBadSteps___init__) "BadSteps.__init__" = true)
     (yBadSteps___init__ : PySem.W.typeIn K (.ref fBadSteps___init__) = some (.type "function"))
    {nmBadSteps qBadSteps : Str} {NBadSteps : Addr} {bsBadSteps bmBadSteps subBadSteps : List Value} {snBadSteps : List Str} {abBadSteps : Bool} {colBadSteps : Option Bool} {ddBadSteps : Option Addr} {k0BadSteps k1BadSteps k2BadSteps k3BadSteps k5BadSteps : Option Value} (oc1BadSteps : K.lookup cBadSteps = some (excClassObj nmBadSteps qBadSteps cBadSteps NBadSteps bsBadSteps bmBadSteps true snBadSteps subBadSteps abBadSteps colBadSteps ddBadSteps k0BadSteps k1BadSteps k2BadSteps k3BadSteps k5BadSteps "ValueError.__new__"))
     (oc2BadSteps : PySem.HandSPX.refsVE bmBadSteps = true)
     (oc3BadSteps : PySem.W.findIn K (.ref cBadSteps) "__setattr__" = some (some (.builtin "object.__setattr__")))
     (x2BadSteps : PySem.W.keepIn K (.ref cBadSteps) = true)
     (x3BadSteps : PySem.W.subIn K (.ref cBadSteps) (.type "BaseException") = some true)
     (x4BadSteps : PySem.W.typeIn K (.ref cBadSteps) = some (.type "type"))
    {ceaBadSteps : Value} {cebBadSteps : Option Addr} {cesBadSteps : Array (Option Value)} (ceBadSteps : K.lookup ccBadSteps___init__ = some ⟨ceaBadSteps, cebBadSteps, .cell (some (.ref cBadSteps)), cesBadSteps⟩)
    {coaBadSteps : Value} {cobBadSteps : Option Addr} {covBadSteps : Array Value} {cosBadSteps : Array (Option Value)} (coBadSteps : K.lookup cdaBadSteps___init__ = some ⟨coaBadSteps, cobBadSteps, .fields covBadSteps, cosBadSteps⟩)
    {cfiBadSteps : Str} {cftBadSteps : Tok} (cvBadSteps : covBadSteps[2]? = some (.str cfiBadSteps cftBadSteps))
     (cfBadSteps : ((P0.main.file : Str) == cfiBadSteps) = true)
     (opBadSteps : PySem.W.nsIn K cStatics "thirdparty.any" = some none)
     (siBadSteps : PySem.W.ks_superIn K cBadSteps cBadSteps "__init__" = some (some (.builtin "ValueError.__init__")))
     (suBadSteps : PySem.W.subIn K (.ref cBadSteps) (.type "ValueError") = some true)
     (seBadSteps : PySem.W.mroIn K cBadSteps (.ref cBadSteps) = some true)
     (toBadSteps : (P0.main.scope.names.lookup ("super" : Str)).isSome = false)
     (gaBadSteps : PySem.W.findIn K (.ref cBadSteps) "__getattribute__" = some (some (.builtin "BaseException.__getattribute__")))
     (ggBadSteps : PySem.W.findIn K (.ref cBadSteps) "__getattr__" = some none)
     (hd2BadSteps : PySem.W.hasDictIn K cBadSteps = true)
     (vfBadStepsindex : PySem.W.findIn K (.ref cBadSteps) "index" = some none)
     (eLetterErrorBadChoice : PySem.W.exmOne K (.ref cBadChoice) (.ref cLetterError) = some true)
     (eLetterErrorBadLength : PySem.W.exmOne K (.ref cBadLength) (.ref cLetterError) = some true)
     (eLetterErrorBadLine : PySem.W.exmOne K (.ref cBadLine) (.ref cLetterError) = some true)
     (eLetterErrorBadPlace : PySem.W.exmOne K (.ref cBadPlace) (.ref cLetterError) = some true)
     (eLetterErrorBadSeen : PySem.W.exmOne K (.ref cBadSeen) (.ref cLetterError) = some true)
     (eLetterErrorBadSize : PySem.W.exmOne K (.ref cBadSize) (.ref cLetterError) = some true)
     (eLetterErrorBadSteps : PySem.W.exmOne K (.ref cBadSteps) (.ref cLetterError) = some true)
     (eLetterErrorBadText : PySem.W.exmOne K (.ref cBadText) (.ref cLetterError) = some true)
     (eLetterErrorLetterError : PySem.W.exmOne K (.ref cLetterError) (.ref cLetterError) = some true)
     (eLetterErrorTooLong : PySem.W.exmOne K (.ref cTooLong) (.ref cLetterError) = some true)
     (ikBadChoiceBadChoice : PySem.W.kitOne K (.ref cBadChoice) (.ref cBadChoice) = some true)
     (xbBadChoice : excB K cBadChoice = true)
     (ikBadChoiceBadLength : PySem.W.kitOne K (.ref cBadLength) (.ref cBadChoice) = some false)
     (xbBadLength : excB K cBadLength = true)
     (ikBadChoiceBadLine : PySem.W.kitOne K (.ref cBadLine) (.ref cBadChoice) = some false)
     (xbBadLine : excB K cBadLine = true)
     (ikBadChoiceBadPlace : PySem.W.kitOne K (.ref cBadPlace) (.ref cBadChoice) = some false)
     (xbBadPlace : excB K cBadPlace = true)
     (ikBadChoiceBadSeen : PySem.W.kitOne K (.ref cBadSeen) (.ref cBadChoice) = some false)
     (xbBadSeen : excB K cBadSeen = true)
     (ikBadChoiceBadSize : PySem.W.kitOne K (.ref cBadSize) (.ref cBadChoice) = some false)
     (xbBadSize : excB K cBadSize = true)
     (ikBadChoiceBadSteps : PySem.W.kitOne K (.ref cBadSteps) (.ref cBadChoice) = some false)
     (xbBadSteps : excB K cBadSteps = true)
     (ikBadChoiceBadText : PySem.W.kitOne K (.ref cBadText) (.ref cBadChoice) = some false)
     (xbBadText : excB K cBadText = true)
     (ikBadChoiceTooLong : PySem.W.kitOne K (.ref cTooLong) (.ref cBadChoice) = some false)
     (xbTooLong : excB K cTooLong = true)
     (ikBadLengthBadChoice : PySem.W.kitOne K (.ref cBadChoice) (.ref cBadLength) = some false)
     (ikBadLengthBadLength : PySem.W.kitOne K (.ref cBadLength) (.ref cBadLength) = some true)
     (ikBadLengthBadLine : PySem.W.kitOne K (.ref cBadLine) (.ref cBadLength) = some false)
     (ikBadLengthBadPlace : PySem.W.kitOne K (.ref cBadPlace) (.ref cBadLength) = some false)
     (ikBadLengthBadSeen : PySem.W.kitOne K (.ref cBadSeen) (.ref cBadLength) = some false)
     (ikBadLengthBadSize : PySem.W.kitOne K (.ref cBadSize) (.ref cBadLength) = some false)
     (ikBadLengthBadSteps : PySem.W.kitOne K (.ref cBadSteps) (.ref cBadLength) = some false)
     (ikBadLengthBadText : PySem.W.kitOne K (.ref cBadText) (.ref cBadLength) = some false)
     (ikBadLengthTooLong : PySem.W.kitOne K (.ref cTooLong) (.ref cBadLength) = some false)
     (ikBadLineBadChoice : PySem.W.kitOne K (.ref cBadChoice) (.ref cBadLine) = some false)
     (ikBadLineBadLength : PySem.W.kitOne K (.ref cBadLength) (.ref cBadLine) = some false)
     (ikBadLineBadLine : PySem.W.kitOne K (.ref cBadLine) (.ref cBadLine) = some true)
     (ikBadLineBadPlace : PySem.W.kitOne K (.ref cBadPlace) (.ref cBadLine) = some false)
     (ikBadLineBadSeen : PySem.W.kitOne K (.ref cBadSeen) (.ref cBadLine) = some false)
     (ikBadLineBadSize : PySem.W.kitOne K (.ref cBadSize) (.ref cBadLine) = some false)
     (ikBadLineBadSteps : PySem.W.kitOne K (.ref cBadSteps) (.ref cBadLine) = some false)
     (ikBadLineBadText : PySem.W.kitOne K (.ref cBadText) (.ref cBadLine) = some false)
     (ikBadLineTooLong : PySem.W.kitOne K (.ref cTooLong) (.ref cBadLine) = some false)
     (ikBadPlaceBadChoice : PySem.W.kitOne K (.ref cBadChoice) (.ref cBadPlace) = some false)
     (ikBadPlaceBadLength : PySem.W.kitOne K (.ref cBadLength) (.ref cBadPlace) = some false)
     (ikBadPlaceBadLine : PySem.W.kitOne K (.ref cBadLine) (.ref cBadPlace) = some false)
     (ikBadPlaceBadPlace : PySem.W.kitOne K (.ref cBadPlace) (.ref cBadPlace) = some true)
     (ikBadPlaceBadSeen : PySem.W.kitOne K (.ref cBadSeen) (.ref cBadPlace) = some false)
     (ikBadPlaceBadSize : PySem.W.kitOne K (.ref cBadSize) (.ref cBadPlace) = some false)
     (ikBadPlaceBadSteps : PySem.W.kitOne K (.ref cBadSteps) (.ref cBadPlace) = some false)
     (ikBadPlaceBadText : PySem.W.kitOne K (.ref cBadText) (.ref cBadPlace) = some false)
     (ikBadPlaceTooLong : PySem.W.kitOne K (.ref cTooLong) (.ref cBadPlace) = some false)
     (ikBadSeenBadChoice : PySem.W.kitOne K (.ref cBadChoice) (.ref cBadSeen) = some false)
     (ikBadSeenBadLength : PySem.W.kitOne K (.ref cBadLength) (.ref cBadSeen) = some false)
     (ikBadSeenBadLine : PySem.W.kitOne K (.ref cBadLine) (.ref cBadSeen) = some false)
     (ikBadSeenBadPlace : PySem.W.kitOne K (.ref cBadPlace) (.ref cBadSeen) = some false)
     (ikBadSeenBadSeen : PySem.W.kitOne K (.ref cBadSeen) (.ref cBadSeen) = some true)
     (ikBadSeenBadSize : PySem.W.kitOne K (.ref cBadSize) (.ref cBadSeen) = some false)
     (ikBadSeenBadSteps : PySem.W.kitOne K (.ref cBadSteps) (.ref cBadSeen) = some false)
     (ikBadSeenBadText : PySem.W.kitOne K (.ref cBadText) (.ref cBadSeen) = some false)
     (ikBadSeenTooLong : PySem.W.kitOne K (.ref cTooLong) (.ref cBadSeen) = some false)
     (ikBadSizeBadChoice : PySem.W.kitOne K (.ref cBadChoice) (.ref cBadSize) = some false)
     (ikBadSizeBadLength : PySem.W.kitOne K (.ref cBadLength) (.ref cBadSize) = some false)
     (ikBadSizeBadLine : PySem.W.kitOne K (.ref cBadLine) (.ref cBadSize) = some false)
     (ikBadSizeBadPlace : PySem.W.kitOne K (.ref cBadPlace) (.ref cBadSize) = some false)
     (ikBadSizeBadSeen : PySem.W.kitOne K (.ref cBadSeen) (.ref cBadSize) = some false)
     (ikBadSizeBadSize : PySem.W.kitOne K (.ref cBadSize) (.ref cBadSize) = some true)
     (ikBadSizeBadSteps : PySem.W.kitOne K (.ref cBadSteps) (.ref cBadSize) = some false)
     (ikBadSizeBadText : PySem.W.kitOne K (.ref cBadText) (.ref cBadSize) = some false)
     (ikBadSizeTooLong : PySem.W.kitOne K (.ref cTooLong) (.ref cBadSize) = some false)
     (ikBadStepsBadChoice : PySem.W.kitOne K (.ref cBadChoice) (.ref cBadSteps) = some false)
     (ikBadStepsBadLength : PySem.W.kitOne K (.ref cBadLength) (.ref cBadSteps) = some false)
     (ikBadStepsBadLine : PySem.W.kitOne K (.ref cBadLine) (.ref cBadSteps) = some false)
     (ikBadStepsBadPlace : PySem.W.kitOne K (.ref cBadPlace) (.ref cBadSteps) = some false)
     (ikBadStepsBadSeen : PySem.W.kitOne K (.ref cBadSeen) (.ref cBadSteps) = some false)
     (ikBadStepsBadSize : PySem.W.kitOne K (.ref cBadSize) (.ref cBadSteps) = some false)
     (ikBadStepsBadSteps : PySem.W.kitOne K (.ref cBadSteps) (.ref cBadSteps) = some true)
     (ikBadStepsBadText : PySem.W.kitOne K (.ref cBadText) (.ref cBadSteps) = some false)
     (ikBadStepsTooLong : PySem.W.kitOne K (.ref cTooLong) (.ref cBadSteps) = some false)
     (ikBadTextBadChoice : PySem.W.kitOne K (.ref cBadChoice) (.ref cBadText) = some false)
     (ikBadTextBadLength : PySem.W.kitOne K (.ref cBadLength) (.ref cBadText) = some false)
     (ikBadTextBadLine : PySem.W.kitOne K (.ref cBadLine) (.ref cBadText) = some false)
     (ikBadTextBadPlace : PySem.W.kitOne K (.ref cBadPlace) (.ref cBadText) = some false)
     (ikBadTextBadSeen : PySem.W.kitOne K (.ref cBadSeen) (.ref cBadText) = some false)
     (ikBadTextBadSize : PySem.W.kitOne K (.ref cBadSize) (.ref cBadText) = some false)
     (ikBadTextBadSteps : PySem.W.kitOne K (.ref cBadSteps) (.ref cBadText) = some false)
     (ikBadTextBadText : PySem.W.kitOne K (.ref cBadText) (.ref cBadText) = some true)
     (ikBadTextTooLong : PySem.W.kitOne K (.ref cTooLong) (.ref cBadText) = some false)
     (ikTooLongBadChoice : PySem.W.kitOne K (.ref cBadChoice) (.ref cTooLong) = some false)
     (ikTooLongBadLength : PySem.W.kitOne K (.ref cBadLength) (.ref cTooLong) = some false)
     (ikTooLongBadLine : PySem.W.kitOne K (.ref cBadLine) (.ref cTooLong) = some false)
     (ikTooLongBadPlace : PySem.W.kitOne K (.ref cBadPlace) (.ref cTooLong) = some false)
     (ikTooLongBadSeen : PySem.W.kitOne K (.ref cBadSeen) (.ref cTooLong) = some false)
     (ikTooLongBadSize : PySem.W.kitOne K (.ref cBadSize) (.ref cTooLong) = some false)
     (ikTooLongBadSteps : PySem.W.kitOne K (.ref cBadSteps) (.ref cTooLong) = some false)
     (ikTooLongBadText : PySem.W.kitOne K (.ref cBadText) (.ref cTooLong) = some false)
     (ikTooLongTooLong : PySem.W.kitOne K (.ref cTooLong) (.ref cTooLong) = some true)
     (ikValueErrorBadChoice : PySem.W.kitOne K (.ref cBadChoice) (.type "ValueError") = some true)
     (ikValueErrorBadLength : PySem.W.kitOne K (.ref cBadLength) (.type "ValueError") = some true)
     (ikValueErrorBadLine : PySem.W.kitOne K (.ref cBadLine) (.type "ValueError") = some true)
     (ikValueErrorBadPlace : PySem.W.kitOne K (.ref cBadPlace) (.type "ValueError") = some true)
     (ikValueErrorBadSeen : PySem.W.kitOne K (.ref cBadSeen) (.type "ValueError") = some true)
     (ikValueErrorBadSize : PySem.W.kitOne K (.ref cBadSize) (.type "ValueError") = some true)
     (ikValueErrorBadSteps : PySem.W.kitOne K (.ref cBadSteps) (.type "ValueError") = some true)
     (ikValueErrorBadText : PySem.W.kitOne K (.ref cBadText) (.type "ValueError") = some true)
     (ikValueErrorTooLong : PySem.W.kitOne K (.ref cTooLong) (.type "ValueError") = some true)
    : ∃ fd : FuncData, (∀ (s : Shared) (v : Value), BindsTo s fd ⟨[v], []⟩ [("_law_script", v)]) ∧ ∀ base : Heap, K.In base → base.Ns mainGlobals mg → FnOk P0 w K mg base (L2N.CX P0 w) 7 fa fd ["_law_script"] (spW K) := by
  have e := hfa.symm.trans (PySem.W.mg_of X G alaw_z14)
  cases e
  have F_law_random := fun_mk (st := s__law_random) l_law_random c_law_random k_law_random
  have b_law_random := F_law_random.binds (ps := ["_law_script", "_law_salt"]) fun _ _ _ _ _ _ us hl => match us, hl with | [_, _], _ => rfl
  have F_law_below := fun_mk (st := s__law_below) l_law_below c_law_below k_law_below
  have b_law_below := F_law_below.binds (ps := ["_law_d", "_law_size"]) fun _ _ _ _ _ _ us hl => match us, hl with | [_, _], _ => rfl
  have F_law_classes_z14 := fun_mk (st := s__law_classes_z14) l_law_classes_z14 c_law_classes_z14 k_law_classes_z14
  have b_law_classes_z14 := F_law_classes_z14.binds (ps := ["_law_e"]) fun _ _ _ _ _ _ us hl => match us, hl with | [_], _ => rfl
  have F_law_fields_z14 := fun_mk (st := s__law_fields_z14) l_law_fields_z14 c_law_fields_z14 k_law_fields_z14
  have b_law_fields_z14 := F_law_fields_z14.binds (ps := ["_law_k", "_law_e"]) fun _ _ _ _ _ _ us hl => match us, hl with | [_, _], _ => rfl
  have F_law_pick := fun_mk (st := s__law_pick) l_law_pick c_law_pick k_law_pick
  have b_law_pick := F_law_pick.binds (ps := ["_law_d", "_law_items"]) fun _ _ _ _ _ _ us hl => match us, hl with | [_, _], _ => rfl
  have F_law_thrown_z14 := fun_mk (st := s__law_thrown_z14) l_law_thrown_z14 c_law_thrown_z14 k_law_thrown_z14
  have b_law_thrown_z14 := F_law_thrown_z14.binds (ps := ["_law_k", "_law_one", "_law_two"]) fun _ _ _ _ _ _ us hl => match us, hl with | [_, _, _], _ => rfl
  have F_law_equal_z14 := fun_mk (st := s__law_equal_z14) l_law_equal_z14 c_law_equal_z14 k_law_equal_z14
  have b_law_equal_z14 := F_law_equal_z14.binds (ps := ["_law_actual", "_law_expected"]) fun _ _ _ _ _ _ us hl => match us, hl with | [_, _], _ => rfl
  have Flaw_z14 := fun_mk (st := s_law_z14) llaw_z14 claw_z14 klaw_z14
  have blaw_z14 := Flaw_z14.binds (ps := ["_law_script"]) fun _ _ _ _ _ _ us hl => match us, hl with | [_], _ => rfl
  have oexBadChoice : OexC K cBadChoice := ⟨⟨_, _, _, _, _, _, _, _, _, _, _, _, _, _, _, oc1BadChoice, oc2BadChoice⟩, oc3BadChoice, x3BadChoice, x4BadChoice, x2BadChoice⟩
  have SBadChoice : SupF P0 K mg "BadChoice.__init__" s_BadChoice___init__ cBadChoice fBadChoice___init__ _ := ⟨⟨ccBadChoice___init__, cdaBadChoice___init__, _, _, _, _, _, _, _, _, ⟨oexBadChoice, ⟨_, _, _, ceBadChoice⟩, ⟨_, _, _, _, _, _, coBadChoice, cvBadChoice, cfBadChoice⟩, opBadChoice, siBadChoice, suBadChoice, seBadChoice, toBadChoice⟩, rfl, lBadChoice___init__, cBadChoice___init__⟩, oexBadChoice, iBadChoice___init__, yBadChoice___init__, PySem.W.mg_none_of X G zsuper⟩
  have bBadChoice___init__ := SBadChoice.binds (ps := ["self", "index"]) fun _ _ _ _ _ _ _ us hl => match us, hl with | [_, _], _ => rfl
  have oexBadLine : OexC K cBadLine := ⟨⟨_, _, _, _, _, _, _, _, _, _, _, _, _, _, _, oc1BadLine, oc2BadLine⟩, oc3BadLine, x3BadLine, x4BadLine, x2BadLine⟩
  have SBadLine : SupF P0 K mg "BadLine.__init__" s_BadLine___init__ cBadLine fBadLine___init__ _ := ⟨⟨ccBadLine___init__, cdaBadLine___init__, _, _, _, _, _, _, _, _, ⟨oexBadLine, ⟨_, _, _, ceBadLine⟩, ⟨_, _, _, _, _, _, coBadLine, cvBadLine, cfBadLine⟩, opBadLine, siBadLine, suBadLine, seBadLine, toBadLine⟩, rfl, lBadLine___init__, cBadLine___init__⟩, oexBadLine, iBadLine___init__, yBadLine___init__, PySem.W.mg_none_of X G zsuper⟩
  have bBadLine___init__ := SBadLine.binds (ps := ["self", "line", "word"]) fun _ _ _ _ _ _ _ us hl => match us, hl with | [_, _, _], _ => rfl
  have oexBadSeen : OexC K cBadSeen := ⟨⟨_, _, _, _, _, _, _, _, _, _, _, _, _, _, _, oc1BadSeen, oc2BadSeen⟩, oc3BadSeen, x3BadSeen, x4BadSeen, x2BadSeen⟩
  have SBadSeen : SupF P0 K mg "BadSeen.__init__" s_BadSeen___init__ cBadSeen fBadSeen___init__ _ := ⟨⟨ccBadSeen___init__, cdaBadSeen___init__, _, _, _, _, _, _, _, _, ⟨oexBadSeen, ⟨_, _, _, ceBadSeen⟩, ⟨_, _, _, _, _, _, coBadSeen, cvBadSeen, cfBadSeen⟩, opBadSeen, siBadSeen, suBadSeen, seBadSeen, toBadSeen⟩, rfl, lBadSeen___init__, cBadSeen___init__⟩, oexBadSeen, iBadSeen___init__, yBadSeen___init__, PySem.W.mg_none_of X G zsuper⟩
  have bBadSeen___init__ := SBadSeen.binds (ps := ["self", "index"]) fun _ _ _ _ _ _ _ us hl => match us, hl with | [_, _], _ => rfl
  have oexBadSteps : OexC K cBadSteps := ⟨⟨_, _, _, _, _, _, _, _, _, _, _, _, _, _, _, oc1BadSteps, oc2BadSteps⟩, oc3BadSteps, x3BadSteps, x4BadSteps, x2BadSteps⟩
  have SBadSteps : SupF P0 K mg "BadSteps.__init__" s_BadSteps___init__ cBadSteps fBadSteps___init__ _ := ⟨⟨ccBadSteps___init__, cdaBadSteps___init__, _, _, _, _, _, _, _, _, ⟨oexBadSteps, ⟨_, _, _, ceBadSteps⟩, ⟨_, _, _, _, _, _, coBadSteps, cvBadSteps, cfBadSteps⟩, opBadSteps, siBadSteps, suBadSteps, seBadSteps, toBadSteps⟩, rfl, lBadSteps___init__, cBadSteps___init__⟩, oexBadSteps, iBadSteps___init__, yBadSteps___init__, PySem.W.mg_none_of X G zsuper⟩
  have bBadSteps___init__ := SBadSteps.binds (ps := ["self", "index"]) fun _ _ _ _ _ _ _ us hl => match us, hl with | [_, _], _ => rfl
  have hLetterError : ∀ n b, mt_LetterError_z14 n = some b → ∃ C, mg n = some (.ref C) ∧ PySem.W.exmOne K (.ref C) (.ref cLetterError) = some b := fun n b e => by
    unfold mt_LetterError_z14 at e
    by_cases z : n = "BadChoice"
    · rw [if_pos z] at e; cases e; subst z; exact ⟨_, PySem.W.mg_of X G CBadChoice, eLetterErrorBadChoice⟩
    rw [if_neg z] at e; clear z
    by_cases z : n = "BadLength"
    · rw [if_pos z] at e; cases e; subst z; exact ⟨_, PySem.W.mg_of X G CBadLength, eLetterErrorBadLength⟩
    rw [if_neg z] at e; clear z
    by_cases z : n = "BadLine"
    · rw [if_pos z] at e; cases e; subst z; exact ⟨_, PySem.W.mg_of X G CBadLine, eLetterErrorBadLine⟩
    rw [if_neg z] at e; clear z
    by_cases z : n = "BadPlace"
    · rw [if_pos z] at e; cases e; subst z; exact ⟨_, PySem.W.mg_of X G CBadPlace, eLetterErrorBadPlace⟩
    rw [if_neg z] at e; clear z
    by_cases z : n = "BadSeen"
    · rw [if_pos z] at e; cases e; subst z; exact ⟨_, PySem.W.mg_of X G CBadSeen, eLetterErrorBadSeen⟩
    rw [if_neg z] at e; clear z
    by_cases z : n = "BadSize"
    · rw [if_pos z] at e; cases e; subst z; exact ⟨_, PySem.W.mg_of X G CBadSize, eLetterErrorBadSize⟩
    rw [if_neg z] at e; clear z
    by_cases z : n = "BadSteps"
    · rw [if_pos z] at e; cases e; subst z; exact ⟨_, PySem.W.mg_of X G CBadSteps, eLetterErrorBadSteps⟩
    rw [if_neg z] at e; clear z
    by_cases z : n = "BadText"
    · rw [if_pos z] at e; cases e; subst z; exact ⟨_, PySem.W.mg_of X G CBadText, eLetterErrorBadText⟩
    rw [if_neg z] at e; clear z
    by_cases z : n = "LetterError"
    · rw [if_pos z] at e; cases e; subst z; exact ⟨_, PySem.W.mg_of X G CLetterError, eLetterErrorLetterError⟩
    rw [if_neg z] at e; clear z
    by_cases z : n = "TooLong"
    · rw [if_pos z] at e; cases e; subst z; exact ⟨_, PySem.W.mg_of X G CTooLong, eLetterErrorTooLong⟩
    rw [if_neg z] at e; clear z
    cases e
  have iBadChoice : ∀ n b, isx_BadChoice_z14 n = some b → ∃ D, mg n = some (.ref D) ∧ ExcC K D ∧ PySem.W.kitOne K (.ref D) (.ref cBadChoice) = some b := fun n b e => by
    unfold isx_BadChoice_z14 at e
    by_cases z : n = "BadChoice"
    · rw [if_pos z] at e; cases e; subst z; exact ⟨_, PySem.W.mg_of X G CBadChoice, excB_ok xbBadChoice, ikBadChoiceBadChoice⟩
    rw [if_neg z] at e; clear z
    by_cases z : n = "BadLength"
    · rw [if_pos z] at e; cases e; subst z; exact ⟨_, PySem.W.mg_of X G CBadLength, excB_ok xbBadLength, ikBadChoiceBadLength⟩
    rw [if_neg z] at e; clear z
    by_cases z : n = "BadLine"
    · rw [if_pos z] at e; cases e; subst z; exact ⟨_, PySem.W.mg_of X G CBadLine, excB_ok xbBadLine, ikBadChoiceBadLine⟩
    rw [if_neg z] at e; clear z
    by_cases z : n = "BadPlace"
    · rw [if_pos z] at e; cases e; subst z; exact ⟨_, PySem.W.mg_of X G CBadPlace, excB_ok xbBadPlace, ikBadChoiceBadPlace⟩
    rw [if_neg z] at e; clear z
    by_cases z : n = "BadSeen"
    · rw [if_pos z] at e; cases e; subst z; exact ⟨_, PySem.W.mg_of X G CBadSeen, excB_ok xbBadSeen, ikBadChoiceBadSeen⟩
    rw [if_neg z] at e; clear z
    by_cases z : n = "BadSize"
    · rw [if_pos z] at e; cases e; subst z; exact ⟨_, PySem.W.mg_of X G CBadSize, excB_ok xbBadSize, ikBadChoiceBadSize⟩
    rw [if_neg z] at e; clear z
    by_cases z : n = "BadSteps"
    · rw [if_pos z] at e; cases e; subst z; exact ⟨_, PySem.W.mg_of X G CBadSteps, excB_ok xbBadSteps, ikBadChoiceBadSteps⟩
    rw [if_neg z] at e; clear z
    by_cases z : n = "BadText"
    · rw [if_pos z] at e; cases e; subst z; exact ⟨_, PySem.W.mg_of X G CBadText, excB_ok xbBadText, ikBadChoiceBadText⟩
    rw [if_neg z] at e; clear z
    by_cases z : n = "TooLong"
    · rw [if_pos z] at e; cases e; subst z; exact ⟨_, PySem.W.mg_of X G CTooLong, excB_ok xbTooLong, ikBadChoiceTooLong⟩
    rw [if_neg z] at e; clear z
    cases e
  have iBadLength : ∀ n b, isx_BadLength_z14 n = some b → ∃ D, mg n = some (.ref D) ∧ ExcC K D ∧ PySem.W.kitOne K (.ref D) (.ref cBadLength) = some b := fun n b e => by
    unfold isx_BadLength_z14 at e
    by_cases z : n = "BadChoice"
    · rw [if_pos z] at e; cases e; subst z; exact ⟨_, PySem.W.mg_of X G CBadChoice, excB_ok xbBadChoice, ikBadLengthBadChoice⟩
    rw [if_neg z] at e; clear z
    by_cases z : n = "BadLength"
    · rw [if_pos z] at e; cases e; subst z; exact ⟨_, PySem.W.mg_of X G CBadLength, excB_ok xbBadLength, ikBadLengthBadLength⟩
    rw [if_neg z] at e; clear z
    by_cases z : n = "BadLine"
    · rw [if_pos z] at e; cases e; subst z; exact ⟨_, PySem.W.mg_of X G CBadLine, excB_ok xbBadLine, ikBadLengthBadLine⟩
    rw [if_neg z] at e; clear z
    by_cases z : n = "BadPlace"
    · rw [if_pos z] at e; cases e; subst z; exact ⟨_, PySem.W.mg_of X G CBadPlace, excB_ok xbBadPlace, ikBadLengthBadPlace⟩
    rw [if_neg z] at e; clear z
    by_cases z : n = "BadSeen"
    · rw [if_pos z] at e; cases e; subst z; exact ⟨_, PySem.W.mg_of X G CBadSeen, excB_ok xbBadSeen, ikBadLengthBadSeen⟩
    rw [if_neg z] at e; clear z
    by_cases z : n = "BadSize"
    · rw [if_pos z] at e; cases e; subst z; exact ⟨_, PySem.W.mg_of X G CBadSize, excB_ok xbBadSize, ikBadLengthBadSize⟩
    rw [if_neg z] at e; clear z
    by_cases z : n = "BadSteps"
    · rw [if_pos z] at e; cases e; subst z; exact ⟨_, PySem.W.mg_of X G CBadSteps, excB_ok xbBadSteps, ikBadLengthBadSteps⟩
    rw [if_neg z] at e; clear z
    by_cases z : n = "BadText"
    · rw [if_pos z] at e; cases e; subst z; exact ⟨_, PySem.W.mg_of X G CBadText, excB_ok xbBadText, ikBadLengthBadText⟩
    rw [if_neg z] at e; clear z
    by_cases z : n = "TooLong"
    · rw [if_pos z] at e; cases e; subst z; exact ⟨_, PySem.W.mg_of X G CTooLong, excB_ok xbTooLong, ikBadLengthTooLong⟩
    rw [if_neg z] at e; clear z
    cases e
  have iBadLine : ∀ n b, isx_BadLine_z14 n = some b → ∃ D, mg n = some (.ref D) ∧ ExcC K D ∧ PySem.W.kitOne K (.ref D) (.ref cBadLine) = some b := fun n b e => by
    unfold isx_BadLine_z14 at e
    by_cases z : n = "BadChoice"
    · rw [if_pos z] at e; cases e; subst z; exact ⟨_, PySem.W.mg_of X G CBadChoice, excB_ok xbBadChoice, ikBadLineBadChoice⟩
    rw [if_neg z] at e; clear z
    by_cases z : n = "BadLength"
    · rw [if_pos z] at e; cases e; subst z; exact ⟨_, PySem.W.mg_of X G CBadLength, excB_ok xbBadLength, ikBadLineBadLength⟩
    rw [if_neg z] at e; clear z
    by_cases z : n = "BadLine"
    · rw [if_pos z] at e; cases e; subst z; exact ⟨_, PySem.W.mg_of X G CBadLine, excB_ok xbBadLine, ikBadLineBadLine⟩
    rw [if_neg z] at e; clear z
    by_cases z : n = "BadPlace"
    · rw [if_pos z] at e; cases e; subst z; exact ⟨_, PySem.W.mg_of X G CBadPlace, excB_ok xbBadPlace, ikBadLineBadPlace⟩
    rw [if_neg z] at e; clear z
    by_cases z : n = "BadSeen"
    · rw [if_pos z] at e; cases e; subst z; exact ⟨_, PySem.W.mg_of X G CBadSeen, excB_ok xbBadSeen, ikBadLineBadSeen⟩
    rw [if_neg z] at e; clear z
    by_cases z : n = "BadSize"
    · rw [if_pos z] at e; cases e; subst z; exact ⟨_, PySem.W.mg_of X G CBadSize, excB_ok xbBadSize, ikBadLineBadSize⟩
    rw [if_neg z] at e; clear z
    by_cases z : n = "BadSteps"
    · rw [if_pos z] at e; cases e; subst z; exact ⟨_, PySem.W.mg_of X G CBadSteps, excB_ok xbBadSteps, ikBadLineBadSteps⟩
    rw [if_neg z] at e; clear z
    by_cases z : n = "BadText"
    · rw [if_pos z] at e; cases e; subst z; exact ⟨_, PySem.W.mg_of X G CBadText, excB_ok xbBadText, ikBadLineBadText⟩
    rw [if_neg z] at e; clear z
    by_cases z : n = "TooLong"
    · rw [if_pos z] at e; cases e; subst z; exact ⟨_, PySem.W.mg_of X G CTooLong, excB_ok xbTooLong, ikBadLineTooLong⟩
    rw [if_neg z] at e; clear z
    cases e
  have iBadPlace : ∀ n b, isx_BadPlace_z14 n = some b → ∃ D, mg n = some (.ref D) ∧ ExcC K D ∧ PySem.W.kitOne K (.ref D) (.ref cBadPlace) = some b := fun n b e => by
    unfold isx_BadPlace_z14 at e
    by_cases z : n = "BadChoice"
    · rw [if_pos z] at e; cases e; subst z; exact ⟨_, PySem.W.mg_of X G CBadChoice, excB_ok xbBadChoice, ikBadPlaceBadChoice⟩
    rw [if_neg z] at e; clear z
    by_cases z : n = "BadLength"
    · rw [if_pos z] at e; cases e; subst z; exact ⟨_, PySem.W.mg_of X G CBadLength, excB_ok xbBadLength, ikBadPlaceBadLength⟩
    rw [if_neg z] at e; clear z
    by_cases z : n = "BadLine"
    · rw [if_pos z] at e; cases e; subst z; exact ⟨_, PySem.W.mg_of X G CBadLine, excB_ok xbBadLine, ikBadPlaceBadLine⟩
    rw [if_neg z] at e; clear z
    by_cases z : n = "BadPlace"
    · rw [if_pos z] at e; cases e; subst z; exact ⟨_, PySem.W.mg_of X G CBadPlace, excB_ok xbBadPlace, ikBadPlaceBadPlace⟩
    rw [if_neg z] at e; clear z
    by_cases z : n = "BadSeen"
    · rw [if_pos z] at e; cases e; subst z; exact ⟨_, PySem.W.mg_of X G CBadSeen, excB_ok xbBadSeen, ikBadPlaceBadSeen⟩
    rw [if_neg z] at e; clear z
    by_cases z : n = "BadSize"
    · rw [if_pos z] at e; cases e; subst z; exact ⟨_, PySem.W.mg_of X G CBadSize, excB_ok xbBadSize, ikBadPlaceBadSize⟩
    rw [if_neg z] at e; clear z
    by_cases z : n = "BadSteps"
    · rw [if_pos z] at e; cases e; subst z; exact ⟨_, PySem.W.mg_of X G CBadSteps, excB_ok xbBadSteps, ikBadPlaceBadSteps⟩
    rw [if_neg z] at e; clear z
    by_cases z : n = "BadText"
    · rw [if_pos z] at e; cases e; subst z; exact ⟨_, PySem.W.mg_of X G CBadText, excB_ok xbBadText, ikBadPlaceBadText⟩
    rw [if_neg z] at e; clear z
    by_cases z : n = "TooLong"
    · rw [if_pos z] at e; cases e; subst z; exact ⟨_, PySem.W.mg_of X G CTooLong, excB_ok xbTooLong, ikBadPlaceTooLong⟩
    rw [if_neg z] at e; clear z
    cases e
  have iBadSeen : ∀ n b, isx_BadSeen_z14 n = some b → ∃ D, mg n = some (.ref D) ∧ ExcC K D ∧ PySem.W.kitOne K (.ref D) (.ref cBadSeen) = some b := fun n b e => by
    unfold isx_BadSeen_z14 at e
    by_cases z : n = "BadChoice"
    · rw [if_pos z] at e; cases e; subst z; exact ⟨_, PySem.W.mg_of X G CBadChoice, excB_ok xbBadChoice, ikBadSeenBadChoice⟩
    rw [if_neg z] at e; clear z
    by_cases z : n = "BadLength"
    · rw [if_pos z] at e; cases e; subst z; exact ⟨_, PySem.W.mg_of X G CBadLength, excB_ok xbBadLength, ikBadSeenBadLength⟩
    rw [if_neg z] at e; clear z
    by_cases z : n = "BadLine"
    · rw [if_pos z] at e; cases e; subst z; exact ⟨_, PySem.W.mg_of X G CBadLine, excB_ok xbBadLine, ikBadSeenBadLine⟩
    rw [if_neg z] at e; clear z
    by_cases z : n = "BadPlace"
    · rw [if_pos z] at e; cases e; subst z; exact ⟨_, PySem.W.mg_of X G CBadPlace, excB_ok xbBadPlace, ikBadSeenBadPlace⟩
    rw [if_neg z] at e; clear z
    by_cases z : n = "BadSeen"
    · rw [if_pos z] at e; cases e; subst z; exact ⟨_, PySem.W.mg_of X G CBadSeen, excB_ok xbBadSeen, ikBadSeenBadSeen⟩
    rw [if_neg z] at e; clear z
    by_cases z : n = "BadSize"
    · rw [if_pos z] at e; cases e; subst z; exact ⟨_, PySem.W.mg_of X G CBadSize, excB_ok xbBadSize, ikBadSeenBadSize⟩
    rw [if_neg z] at e; clear z
    by_cases z : n = "BadSteps"
    · rw [if_pos z] at e; cases e; subst z; exact ⟨_, PySem.W.mg_of X G CBadSteps, excB_ok xbBadSteps, ikBadSeenBadSteps⟩
    rw [if_neg z] at e; clear z
    by_cases z : n = "BadText"
    · rw [if_pos z] at e; cases e; subst z; exact ⟨_, PySem.W.mg_of X G CBadText, excB_ok xbBadText, ikBadSeenBadText⟩
    rw [if_neg z] at e; clear z
    by_cases z : n = "TooLong"
    · rw [if_pos z] at e; cases e; subst z; exact ⟨_, PySem.W.mg_of X G CTooLong, excB_ok xbTooLong, ikBadSeenTooLong⟩
    rw [if_neg z] at e; clear z
    cases e
  have iBadSize : ∀ n b, isx_BadSize_z14 n = some b → ∃ D, mg n = some (.ref D) ∧ ExcC K D ∧ PySem.W.kitOne K (.ref D) (.ref cBadSize) = some b := fun n b e => by
    unfold isx_BadSize_z14 at e
    by_cases z : n = "BadChoice"
    · rw [if_pos z] at e; cases e; subst z; exact ⟨_, PySem.W.mg_of X G CBadChoice, excB_ok xbBadChoice, ikBadSizeBadChoice⟩
    rw [if_neg z] at e; clear z
    by_cases z : n = "BadLength"
    · rw [if_pos z] at e; cases e; subst z; exact ⟨_, PySem.W.mg_of X G CBadLength, excB_ok xbBadLength, ikBadSizeBadLength⟩
    rw [if_neg z] at e; clear z
    by_cases z : n = "BadLine"
    · rw [if_pos z] at e; cases e; subst z; exact ⟨_, PySem.W.mg_of X G CBadLine, excB_ok xbBadLine, ikBadSizeBadLine⟩
    rw [if_neg z] at e; clear z
    by_cases z : n = "BadPlace"
    · rw [if_pos z] at e; cases e; subst z; exact ⟨_, PySem.W.mg_of X G CBadPlace, excB_ok xbBadPlace, ikBadSizeBadPlace⟩
    rw [if_neg z] at e; clear z
    by_cases z : n = "BadSeen"
    · rw [if_pos z] at e; cases e; subst z; exact ⟨_, PySem.W.mg_of X G CBadSeen, excB_ok xbBadSeen, ikBadSizeBadSeen⟩
    rw [if_neg z] at e; clear z
    by_cases z : n = "BadSize"
    · rw [if_pos z] at e; cases e; subst z; exact ⟨_, PySem.W.mg_of X G CBadSize, excB_ok xbBadSize, ikBadSizeBadSize⟩
    rw [if_neg z] at e; clear z
    by_cases z : n = "BadSteps"
    · rw [if_pos z] at e; cases e; subst z; exact ⟨_, PySem.W.mg_of X G CBadSteps, excB_ok xbBadSteps, ikBadSizeBadSteps⟩
    rw [if_neg z] at e; clear z
    by_cases z : n = "BadText"
    · rw [if_pos z] at e; cases e; subst z; exact ⟨_, PySem.W.mg_of X G CBadText, excB_ok xbBadText, ikBadSizeBadText⟩
    rw [if_neg z] at e; clear z
    by_cases z : n = "TooLong"
    · rw [if_pos z] at e; cases e; subst z; exact ⟨_, PySem.W.mg_of X G CTooLong, excB_ok xbTooLong, ikBadSizeTooLong⟩
    rw [if_neg z] at e; clear z
    cases e
  have iBadSteps : ∀ n b, isx_BadSteps_z14 n = some b → ∃ D, mg n = some (.ref D) ∧ ExcC K D ∧ PySem.W.kitOne K (.ref D) (.ref cBadSteps) = some b := fun n b e => by
    unfold isx_BadSteps_z14 at e
    by_cases z : n = "BadChoice"
    · rw [if_pos z] at e; cases e; subst z; exact ⟨_, PySem.W.mg_of X G CBadChoice, excB_ok xbBadChoice, ikBadStepsBadChoice⟩
    rw [if_neg z] at e; clear z
    by_cases z : n = "BadLength"
    · rw [if_pos z] at e; cases e; subst z; exact ⟨_, PySem.W.mg_of X G CBadLength, excB_ok xbBadLength, ikBadStepsBadLength⟩
    rw [if_neg z] at e; clear z
    by_cases z : n = "BadLine"
    · rw [if_pos z] at e; cases e; subst z; exact ⟨_, PySem.W.mg_of X G CBadLine, excB_ok xbBadLine, ikBadStepsBadLine⟩
    rw [if_neg z] at e; clear z
    by_cases z : n = "BadPlace"
    · rw [if_pos z] at e; cases e; subst z; exact ⟨_, PySem.W.mg_of X G CBadPlace, excB_ok xbBadPlace, ikBadStepsBadPlace⟩
    rw [if_neg z] at e; clear z
    by_cases z : n = "BadSeen"
    · rw [if_pos z] at e; cases e; subst z; exact ⟨_, PySem.W.mg_of X G CBadSeen, excB_ok xbBadSeen, ikBadStepsBadSeen⟩
    rw [if_neg z] at e; clear z
    by_cases z : n = "BadSize"
    · rw [if_pos z] at e; cases e; subst z; exact ⟨_, PySem.W.mg_of X G CBadSize, excB_ok xbBadSize, ikBadStepsBadSize⟩
    rw [if_neg z] at e; clear z
    by_cases z : n = "BadSteps"
    · rw [if_pos z] at e; cases e; subst z; exact ⟨_, PySem.W.mg_of X G CBadSteps, excB_ok xbBadSteps, ikBadStepsBadSteps⟩
    rw [if_neg z] at e; clear z
    by_cases z : n = "BadText"
    · rw [if_pos z] at e; cases e; subst z; exact ⟨_, PySem.W.mg_of X G CBadText, excB_ok xbBadText, ikBadStepsBadText⟩
    rw [if_neg z] at e; clear z
    by_cases z : n = "TooLong"
    · rw [if_pos z] at e; cases e; subst z; exact ⟨_, PySem.W.mg_of X G CTooLong, excB_ok xbTooLong, ikBadStepsTooLong⟩
    rw [if_neg z] at e; clear z
    cases e
  have iBadText : ∀ n b, isx_BadText_z14 n = some b → ∃ D, mg n = some (.ref D) ∧ ExcC K D ∧ PySem.W.kitOne K (.ref D) (.ref cBadText) = some b := fun n b e => by
    unfold isx_BadText_z14 at e
    by_cases z : n = "BadChoice"
    · rw [if_pos z] at e; cases e; subst z; exact ⟨_, PySem.W.mg_of X G CBadChoice, excB_ok xbBadChoice, ikBadTextBadChoice⟩
    rw [if_neg z] at e; clear z
    by_cases z : n = "BadLength"
    · rw [if_pos z] at e; cases e; subst z; exact ⟨_, PySem.W.mg_of X G CBadLength, excB_ok xbBadLength, ikBadTextBadLength⟩
    rw [if_neg z] at e; clear z
    by_cases z : n = "BadLine"
    · rw [if_pos z] at e; cases e; subst z; exact ⟨_, PySem.W.mg_of X G CBadLine, excB_ok xbBadLine, ikBadTextBadLine⟩
    rw [if_neg z] at e; clear z
    by_cases z : n = "BadPlace"
    · rw [if_pos z] at e; cases e; subst z; exact ⟨_, PySem.W.mg_of X G CBadPlace, excB_ok xbBadPlace, ikBadTextBadPlace⟩
    rw [if_neg z] at e; clear z
    by_cases z : n = "BadSeen"
    · rw [if_pos z] at e; cases e; subst z; exact ⟨_, PySem.W.mg_of X G CBadSeen, excB_ok xbBadSeen, ikBadTextBadSeen⟩
    rw [if_neg z] at e; clear z
    by_cases z : n = "BadSize"
    · rw [if_pos z] at e; cases e; subst z; exact ⟨_, PySem.W.mg_of X G CBadSize, excB_ok xbBadSize, ikBadTextBadSize⟩
    rw [if_neg z] at e; clear z
    by_cases z : n = "BadSteps"
    · rw [if_pos z] at e; cases e; subst z; exact ⟨_, PySem.W.mg_of X G CBadSteps, excB_ok xbBadSteps, ikBadTextBadSteps⟩
    rw [if_neg z] at e; clear z
    by_cases z : n = "BadText"
    · rw [if_pos z] at e; cases e; subst z; exact ⟨_, PySem.W.mg_of X G CBadText, excB_ok xbBadText, ikBadTextBadText⟩
    rw [if_neg z] at e; clear z
    by_cases z : n = "TooLong"
    · rw [if_pos z] at e; cases e; subst z; exact ⟨_, PySem.W.mg_of X G CTooLong, excB_ok xbTooLong, ikBadTextTooLong⟩
    rw [if_neg z] at e; clear z
    cases e
  have iTooLong : ∀ n b, isx_TooLong_z14 n = some b → ∃ D, mg n = some (.ref D) ∧ ExcC K D ∧ PySem.W.kitOne K (.ref D) (.ref cTooLong) = some b := fun n b e => by
    unfold isx_TooLong_z14 at e
    by_cases z : n = "BadChoice"
    · rw [if_pos z] at e; cases e; subst z; exact ⟨_, PySem.W.mg_of X G CBadChoice, excB_ok xbBadChoice, ikTooLongBadChoice⟩
    rw [if_neg z] at e; clear z
    by_cases z : n = "BadLength"
    · rw [if_pos z] at e; cases e; subst z; exact ⟨_, PySem.W.mg_of X G CBadLength, excB_ok xbBadLength, ikTooLongBadLength⟩
    rw [if_neg z] at e; clear z
    by_cases z : n = "BadLine"
    · rw [if_pos z] at e; cases e; subst z; exact ⟨_, PySem.W.mg_of X G CBadLine, excB_ok xbBadLine, ikTooLongBadLine⟩
    rw [if_neg z] at e; clear z
    by_cases z : n = "BadPlace"
    · rw [if_pos z] at e; cases e; subst z; exact ⟨_, PySem.W.mg_of X G CBadPlace, excB_ok xbBadPlace, ikTooLongBadPlace⟩
    rw [if_neg z] at e; clear z
    by_cases z : n = "BadSeen"
    · rw [if_pos z] at e; cases e; subst z; exact ⟨_, PySem.W.mg_of X G CBadSeen, excB_ok xbBadSeen, ikTooLongBadSeen⟩
    rw [if_neg z] at e; clear z
    by_cases z : n = "BadSize"
    · rw [if_pos z] at e; cases e; subst z; exact ⟨_, PySem.W.mg_of X G CBadSize, excB_ok xbBadSize, ikTooLongBadSize⟩
    rw [if_neg z] at e; clear z
    by_cases z : n = "BadSteps"
    · rw [if_pos z] at e; cases e; subst z; exact ⟨_, PySem.W.mg_of X G CBadSteps, excB_ok xbBadSteps, ikTooLongBadSteps⟩
    rw [if_neg z] at e; clear z
    by_cases z : n = "BadText"
    · rw [if_pos z] at e; cases e; subst z; exact ⟨_, PySem.W.mg_of X G CBadText, excB_ok xbBadText, ikTooLongBadText⟩
    rw [if_neg z] at e; clear z
    by_cases z : n = "TooLong"
    · rw [if_pos z] at e; cases e; subst z; exact ⟨_, PySem.W.mg_of X G CTooLong, excB_ok xbTooLong, ikTooLongTooLong⟩
    rw [if_neg z] at e; clear z
    cases e
  have iValueError : ∀ n b, isx_ValueError_z14 n = some b → ∃ D, mg n = some (.ref D) ∧ ExcC K D ∧ PySem.W.kitOne K (.ref D) (.type "ValueError") = some b := fun n b e => by
    unfold isx_ValueError_z14 at e
    by_cases z : n = "BadChoice"
    · rw [if_pos z] at e; cases e; subst z; exact ⟨_, PySem.W.mg_of X G CBadChoice, excB_ok xbBadChoice, ikValueErrorBadChoice⟩
    rw [if_neg z] at e; clear z
    by_cases z : n = "BadLength"
    · rw [if_pos z] at e; cases e; subst z; exact ⟨_, PySem.W.mg_of X G CBadLength, excB_ok xbBadLength, ikValueErrorBadLength⟩
    rw [if_neg z] at e; clear z
    by_cases z : n = "BadLine"
    · rw [if_pos z] at e; cases e; subst z; exact ⟨_, PySem.W.mg_of X G CBadLine, excB_ok xbBadLine, ikValueErrorBadLine⟩
    rw [if_neg z] at e; clear z
    by_cases z : n = "BadPlace"
    · rw [if_pos z] at e; cases e; subst z; exact ⟨_, PySem.W.mg_of X G CBadPlace, excB_ok xbBadPlace, ikValueErrorBadPlace⟩
    rw [if_neg z] at e; clear z
    by_cases z : n = "BadSeen"
    · rw [if_pos z] at e; cases e; subst z; exact ⟨_, PySem.W.mg_of X G CBadSeen, excB_ok xbBadSeen, ikValueErrorBadSeen⟩
    rw [if_neg z] at e; clear z
    by_cases z : n = "BadSize"
    · rw [if_pos z] at e; cases e; subst z; exact ⟨_, PySem.W.mg_of X G CBadSize, excB_ok xbBadSize, ikValueErrorBadSize⟩
    rw [if_neg z] at e; clear z
    by_cases z : n = "BadSteps"
    · rw [if_pos z] at e; cases e; subst z; exact ⟨_, PySem.W.mg_of X G CBadSteps, excB_ok xbBadSteps, ikValueErrorBadSteps⟩
    rw [if_neg z] at e; clear z
    by_cases z : n = "BadText"
    · rw [if_pos z] at e; cases e; subst z; exact ⟨_, PySem.W.mg_of X G CBadText, excB_ok xbBadText, ikValueErrorBadText⟩
    rw [if_neg z] at e; clear z
    by_cases z : n = "TooLong"
    · rw [if_pos z] at e; cases e; subst z; exact ⟨_, PySem.W.mg_of X G CTooLong, excB_ok xbTooLong, ikValueErrorTooLong⟩
    rw [if_neg z] at e; clear z
    cases e
  have yfindex : ∀ n, xc_index_z14 n = true → ∃ C, mg n = some (.ref C) ∧ XfC K C ∧ PySem.W.findIn K (.ref C) "index" = some none := fun n e => by
    unfold xc_index_z14 at e
    by_cases z : n = "BadChoice"
    · subst z; exact ⟨_, PySem.W.mg_of X G CBadChoice, ⟨gaBadChoice, ggBadChoice, x3BadChoice, hd2BadChoice⟩, vfBadChoiceindex⟩
    rw [if_neg z] at e; clear z
    by_cases z : n = "BadSeen"
    · subst z; exact ⟨_, PySem.W.mg_of X G CBadSeen, ⟨gaBadSeen, ggBadSeen, x3BadSeen, hd2BadSeen⟩, vfBadSeenindex⟩
    rw [if_neg z] at e; clear z
    by_cases z : n = "BadSteps"
    · subst z; exact ⟨_, PySem.W.mg_of X G CBadSteps, ⟨gaBadSteps, ggBadSteps, x3BadSteps, hd2BadSteps⟩, vfBadStepsindex⟩
    rw [if_neg z] at e; clear z
    cases e
  have yfline : ∀ n, xc_line_z14 n = true → ∃ C, mg n = some (.ref C) ∧ XfC K C ∧ PySem.W.findIn K (.ref C) "line" = some none := fun n e => by
    unfold xc_line_z14 at e
    by_cases z : n = "BadLine"
    · subst z; exact ⟨_, PySem.W.mg_of X G CBadLine, ⟨gaBadLine, ggBadLine, x3BadLine, hd2BadLine⟩, vfBadLineline⟩
    rw [if_neg z] at e; clear z
    cases e
  have yfword : ∀ n, xc_word_z14 n = true → ∃ C, mg n = some (.ref C) ∧ XfC K C ∧ PySem.W.findIn K (.ref C) "word" = some none := fun n e => by
    unfold xc_word_z14 at e
    by_cases z : n = "BadLine"
    · subst z; exact ⟨_, PySem.W.mg_of X G CBadLine, ⟨gaBadLine, ggBadLine, x3BadLine, hd2BadLine⟩, vfBadLineword⟩
    rw [if_neg z] at e; clear z
    cases e
  let T : Tx P0 K mg w := { f__law_random := _, d__law_random := _, F__law_random := F_law_random, b__law_random := b_law_random, g__law_random := PySem.W.mg_of X G a_law_random, f__law_below := _, d__law_below := _, F__law_below := F_law_below, b__law_below := b_law_below, g__law_below := PySem.W.mg_of X G a_law_below, f__law_classes_z14 := _, d__law_classes_z14 := _, F__law_classes_z14 := F_law_classes_z14, b__law_classes_z14 := b_law_classes_z14, g__law_classes_z14 := PySem.W.mg_of X G a_law_classes_z14, f__law_fields_z14 := _, d__law_fields_z14 := _, F__law_fields_z14 := F_law_fields_z14, b__law_fields_z14 := b_law_fields_z14, g__law_fields_z14 := PySem.W.mg_of X G a_law_fields_z14, f__law_pick := _, d__law_pick := _, F__law_pick := F_law_pick, b__law_pick := b_law_pick, g__law_pick := PySem.W.mg_of X G a_law_pick, f__law_thrown_z14 := _, d__law_thrown_z14 := _, F__law_thrown_z14 := F_law_thrown_z14, b__law_thrown_z14 := b_law_thrown_z14, g__law_thrown_z14 := PySem.W.mg_of X G a_law_thrown_z14, f__law_equal_z14 := _, d__law_equal_z14 := _, F__law_equal_z14 := F_law_equal_z14, b__law_equal_z14 := b_law_equal_z14, g__law_equal_z14 := PySem.W.mg_of X G a_law_equal_z14, f_law_z14 := _, d_law_z14 := _, F_law_z14 := Flaw_z14, b_law_z14 := blaw_z14, g_law_z14 := PySem.W.mg_of X G alaw_z14, z_ValueError := PySem.W.mg_none_of X G zValueError, z_abs := PySem.W.mg_none_of X G zabs, z_all := PySem.W.mg_none_of X G zall, z_bool := PySem.W.mg_none_of X G zbool, z_dict := PySem.W.mg_none_of X G zdict, z_int := PySem.W.mg_none_of X G zint, z_isinstance := PySem.W.mg_none_of X G zisinstance, z_len := PySem.W.mg_none_of X G zlen, z_list := PySem.W.mg_none_of X G zlist, z_range := PySem.W.mg_none_of X G zrange, z_str := PySem.W.mg_none_of X G zstr, z_tuple := PySem.W.mg_none_of X G ztuple, C_BadChoice := cBadChoice, g_BadChoice := PySem.W.mg_of X G CBadChoice, C_BadLength := cBadLength, g_BadLength := PySem.W.mg_of X G CBadLength, C_BadLine := cBadLine, g_BadLine := PySem.W.mg_of X G CBadLine, C_BadPlace := cBadPlace, g_BadPlace := PySem.W.mg_of X G CBadPlace, C_BadSeen := cBadSeen, g_BadSeen := PySem.W.mg_of X G CBadSeen, C_BadSize := cBadSize, g_BadSize := PySem.W.mg_of X G CBadSize, C_BadSteps := cBadSteps, g_BadSteps := PySem.W.mg_of X G CBadSteps, C_BadText := cBadText, g_BadText := PySem.W.mg_of X G CBadText, C_LetterError := cLetterError, g_LetterError := PySem.W.mg_of X G CLetterError, C_TooLong := cTooLong, g_TooLong := PySem.W.mg_of X G CTooLong, x_BadLength := ⟨x1BadLength, x2BadLength, x3BadLength, x4BadLength⟩, x_BadPlace := ⟨x1BadPlace, x2BadPlace, x3BadPlace, x4BadPlace⟩, x_BadSize := ⟨x1BadSize, x2BadSize, x3BadSize, x4BadSize⟩, x_BadText := ⟨x1BadText, x2BadText, x3BadText, x4BadText⟩, x_TooLong := ⟨x1TooLong, x2TooLong, x3TooLong, x4TooLong⟩, v_BadChoice_index := vfBadChoiceindex, f_BadChoice___init__ := _, d_BadChoice___init__ := _, S_BadChoice := SBadChoice, b_BadChoice___init__ := bBadChoice___init__, X_BadChoice := ⟨gaBadChoice, ggBadChoice, x3BadChoice, hd2BadChoice⟩, v_BadLine_line := vfBadLineline, v_BadLine_word := vfBadLineword, f_BadLine___init__ := _, d_BadLine___init__ := _, S_BadLine := SBadLine, b_BadLine___init__ := bBadLine___init__, X_BadLine := ⟨gaBadLine, ggBadLine, x3BadLine, hd2BadLine⟩, v_BadSeen_index := vfBadSeenindex, f_BadSeen___init__ := _, d_BadSeen___init__ := _, S_BadSeen := SBadSeen, b_BadSeen___init__ := bBadSeen___init__, X_BadSeen := ⟨gaBadSeen, ggBadSeen, x3BadSeen, hd2BadSeen⟩, v_BadSteps_index := vfBadStepsindex, f_BadSteps___init__ := _, d_BadSteps___init__ := _, S_BadSteps := SBadSteps, b_BadSteps___init__ := bBadSteps___init__, X_BadSteps := ⟨gaBadSteps, ggBadSteps, x3BadSteps, hd2BadSteps⟩, h_LetterError := hLetterError, i_BadChoice := iBadChoice, i_BadLength := iBadLength, i_BadLine := iBadLine, i_BadPlace := iBadPlace, i_BadSeen := iBadSeen, i_BadSize := iBadSize, i_BadSteps := iBadSteps, i_BadText := iBadText, i_TooLong := iTooLong, i_ValueError := iValueError, y_index := yfindex, y_line := yfline, y_word := yfword }
  exact ⟨_, fun s v => .of_eq rfl, fun base _ _ => (ok_law_z14 T).imp fun vs H Q E q => spW_imp pure_law q⟩
end Den
open PySem PySem.W PyProof.Rows
set_option maxHeartbeats 0 in
theorem PySem.Challenge.cw_ringalphabet_k14_errors_apart_holds : PySem.Challenge.rw_ringalphabet_k14_errors_apart.Holds := by
  w_on; o_law; k_head; (case hw => w_witness2)
  k_fill
  refine L2.walk_of (l := PySem.Challenge.rw_ringalphabet_k14_errors_apart) (n := 63) (k := 7) (x := "_law_script") (CX := fun w => L2N.CX PySem.Challenge.rw_ringalphabet_k14_errors_apart.prog w) (sp := fun w => Den.spW _) rfl (by decide) rfl ⟨rfl, by decide, by decide⟩ (fun w h Y => PySem.W.kIn_of Y) ?F (fun _ _ a ns hl _ hS => ⟨a, ns, rfl, hl, hS, fun _ => rfl⟩) (fun _ _ _ _ _ h => Den.cx_none h)
  case F =>
    intro w mg fa h KX G hmg
    refine' Den.all_mk KX G hmg ?a_law_random ?l_law_random ?c_law_random ?k_law_random ?a_law_below ?l_law_below ?c_law_below ?k_law_below ?a_law_classes_z14 ?l_law_classes_z14 ?c_law_classes_z14 ?k_law_classes_z14 ?a_law_fields_z14 ?l_law_fields_z14 ?c_law_fields_z14 ?k_law_fields_z14 ?a_law_pick ?l_law_pick ?c_law_pick ?k_law_pick ?a_law_thrown_z14 ?l_law_thrown_z14 ?c_law_thrown_z14 ?k_law_thrown_z14 ?a_law_equal_z14 ?l_law_equal_z14 ?c_law_equal_z14 ?k_law_equal_z14 ?alaw_z14 ?llaw_z14 ?claw_z14 ?klaw_z14 ?zValueError ?zabs ?zall ?zbool ?zdict ?zint ?zisinstance ?zlen ?zlist ?zrange ?zstr ?ztuple ?CBadChoice ?CBadLength ?CBadLine ?CBadPlace ?CBadSeen ?CBadSize ?CBadSteps ?CBadText ?CLetterError ?CTooLong ?x1BadLength ?x2BadLength ?x3BadLength ?x4BadLength ?x1BadPlace ?x2BadPlace ?x3BadPlace ?x4BadPlace ?x1BadSize ?x2BadSize ?x3BadSize ?x4BadSize ?x1BadText ?x2BadText ?x3BadText ?x4BadText ?x1TooLong ?x2TooLong ?x3TooLong ?x4TooLong ?iBadChoice___init__ ?lBadChoice___init__ ?cBadChoice___init__ ?yBadChoice___init__ ?oc1BadChoice ?oc2BadChoice ?oc3BadChoice ?x2BadChoice ?x3BadChoice ?x4BadChoice ?ceBadChoice ?coBadChoice ?cvBadChoice ?cfBadChoice ?opBadChoice ?siBadChoice ?suBadChoice ?seBadChoice ?toBadChoice ?zsuper ?gaBadChoice ?ggBadChoice ?hd2BadChoice ?vfBadChoiceindex ?iBadLine___init__ ?lBadLine___init__ ?cBadLine___init__ ?yBadLine___init__ ?oc1BadLine ?oc2BadLine ?oc3BadLine ?x2BadLine ?x3BadLine ?x4BadLine ?ceBadLine ?coBadLine ?cvBadLine ?cfBadLine ?opBadLine ?siBadLine ?suBadLine ?seBadLine ?toBadLine ?gaBadLine ?ggBadLine ?hd2BadLine ?vfBadLineline ?vfBadLineword ?iBadSeen___init__ ?lBadSeen___init__ ?cBadSeen___init__ ?yBadSeen___init__ ?oc1BadSeen ?oc2BadSeen ?oc3BadSeen ?x2BadSeen ?x3BadSeen ?x4BadSeen ?ceBadSeen ?coBadSeen ?cvBadSeen ?cfBadSeen ?opBadSeen ?siBadSeen ?suBadSeen ?seBadSeen ?toBadSeen ?gaBadSeen ?ggBadSeen ?hd2BadSeen ?vfBadSeenindex ?iBadSteps___init__ ?lBadSteps___init__ ?cBadSteps___init__ ?yBadSteps___init__ ?oc1BadSteps ?oc2BadSteps ?oc3BadSteps ?x2BadSteps ?x3BadSteps ?x4BadSteps ?ceBadSteps ?coBadSteps ?cvBadSteps ?cfBadSteps ?opBadSteps ?siBadSteps ?suBadSteps ?seBadSteps ?toBadSteps ?gaBadSteps ?ggBadSteps ?hd2BadSteps ?vfBadStepsindex ?eLetterErrorBadChoice ?eLetterErrorBadLength ?eLetterErrorBadLine ?eLetterErrorBadPlace ?eLetterErrorBadSeen ?eLetterErrorBadSize ?eLetterErrorBadSteps ?eLetterErrorBadText ?eLetterErrorLetterError ?eLetterErrorTooLong ?ikBadChoiceBadChoice ?xbBadChoice ?ikBadChoiceBadLength ?xbBadLength ?ikBadChoiceBadLine ?xbBadLine ?ikBadChoiceBadPlace ?xbBadPlace ?ikBadChoiceBadSeen ?xbBadSeen ?ikBadChoiceBadSize ?xbBadSize ?ikBadChoiceBadSteps ?xbBadSteps ?ikBadChoiceBadText ?xbBadText ?ikBadChoiceTooLong ?xbTooLong ?ikBadLengthBadChoice ?ikBadLengthBadLength ?ikBadLengthBadLine ?ikBadLengthBadPlace ?ikBadLengthBadSeen ?ikBadLengthBadSize ?ikBadLengthBadSteps ?ikBadLengthBadText ?ikBadLengthTooLong ?ikBadLineBadChoice ?ikBadLineBadLength ?ikBadLineBadLine ?ikBadLineBadPlace ?ikBadLineBadSeen ?ikBadLineBadSize ?ikBadLineBadSteps ?ikBadLineBadText ?ikBadLineTooLong ?ikBadPlaceBadChoice ?ikBadPlaceBadLength ?ikBadPlaceBadLine ?ikBadPlaceBadPlace ?ikBadPlaceBadSeen ?ikBadPlaceBadSize ?ikBadPlaceBadSteps ?ikBadPlaceBadText ?ikBadPlaceTooLong ?ikBadSeenBadChoice ?ikBadSeenBadLength ?ikBadSeenBadLine ?ikBadSeenBadPlace ?ikBadSeenBadSeen ?ikBadSeenBadSize ?ikBadSeenBadSteps ?ikBadSeenBadText ?ikBadSeenTooLong ?ikBadSizeBadChoice ?ikBadSizeBadLength ?ikBadSizeBadLine ?ikBadSizeBadPlace ?ikBadSizeBadSeen ?ikBadSizeBadSize ?ikBadSizeBadSteps ?ikBadSizeBadText ?ikBadSizeTooLong ?ikBadStepsBadChoice ?ikBadStepsBadLength ?ikBadStepsBadLine ?ikBadStepsBadPlace ?ikBadStepsBadSeen ?ikBadStepsBadSize ?ikBadStepsBadSteps ?ikBadStepsBadText ?ikBadStepsTooLong ?ikBadTextBadChoice ?ikBadTextBadLength ?ikBadTextBadLine ?ikBadTextBadPlace ?ikBadTextBadSeen ?ikBadTextBadSize ?ikBadTextBadSteps ?ikBadTextBadText ?ikBadTextTooLong ?ikTooLongBadChoice ?ikTooLongBadLength ?ikTooLongBadLine ?ikTooLongBadPlace ?ikTooLongBadSeen ?ikTooLongBadSize ?ikTooLongBadSteps ?ikTooLongBadText ?ikTooLongTooLong ?ikValueErrorBadChoice ?ikValueErrorBadLength ?ikValueErrorBadLine ?ikValueErrorBadPlace ?ikValueErrorBadSeen ?ikValueErrorBadSize ?ikValueErrorBadSteps ?ikValueErrorBadText ?ikValueErrorTooLong
    (case a_law_random => k_is)
    (case l_law_random => k_is)
    (case c_law_random => k_is)
    (case k_law_random => k_is)
    (case a_law_below => k_is)
    (case l_law_below => k_is)
    (case c_law_below => k_is)
    (case k_law_below => k_is)
    (case a_law_classes_z14 => k_is)
    (case l_law_classes_z14 => k_is)
    (case c_law_classes_z14 => k_is)
    (case k_law_classes_z14 => k_is)
    (case a_law_fields_z14 => k_is)
    (case l_law_fields_z14 => k_is)
    (case c_law_fields_z14 => k_is)
    (case k_law_fields_z14 => k_is)
    (case a_law_pick => k_is)
    (case l_law_pick => k_is)
    (case c_law_pick => k_is)
    (case k_law_pick => k_is)
    (case a_law_thrown_z14 => k_is)
    (case l_law_thrown_z14 => k_is)
    (case c_law_thrown_z14 => k_is)
    (case k_law_thrown_z14 => k_is)
    (case a_law_equal_z14 => k_is)
    (case l_law_equal_z14 => k_is)
    (case c_law_equal_z14 => k_is)
    (case k_law_equal_z14 => k_is)
    (case alaw_z14 => k_is)
    (case llaw_z14 => k_is)
    (case claw_z14 => k_is)
    (case klaw_z14 => k_is)
    (case zValueError => k_is)
    (case zabs => k_is)
    (case zall => k_is)
    (case zbool => k_is)
    (case zdict => k_is)
    (case zint => k_is)
    (case zisinstance => k_is)
    (case zlen => k_is)
    (case zlist => k_is)
    (case zrange => k_is)
    (case zstr => k_is)
    (case ztuple => k_is)
    (case CBadChoice => k_is)
    (case CBadLength => k_is)
    (case CBadLine => k_is)
    (case CBadPlace => k_is)
    (case CBadSeen => k_is)
    (case CBadSize => k_is)
    (case CBadSteps => k_is)
    (case CBadText => k_is)
    (case CLetterError => k_is)
    (case CTooLong => k_is)
    (case x1BadLength => kernel_rfl)
    (case x2BadLength => k_is)
    (case x3BadLength => k_is)
    (case x4BadLength => k_is)
    (case x1BadPlace => kernel_rfl)
    (case x2BadPlace => k_is)
    (case x3BadPlace => k_is)
    (case x4BadPlace => k_is)
    (case x1BadSize => kernel_rfl)
    (case x2BadSize => k_is)
    (case x3BadSize => k_is)
    (case x4BadSize => k_is)
    (case x1BadText => kernel_rfl)
    (case x2BadText => k_is)
    (case x3BadText => k_is)
    (case x4BadText => k_is)
    (case x1TooLong => kernel_rfl)
    (case x2TooLong => k_is)
    (case x3TooLong => k_is)
    (case x4TooLong => k_is)
    (case iBadChoice___init__ => k_is)
    (case lBadChoice___init__ => first | k_is | rfl | kernel_rfl)
    (case cBadChoice___init__ => k_is)
    (case yBadChoice___init__ => k_is)
    (case oc1BadChoice => first | k_is | rfl | kernel_rfl)
    (case oc2BadChoice => first | k_is | rfl | kernel_rfl)
    (case oc3BadChoice => k_is)
    (case x2BadChoice => k_is)
    (case x3BadChoice => k_is)
    (case x4BadChoice => k_is)
    (case ceBadChoice => first | k_is | rfl | kernel_rfl)
    (case coBadChoice => first | k_is | rfl | kernel_rfl)
    (case cvBadChoice => first | k_is | rfl | kernel_rfl)
    (case cfBadChoice => first | k_is | rfl | kernel_rfl)
    (case opBadChoice => first | k_is | rfl | kernel_rfl)
    (case siBadChoice => first | k_is | rfl | kernel_rfl)
    (case suBadChoice => k_is)
    (case seBadChoice => k_is)
    (case toBadChoice => first | k_is | rfl | kernel_rfl)
    (case zsuper => k_is)
    (case gaBadChoice => k_is)
    (case ggBadChoice => k_is)
    (case hd2BadChoice => k_is)
    (case vfBadChoiceindex => k_is)
    (case iBadLine___init__ => k_is)
    (case lBadLine___init__ => first | k_is | rfl | kernel_rfl)
    (case cBadLine___init__ => k_is)
    (case yBadLine___init__ => k_is)
    (case oc1BadLine => first | k_is | rfl | kernel_rfl)
    (case oc2BadLine => first | k_is | rfl | kernel_rfl)
    (case oc3BadLine => k_is)
    (case x2BadLine => k_is)
    (case x3BadLine => k_is)
    (case x4BadLine => k_is)
    (case ceBadLine => first | k_is | rfl | kernel_rfl)
    (case coBadLine => first | k_is | rfl | kernel_rfl)
    (case cvBadLine => first | k_is | rfl | kernel_rfl)
    (case cfBadLine => first | k_is | rfl | kernel_rfl)
    (case opBadLine => first | k_is | rfl | kernel_rfl)
    (case siBadLine => first | k_is | rfl | kernel_rfl)
    (case suBadLine => k_is)
    (case seBadLine => k_is)
    (case toBadLine => first | k_is | rfl | kernel_rfl)
    (case gaBadLine => k_is)
    (case ggBadLine => k_is)
    (case hd2BadLine => k_is)
    (case vfBadLineline => k_is)
    (case vfBadLineword => k_is)
    (case iBadSeen___init__ => k_is)
    (case lBadSeen___init__ => first | k_is | rfl | kernel_rfl)
    (case cBadSeen___init__ => k_is)
    (case yBadSeen___init__ => k_is)
    (case oc1BadSeen => first | k_is | rfl | kernel_rfl)
    (case oc2BadSeen => first | k_is | rfl | kernel_rfl)
    (case oc3BadSeen => k_is)
    (case x2BadSeen => k_is)
    (case x3BadSeen => k_is)
    (case x4BadSeen => k_is)
    (case ceBadSeen => first | k_is | rfl | kernel_rfl)
    (case coBadSeen => first | k_is | rfl | kernel_rfl)
    (case cvBadSeen => first | k_is | rfl | kernel_rfl)
    (case cfBadSeen => first | k_is | rfl | kernel_rfl)
    (case opBadSeen => first | k_is | rfl | kernel_rfl)
    (case siBadSeen => first | k_is | rfl | kernel_rfl)
    (case suBadSeen => k_is)
    (case seBadSeen => k_is)
    (case toBadSeen => first | k_is | rfl | kernel_rfl)
    (case gaBadSeen => k_is)
    (case ggBadSeen => k_is)
    (case hd2BadSeen => k_is)
    (case vfBadSeenindex => k_is)
    (case iBadSteps___init__ => k_is)
    (case lBadSteps___init__ => first | k_is | rfl | kernel_rfl)
    (case cBadSteps___init__ => k_is)
    (case yBadSteps___init__ => k_is)
    (case oc1BadSteps => first | k_is | rfl | kernel_rfl)
    (case oc2BadSteps => first | k_is | rfl | kernel_rfl)
    (case oc3BadSteps => k_is)
    (case x2BadSteps => k_is)
    (case x3BadSteps => k_is)
    (case x4BadSteps => k_is)
    (case ceBadSteps => first | k_is | rfl | kernel_rfl)
    (case coBadSteps => first | k_is | rfl | kernel_rfl)
    (case cvBadSteps => first | k_is | rfl | kernel_rfl)
    (case cfBadSteps => first | k_is | rfl | kernel_rfl)
    (case opBadSteps => first | k_is | rfl | kernel_rfl)
    (case siBadSteps => first | k_is | rfl | kernel_rfl)
    (case suBadSteps => k_is)
    (case seBadSteps => k_is)
    (case toBadSteps => first | k_is | rfl | kernel_rfl)
    (case gaBadSteps => k_is)
    (case ggBadSteps => k_is)
    (case hd2BadSteps => k_is)
    (case vfBadStepsindex => k_is)
    (case eLetterErrorBadChoice => kernel_rfl)
    (case eLetterErrorBadLength => kernel_rfl)
    (case eLetterErrorBadLine => kernel_rfl)
    (case eLetterErrorBadPlace => kernel_rfl)
    (case eLetterErrorBadSeen => kernel_rfl)
    (case eLetterErrorBadSize => kernel_rfl)
    (case eLetterErrorBadSteps => kernel_rfl)
    (case eLetterErrorBadText => kernel_rfl)
    (case eLetterErrorLetterError => kernel_rfl)
    (case eLetterErrorTooLong => kernel_rfl)
    (case ikBadChoiceBadChoice => kernel_rfl)
    (case xbBadChoice => kernel_rfl)
    (case ikBadChoiceBadLength => kernel_rfl)
    (case xbBadLength => kernel_rfl)
    (case ikBadChoiceBadLine => kernel_rfl)
    (case xbBadLine => kernel_rfl)
    (case ikBadChoiceBadPlace => kernel_rfl)
    (case xbBadPlace => kernel_rfl)
    (case ikBadChoiceBadSeen => kernel_rfl)
    (case xbBadSeen => kernel_rfl)
    (case ikBadChoiceBadSize => kernel_rfl)
    (case xbBadSize => kernel_rfl)
    (case ikBadChoiceBadSteps => kernel_rfl)
    (case xbBadSteps => kernel_rfl)
    (case ikBadChoiceBadText => kernel_rfl)
    (case xbBadText => kernel_rfl)
    (case ikBadChoiceTooLong => kernel_rfl)
    (case xbTooLong => kernel_rfl)
    (case ikBadLengthBadChoice => kernel_rfl)
    (case ikBadLengthBadLength => kernel_rfl)
    (case ikBadLengthBadLine => kernel_rfl)
    (case ikBadLengthBadPlace => kernel_rfl)
    (case ikBadLengthBadSeen => kernel_rfl)
    (case ikBadLengthBadSize => kernel_rfl)
    (case ikBadLengthBadSteps => kernel_rfl)
    (case ikBadLengthBadText => kernel_rfl)
    (case ikBadLengthTooLong => kernel_rfl)
    (case ikBadLineBadChoice => kernel_rfl)
    (case ikBadLineBadLength => kernel_rfl)
    (case ikBadLineBadLine => kernel_rfl)
    (case ikBadLineBadPlace => kernel_rfl)
    (case ikBadLineBadSeen => kernel_rfl)
    (case ikBadLineBadSize => kernel_rfl)
    (case ikBadLineBadSteps => kernel_rfl)
    (case ikBadLineBadText => kernel_rfl)
    (case ikBadLineTooLong => kernel_rfl)
    (case ikBadPlaceBadChoice => kernel_rfl)
    (case ikBadPlaceBadLength => kernel_rfl)
    (case ikBadPlaceBadLine => kernel_rfl)
    (case ikBadPlaceBadPlace => kernel_rfl)
    (case ikBadPlaceBadSeen => kernel_rfl)
    (case ikBadPlaceBadSize => kernel_rfl)
    (case ikBadPlaceBadSteps => kernel_rfl)
    (case ikBadPlaceBadText => kernel_rfl)
    (case ikBadPlaceTooLong => kernel_rfl)
    (case ikBadSeenBadChoice => kernel_rfl)
    (case ikBadSeenBadLength => kernel_rfl)
    (case ikBadSeenBadLine => kernel_rfl)
    (case ikBadSeenBadPlace => kernel_rfl)
    (case ikBadSeenBadSeen => kernel_rfl)
    (case ikBadSeenBadSize => kernel_rfl)
    (case ikBadSeenBadSteps => kernel_rfl)
    (case ikBadSeenBadText => kernel_rfl)
    (case ikBadSeenTooLong => kernel_rfl)
    (case ikBadSizeBadChoice => kernel_rfl)
    (case ikBadSizeBadLength => kernel_rfl)
    (case ikBadSizeBadLine => kernel_rfl)
    (case ikBadSizeBadPlace => kernel_rfl)
    (case ikBadSizeBadSeen => kernel_rfl)
    (case ikBadSizeBadSize => kernel_rfl)
    (case ikBadSizeBadSteps => kernel_rfl)
    (case ikBadSizeBadText => kernel_rfl)
    (case ikBadSizeTooLong => kernel_rfl)
    (case ikBadStepsBadChoice => kernel_rfl)
    (case ikBadStepsBadLength => kernel_rfl)
    (case ikBadStepsBadLine => kernel_rfl)
    (case ikBadStepsBadPlace => kernel_rfl)
    (case ikBadStepsBadSeen => kernel_rfl)
    (case ikBadStepsBadSize => kernel_rfl)
    (case ikBadStepsBadSteps => kernel_rfl)
    (case ikBadStepsBadText => kernel_rfl)
    (case ikBadStepsTooLong => kernel_rfl)
    (case ikBadTextBadChoice => kernel_rfl)
    (case ikBadTextBadLength => kernel_rfl)
    (case ikBadTextBadLine => kernel_rfl)
    (case ikBadTextBadPlace => kernel_rfl)
    (case ikBadTextBadSeen => kernel_rfl)
    (case ikBadTextBadSize => kernel_rfl)
    (case ikBadTextBadSteps => kernel_rfl)
    (case ikBadTextBadText => kernel_rfl)
    (case ikBadTextTooLong => kernel_rfl)
    (case ikTooLongBadChoice => kernel_rfl)
    (case ikTooLongBadLength => kernel_rfl)
    (case ikTooLongBadLine => kernel_rfl)
    (case ikTooLongBadPlace => kernel_rfl)
    (case ikTooLongBadSeen => kernel_rfl)
    (case ikTooLongBadSize => kernel_rfl)
    (case ikTooLongBadSteps => kernel_rfl)
    (case ikTooLongBadText => kernel_rfl)
    (case ikTooLongTooLong => kernel_rfl)
    (case ikValueErrorBadChoice => kernel_rfl)
    (case ikValueErrorBadLength => kernel_rfl)
    (case ikValueErrorBadLine => kernel_rfl)
    (case ikValueErrorBadPlace => kernel_rfl)
    (case ikValueErrorBadSeen => kernel_rfl)
    (case ikValueErrorBadSize => kernel_rfl)
    (case ikValueErrorBadSteps => kernel_rfl)
    (case ikValueErrorBadText => kernel_rfl)
    (case ikValueErrorTooLong => kernel_rfl)


