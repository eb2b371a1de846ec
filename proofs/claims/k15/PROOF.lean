import PyProof.Rows.All
import Wide.All
import OpenK.AllK
import Wide.FinOn
import HandS.ForMost
import HandS.ForExc
import HandS.CallSlots
import HandS.TryMany
import HandS.TupAny
import HandS.TupMul
import HandS.Style
import HandS.Flow
import HandS.ExcCtx
import HandS.HotCalls
import HandS.Zip
import KE.GoesMore
import HandS.Wide
import HandS.Small
import HandS.IsInst
import HandS.More
import HandS.Text
import HandS.RaiseMore
import HandS.Star
import HandS.Ends
import HandS.TupLen
import HandS.Conv
import HandS.SortInts
import HandS.Property
import HandS.OwnEq
import HandS.Codes
import KE.DataCmp
import OpenK.KMeth
import HandS.Nested
import HandS.ExcInit
import HandS.IterNext
import KE.KExcSuper
import HandS.ExcField
import PyProof.StrOps2
import HandS.ExcValue
import HandS.ExcIs
import KE.KExcIs
import HandS.SortOrd
import HandS.Keys
import HandS.TupSets
import PyProof.SetRoads
import PySem.Challenge.RW_ringalphabet_k15_known_scripts
set_option Elab.async false
set_option linter.all false
set_option maxRecDepth 100000
set_option maxHeartbeats 4000000
/-! Den: a Python def as a total Lean function over plain data, and the rules by which the machine's run is held to it. -/
namespace Den
variable {hox : Option Addr}
open PySem PySem.Spec PyProof.Rows L2

/-- plain data: a value as a tree -/
inductive D where
  | non | bl (b : Bool) | int (i : Int) | str (x : Str)
  | tup (xs : List D) | ktup (xs : List D) | lst (xs : List D) | dic (kvs : List (Key × D)) | obj (c : Str) (fs : List (Str × D)) | scr (ns : List Int)
  | exn (c : Str) (fs : List (Str × D))
/-- what a list or dict that is still being written holds -/
inductive O where
  | lst (xs : List D) | dK (kvs : List (Key × D)) | dT (kvs : List (List Key × D)) | ins (c : Str) (fs : List (Str × D))
  | wlk (p1 p2 : Addr) (n : D) (ts ns : List D)
/-- the lists within -/
def O.sub : O → List Addr
  | .wlk p1 p2 _ _ _ => [p1, p2]
  | _ => []
/-- the addresses of an object of one's own -/
def foot (p : Addr) (o : O) (b : Addr) : Prop := b = p ∨ b ∈ o.sub
theorem foot_self {p : Addr} {o : O} : foot p o p := .inl rfl
theorem foot_one {p b : Addr} {o : O} (e : o.sub = []) (h : foot p o b) : b = p := by
  rcases h with h | h
  · exact h
  · rw [e] at h; cases h
/-- a caught exception that is held: its object, not the clause's any more -/
def ExA (a : Addr) (oe : Obj) : HO := .ext fun h => h.get? a = some oe
/-- its context is None -/
def CtxF (oe : Obj) : Prop := ∃ vs : Array Value, oe.data = .fields vs ∧ vs[2]? = some .none
structure ExIs (C : Addr) (dd : Option Addr) (oe : Obj) : Prop where
  cls : oe.cls = .ref C
  dict : oe.dict = dd
  data : ∃ vs, oe.data = .fields vs
/-- a slot: a datum; an object of the def's own; an object lent by the caller -/
inductive Sl where
  | val (d : D) | own (o : O) | bor (o : O)
abbrev S := List (Option Sl)
structure Exc where
  c : Str
  fs : List (Str × D)
inductive Out (α : Type) where
  | ok (a : α) (s : S) | exc (x : Exc) (s : S) | bad
def Out.bind {α β : Type} (o : Out α) (k : α → S → Out β) : Out β := match o with
  | .ok a s => k a s
  | .exc x s => .exc x s
  | .bad => .bad

section
variable (hox : Option Addr) (K : PySem.W.Frag) (mg : Str → Option Value)
mutual
inductive Rep (G : Hp) : V → D → Prop
  | non : Rep G .non .non
  | bl (b : Bool) : Rep G (.bl b) (.bl b)
  | int (i : Int) : Rep G (.int i) (.int i)
  | str (x : Str) : Rep G (.str x) (.str x)
  | tup {a : Addr} {xs : List V} {ds : List D} : G a = some (.tup xs) → RepL G xs ds → Rep G (.ref a) (.tup ds)
  | ktup {a : Addr} {xs : List V} {ds : List D} : SqT K G a xs → RepL G xs ds → Rep G (.ref a) (.ktup ds)
  | lst {a : Addr} {xs : List V} {ds : List D} : G a = some (.lst xs) → RepL G xs ds → Rep G (.ref a) (.lst ds)
  | scr {a : Addr} {ns : List Int} : SqL K G a (ns.map V.int) → Rep G (.ref a) (.scr ns)
  | dic {a : Addr} {o : Obj} {xs : List (Key × V)} {ds : List (Key × D)} : G a = some (.frz o (.dK xs)) → RepK G xs ds → Rep G (.ref a) (.dic ds)
  | obj {a C dx : Addr} {c : Str} {xs : List (Str × V)} {ds : List (Str × D)} : mg c = some (.ref C) → G a = some (.ins C dx xs) → RepF G xs ds → Rep G (.ref a) (.obj c ds)
  | exn0 {a C : Addr} {oe : Obj} {c : Str} : mg c = some (.ref C) → ExIs C none oe → G a = some (ExA a oe) → Rep G (.ref a) (.exn c [])
  | exnD {a C d : Addr} {oe : Obj} {c : Str} {xs : List (Str × V)} {ds : List (Str × D)} : mg c = some (.ref C) → ExIs C (some d) oe → G a = some (ExA a oe) → G d = some (.xd xs) → RepF G xs ds → Rep G (.ref a) (.exn c ds)
inductive RepL (G : Hp) : List V → List D → Prop
  | nil : RepL G [] []
  | cons {v : V} {vs : List V} {d : D} {ds : List D} : Rep G v d → RepL G vs ds → RepL G (v :: vs) (d :: ds)
inductive RepK (G : Hp) : List (Key × V) → List (Key × D) → Prop
  | nil : RepK G [] []
  | cons {k : Key} {v : V} {vs : List (Key × V)} {d : D} {ds : List (Key × D)} : Rep G v d → RepK G vs ds → RepK G ((k, v) :: vs) ((k, d) :: ds)
inductive RepF (G : Hp) : List (Str × V) → List (Str × D) → Prop
  | nil : RepF G [] []
  | cons {k : Str} {v : V} {vs : List (Str × V)} {d : D} {ds : List (Str × D)} : Rep G v d → RepF G vs ds → RepF G ((k, v) :: vs) ((k, d) :: ds)
end
inductive RepT (G : Hp) : List (List Key × V) → List (List Key × D) → Prop
  | nil : RepT G [] []
  | cons {k : List Key} {v : V} {vs : List (List Key × V)} {d : D} {ds : List (List Key × D)} : Rep K mg G v d → RepT G vs ds → RepT G ((k, v) :: vs) ((k, d) :: ds)
end

/-- what is read in G is read in G' -/
structure Le (G G' : Hp) : Prop where
  rd : ∀ b u, Rd G b u → Rd G' b u
  ins : ∀ b C dx fs, G b = some (.ins C dx fs) → G' b = some (.ins C dx fs)
  xd : ∀ b fs, G b = some (.xd fs) → G' b = some (.xd fs)
  frz : ∀ b o u, G b = some (.frz o u) → G' b = some (.frz o u)
  lst : ∀ b xs, G b = some (.lst xs) → G' b = some (.lst xs)
  tup : ∀ b xs, G b = some (.tup xs) → G' b = some (.tup xs)
  ext : ∀ b φ, G b = some (.ext φ) → G' b = some (.ext φ)
theorem Le.refl (G : Hp) : Le G G := ⟨fun _ _ h => h, fun _ _ _ _ h => h, fun _ _ h => h, fun _ _ _ h => h, fun _ _ h => h, fun _ _ h => h, fun _ _ h => h⟩
theorem Le.trans {G G1 G2 : Hp} (a : Le G G1) (b : Le G1 G2) : Le G G2 :=
  ⟨fun x u h => b.rd x u (a.rd x u h), fun x C dx fs h => b.ins x C dx fs (a.ins x C dx fs h), fun x fs h => b.xd x fs (a.xd x fs h), fun x o u h => b.frz x o u (a.frz x o u h), fun x fs h => b.lst x fs (a.lst x fs h), fun x fs h => b.tup x fs (a.tup x fs h), fun x fs h => b.ext x fs (a.ext x fs h)⟩
theorem Le.of {G G' : Hp} (h : ∀ b o, G b = some o → G' b = some o) : Le G G' :=
  ⟨fun b u r => by
    rcases r with r | ⟨o, r⟩
    · exact .inl (h _ _ r)
    · exact .inr ⟨o, h _ _ r⟩, fun b _ _ _ r => h b _ r, fun b _ r => h b _ r, fun b _ _ r => h b _ r, fun b _ r => h b _ r, fun b _ r => h b _ r, fun b _ r => h b _ r⟩
theorem Le.sqL {K : PySem.W.Frag} {G G' : Hp} (l : Le G G') {a : Addr} {xs : List V} (h : SqL K G a xs) : SqL K G' a xs := by
  rcases h with h | h
  · exact .inl (l.rd _ _ h)
  · exact .inr h
theorem Le.sqT {K : PySem.W.Frag} {G G' : Hp} (l : Le G G') {a : Addr} {xs : List V} (h : SqT K G a xs) : SqT K G' a xs := by
  rcases h with h | h
  · exact .inl (l.rd _ _ h)
  · exact .inr h

section
variable {K : PySem.W.Frag} {mg : Str → Option Value} {G G' : Hp}
mutual
theorem Rep.mono (l : Le G G') : ∀ {v : V} {d : D}, Rep K mg G v d → Rep K mg G' v d
  | _, _, .non => .non
  | _, _, .bl b => .bl b
  | _, _, .int i => .int i
  | _, _, .str x => .str x
  | _, _, .tup h r => .tup (l.tup _ _ h) (RepL.mono l r)
  | _, _, .ktup h r => .ktup (l.sqT h) (RepL.mono l r)
  | _, _, .lst h r => .lst (l.lst _ _ h) (RepL.mono l r)
  | _, _, .scr h => .scr (l.sqL h)
  | _, _, .dic h r => .dic (l.frz _ _ _ h) (RepK.mono l r)
  | _, _, .obj m h r => .obj m (l.ins _ _ _ _ h) (RepF.mono l r)
  | _, _, .exn0 m e h => .exn0 m e (l.ext _ _ h)
  | _, _, .exnD m e h hd r => .exnD m e (l.ext _ _ h) (l.xd _ _ hd) (RepF.mono l r)
theorem RepL.mono (l : Le G G') : ∀ {v : List V} {d : List D}, RepL K mg G v d → RepL K mg G' v d
  | _, _, .nil => .nil
  | _, _, .cons h r => .cons (Rep.mono l h) (RepL.mono l r)
theorem RepK.mono (l : Le G G') : ∀ {v : List (Key × V)} {d : List (Key × D)}, RepK K mg G v d → RepK K mg G' v d
  | _, _, .nil => .nil
  | _, _, .cons h r => .cons (Rep.mono l h) (RepK.mono l r)
theorem RepF.mono (l : Le G G') : ∀ {v : List (Str × V)} {d : List (Str × D)}, RepF K mg G v d → RepF K mg G' v d
  | _, _, .nil => .nil
  | _, _, .cons h r => .cons (Rep.mono l h) (RepF.mono l r)
end
theorem RepT.mono (l : Le G G') {v : List (List Key × V)} {d : List (List Key × D)} (h : RepT K mg G v d) : RepT K mg G' v d := by
  induction h with
  | nil => exact .nil
  | cons h _ ih => exact .cons (h.mono l) ih
end
end Den

set_option Elab.async false
set_option linter.all false
set_option maxRecDepth 100000
set_option maxHeartbeats 4000000
namespace Den
variable {hox : Option Addr}
open PySem PySem.Spec PyProof.Rows L2

/-! ### the state -/
abbrev St := L2.St
open Classical in
noncomputable def hid (h : Addr → Prop) (H : Hp) : Hp := fun b => if h b then none else H b
theorem hid_no {h : Addr → Prop} {H : Hp} {b : Addr} (n : ¬ h b) : hid h H b = H b := by unfold hid; rw [if_neg n]
theorem hid_some {h : Addr → Prop} {H : Hp} {b : Addr} {o : HO} (e : hid h H b = some o) : ¬ h b ∧ H b = some o := by
  unfold hid at e
  split at e
  · cases e
  · rename_i n; exact ⟨n, e⟩
theorem hid_le {h h' : Addr → Prop} {H H' : Hp} (k : ∀ b o, ¬ h b → H b = some o → ¬ h' b ∧ H' b = some o) : Le (hid h H) (hid h' H') :=
  Le.of fun b o e => by
    obtain ⟨n, e⟩ := hid_some e
    obtain ⟨n', e'⟩ := k b o n e
    rw [hid_no n']; exact e'
theorem hid_base {h : Addr → Prop} {H : Hp} : Le (hid h H) H := Le.of fun b o e => (hid_some e).2

/-- the entry: the abstract heap, what the callers own, what they lent by slot -/
structure Ct where
  H0 : Hp
  A : Addr → Prop
  B : Nat → Option Addr
  E : Addr → HO → Prop
  L : Addr → Prop
/-- one more object that stands by itself -/
def Ct.ext (c : Ct) (p : Addr) (ho : HO) : Ct := { c with E := fun b o => c.E b o ∨ (b = p ∧ o = ho) }
def hs (c : Ct) (s : S) (σ : St) : Addr → Prop := fun p => c.A p ∨ (∃ ho, c.E p ho) ∨ ∃ (i : Nat) (o : O) (q : Addr), s[i]? = some (some (.own o)) ∧ σ[i]? = some (some (.ref q)) ∧ foot q o p
noncomputable abbrev vis (c : Ct) (s : S) (σ : St) (H : Hp) : Hp := hid (hs c s σ) H

section
variable (hox : Option Addr) (K : PySem.W.Frag) (mg : Str → Option Value)
def RepO (G H : Hp) (p : Addr) : O → Prop
  | .lst ds => ∃ xs, H p = some (.lst xs) ∧ RepL K mg G xs ds
  | .dK ds => ∃ xs, H p = some (.dK xs) ∧ RepK K mg G xs ds
  | .dT ds => ∃ xs, H p = some (.dT xs) ∧ RepT K mg G xs ds
  | .ins cn ds => ∃ C dx xs, H p = some (.ins C dx xs) ∧ mg cn = some (.ref C) ∧ RepF K mg G xs ds
  | .wlk p1 p2 n ts ns => ∃ C dx v xs ys, H p = some (.ins C dx [("size", v), ("texts", .ref p1), ("noted", .ref p2)]) ∧ mg "Walk" = some (.ref C) ∧ p ≠ p1 ∧ p ≠ p2 ∧ p1 ≠ p2 ∧ H p1 = some (.lst xs) ∧ H p2 = some (.lst ys) ∧ Rep K mg G v n ∧ RepL K mg G xs ts ∧ RepL K mg G ys ns
structure StR (c : Ct) (s : S) (σ : St) (H : Hp) : Prop where
  len : σ.length = s.length
  val : ∀ (i : Nat) d, s[i]? = some (some (.val d)) → ∃ v, σ[i]? = some (some v) ∧ Rep K mg (vis c s σ H) v d
  own : ∀ (i : Nat) o, s[i]? = some (some (.own o)) → ∃ p, σ[i]? = some (some (.ref p)) ∧ (∀ b, foot p o b → ¬ c.A b ∧ c.H0 b = none) ∧ RepO K mg (vis c s σ H) H p o
  bor : ∀ (i : Nat) o, s[i]? = some (some (.bor o)) → ∃ p, σ[i]? = some (some (.ref p)) ∧ c.B i = some p ∧ (∀ b, foot p o b → c.A b ∧ c.L b) ∧ RepO K mg (vis c s σ H) H p o
  brw : ∀ (i : Nat) p, c.B i = some p → c.A p ∧ ∃ o, s[i]? = some (some (.bor o))
  uni : ∀ (i j : Nat) oi oj p q b, s[i]? = some (some (.own oi)) → s[j]? = some (some (.own oj)) → σ[i]? = some (some (.ref p)) → σ[j]? = some (some (.ref q)) → foot p oi b → foot q oj b → i = j
  bun : ∀ (i j : Nat) oi oj p q b, s[i]? = some (some (.bor oi)) → s[j]? = some (some (.bor oj)) → c.B i = some p → c.B j = some q → foot p oi b → foot q oj b → i = j
  lnt : ∀ b, c.L b → ∃ (i : Nat) (o : O) (p : Addr), s[i]? = some (some (.bor o)) ∧ c.B i = some p ∧ foot p o b
  keep : ∀ b o, ¬ c.L b → c.H0 b = some o → H b = some o
  act : ∀ p, c.A p → ∃ o, c.H0 p = some o
  tmp : ∀ p ho, c.E p ho → c.H0 p = none ∧ ¬ c.A p ∧ H p = some ho ∧ ∀ (i : Nat) o q, s[i]? = some (some (.own o)) → σ[i]? = some (some (.ref q)) → ¬ foot q o p
  hot : ∀ a, hox = some a → ∃ oe, c.H0 a = some (ExA a oe) ∧ CtxF oe ∧ ¬ c.L a
end
section
variable {K : PySem.W.Frag} {mg : Str → Option Value} {G G' H H' : Hp} {c : Ct} {s s' s1 : S} {σ σ' σ1 : St} {p : Addr} {o : O}
theorem RepO.mono (l : Le G G') (k : ∀ b, foot p o b → ∀ u, H b = some u → H' b = some u) (h : RepO K mg G H p o) : RepO K mg G' H' p o := by
  cases o with
  | lst ds => obtain ⟨xs, e, r⟩ := h; exact ⟨xs, k _ foot_self _ e, r.mono l⟩
  | dK ds => obtain ⟨xs, e, r⟩ := h; exact ⟨xs, k _ foot_self _ e, r.mono l⟩
  | dT ds => obtain ⟨xs, e, r⟩ := h; exact ⟨xs, k _ foot_self _ e, r.mono l⟩
  | ins cn ds => obtain ⟨C, dx, xs, e, m, r⟩ := h; exact ⟨C, dx, xs, k _ foot_self _ e, m, r.mono l⟩
  | wlk p1 p2 n ts ns =>
    obtain ⟨C, dx, v, xs, ys, e, m, n1, n2, n3, e1, e2, r, r1, r2⟩ := h
    exact ⟨C, dx, v, xs, ys, k _ foot_self _ e, m, n1, n2, n3, k _ (.inr (by simp [O.sub])) _ e1, k _ (.inr (by simp [O.sub])) _ e2, r.mono l, r1.mono l, r2.mono l⟩
theorem RepO.there (h : RepO K mg G H p o) : ∃ u, H p = some u := by
  cases o with
  | lst ds => obtain ⟨xs, e, r⟩ := h; exact ⟨_, e⟩
  | dK ds => obtain ⟨xs, e, r⟩ := h; exact ⟨_, e⟩
  | dT ds => obtain ⟨xs, e, r⟩ := h; exact ⟨_, e⟩
  | ins cn ds => obtain ⟨C, dx, xs, e, m, r⟩ := h; exact ⟨_, e⟩
  | wlk p1 p2 n ts ns => obtain ⟨C, dx, v, xs, ys, e, _⟩ := h; exact ⟨_, e⟩
theorem RepO.thereF (h : RepO K mg G H p o) {b : Addr} (hb : foot p o b) : ∃ u, H b = some u := by
  rcases hb with rfl | hb
  · exact h.there
  · cases o with
    | wlk p1 p2 n ts ns =>
      obtain ⟨C, dx, v, xs, ys, e, m, n1, n2, n3, e1, e2, _⟩ := h
      simp only [O.sub, List.mem_cons, List.not_mem_nil, or_false] at hb
      rcases hb with rfl | rfl
      · exact ⟨_, e1⟩
      · exact ⟨_, e2⟩
    | _ => cases hb
/-- a hidden address is tracked -/
theorem StR.hidden (x : StR hox K mg c s σ H) (h : hs c s σ p) : ∃ o, H p = some o := by
  rcases h with h | h | ⟨i, o, q, e1, e2, hf⟩
  · by_cases hb : c.L p
    · obtain ⟨i, o, q, e, eb, hf⟩ := x.lnt p hb
      obtain ⟨q', _, hq, _, r⟩ := x.bor i o e
      rw [eb] at hq; cases hq
      exact r.thereF hf
    · obtain ⟨o, e⟩ := x.act p h
      exact ⟨o, x.keep p o hb e⟩
  · obtain ⟨ho, h⟩ := h
    exact ⟨ho, (x.tmp p ho h).2.2.1⟩
  · obtain ⟨q', e3, _, r⟩ := x.own i o e1
    rw [e2] at e3; cases e3
    exact r.thereF hf
theorem StR.newHid (x : StR hox K mg c s σ H) (h : H p = none) : ¬ hs c s σ p := fun z => by
  obtain ⟨o, e⟩ := x.hidden z
  rw [h] at e; cases e
theorem StR.newBase (x : StR hox K mg c s σ H) (h : H p = none) : c.H0 p = none := by
  cases e : c.H0 p with
  | none => rfl
  | some o =>
    by_cases hb : c.L p
    · obtain ⟨i, o', q, e', eb, hf⟩ := x.lnt p hb
      obtain ⟨q', _, hq, _, r⟩ := x.bor i o' e'
      rw [eb] at hq; cases hq
      obtain ⟨u, z⟩ := r.thereF hf
      rw [h] at z; cases z
    · have := x.keep p o hb e
      rw [h] at this; cases this
theorem vis_same (g : Same H H') : Le (vis c s σ H) (vis c s σ H') := hid_le fun b o n e => ⟨n, g b o e⟩
theorem StR.grow (x : StR hox K mg c s σ H) (g : Same H H') : StR hox K mg c s σ H' := by
  have l : Le (vis c s σ H) (vis c s σ H') := vis_same g
  refine ⟨x.len, fun i d e => ?_, fun i o e => ?_, fun i o e => ?_, x.brw, x.uni, x.bun, x.lnt, fun b o n e => g _ _ (x.keep b o n e), x.act, fun p ho e => ?_, x.hot⟩
  · obtain ⟨v, e1, r⟩ := x.val i d e
    exact ⟨v, e1, r.mono l⟩
  · obtain ⟨p, e1, n, r⟩ := x.own i o e
    exact ⟨p, e1, n, r.mono l fun _ _ u => g _ _⟩
  · obtain ⟨p, e1, b, z, r⟩ := x.bor i o e
    exact ⟨p, e1, b, z, r.mono l fun _ _ u => g _ _⟩
  · obtain ⟨h1, h2, h3, h4⟩ := x.tmp p ho e
    exact ⟨h1, h2, g _ _ h3, h4⟩

/-- from state to state -/
def Go (hox : Option Addr) (K : PySem.W.Frag) (mg : Str → Option Value) (c : Ct) (s : S) (σ : St) (H : Hp) (s' : S) (σ' : St) (H' : Hp) : Prop := StR hox K mg c s' σ' H' ∧ Le (vis c s σ H) (vis c s' σ' H')
theorem Go.refl (x : StR hox K mg c s σ H) : Go hox K mg c s σ H s σ H := ⟨x, Le.refl _⟩
theorem Go.trans {H1 : Hp} (a : Go hox K mg c s σ H s1 σ1 H1) (b : Go hox K mg c s1 σ1 H1 s' σ' H') : Go hox K mg c s σ H s' σ' H' := ⟨b.1, a.2.trans b.2⟩
theorem Go.grow (x : StR hox K mg c s σ H) (g : Same H H') : Go hox K mg c s σ H s σ H' := ⟨x.grow g, vis_same g⟩

/-- an exception's record -/
def ExcR (K : PySem.W.Frag) (mg : Str → Option Value) (G : Hp) (cls : Value) (dd : Option Addr) (x : Exc) : Prop :=
  (∃ C, cls = .ref C ∧ mg x.c = some (.ref C)) ∧ ((x.fs = [] ∧ dd = none) ∨ ∃ d xs, dd = some d ∧ G d = some (.xd xs) ∧ RepF K mg G xs x.fs)
theorem ExcR.mono {cls : Value} {dd : Option Addr} {x : Exc} (l : Le G G') (h : ExcR K mg G cls dd x) : ExcR K mg G' cls dd x := by
  obtain ⟨h1, h2 | ⟨d, xs, e, g, r⟩⟩ := h
  · exact ⟨h1, .inl h2⟩
  · exact ⟨h1, .inr ⟨d, xs, e, l.xd _ _ g, r.mono l⟩⟩
/-- frozen -/
def O.frz : O → Option D
  | .lst ds => some (.lst ds)
  | .dK ds => some (.dic ds)
  | .dT _ => none
  | .ins cn ds => some (.obj cn ds)
  | .wlk _ _ _ _ _ => none
def Sl.frz : Sl → Option D
  | .val d => some d
  | .own o => o.frz
  | .bor _ => none
theorem RepO.frz {h : Addr → Prop} {d : D} (r : RepO K mg G H p o) (n : ¬ h p) (l : Le G (hid h H)) (e : o.frz = some d) (nk : ∀ ds, o ≠ .dK ds) : Rep K mg (hid h H) (.ref p) d := by
  cases o with
  | lst ds =>
    obtain ⟨xs, e1, r⟩ := r
    cases e
    exact .lst (by rw [hid_no n]; exact e1) (r.mono l)
  | dK ds =>
    exact absurd rfl (nk ds)
  | dT ds => cases e
  | ins cn ds =>
    obtain ⟨C, dx, xs, e1, m, r⟩ := r
    cases e
    exact .obj m (by rw [hid_no n]; exact e1) (r.mono l)
  | wlk p1 p2 n ts ns => cases e
/-- the object that stood by itself is let go -/
theorem StR.unext {p : Addr} {ho : HO} (x : StR hox K mg (c.ext p ho) s σ H) : StR hox K mg c s σ H := by
  have l : Le (vis (c.ext p ho) s σ H) (vis c s σ H) := hid_le fun b o n e => ⟨fun z => n (by
    rcases z with z | ⟨u, z⟩ | z
    · exact .inl z
    · exact .inr (.inl ⟨u, .inl z⟩)
    · exact .inr (.inr z)), e⟩
  refine ⟨x.len, fun i d e => ?_, fun i o e => ?_, fun i o e => ?_, x.brw, x.uni, x.bun, x.lnt, x.keep, x.act, fun q u e => x.tmp q u (.inl e), x.hot⟩
  · obtain ⟨v, e1, r⟩ := x.val i d e
    exact ⟨v, e1, r.mono l⟩
  · obtain ⟨p, e1, n, r⟩ := x.own i o e
    exact ⟨p, e1, n, r.mono l fun _ _ _ h => h⟩
  · obtain ⟨p, e1, b, z, r⟩ := x.bor i o e
    exact ⟨p, e1, b, z, r.mono l fun _ _ _ h => h⟩
theorem vis_unext {p : Addr} {ho : HO} : Le (vis (c.ext p ho) s σ H) (vis c s σ H) := hid_le fun b o n e => ⟨fun z => n (by
    rcases z with z | ⟨u, z⟩ | z
    · exact .inl z
    · exact .inr (.inl ⟨u, .inl z⟩)
    · exact .inr (.inr z)), e⟩
/-- from state to state with a result: a datum, or a new list or dict that stands by itself -/
def GoR (hox : Option Addr) (K : PySem.W.Frag) (mg : Str → Option Value) (c : Ct) (s : S) (σ : St) (H : Hp) (s' : S) (σ' : St) (H' : Hp) (v : V) : Sl → Prop
  | .val d => Go hox K mg c s σ H s' σ' H' ∧ Rep K mg (vis c s' σ' H') v d
  | .own o => ∃ p ho, v = .ref p ∧ o.sub = [] ∧ ¬ hs c s' σ' p ∧ StR hox K mg (c.ext p ho) s' σ' H' ∧ Le (vis c s σ H) (vis (c.ext p ho) s' σ' H') ∧ RepO K mg (vis (c.ext p ho) s' σ' H') H' p o
  | .bor _ => False
theorem GoR.frz {H1 : Hp} {v : V} {r : Sl} {d : D} (x : GoR hox K mg c s σ H s' σ' H' v r) (e : r.frz = some d) (nk : ∀ ds, r ≠ .own (.dK ds)) : Go hox K mg c s σ H s' σ' H' ∧ Rep K mg (vis c s' σ' H') v d := by
  cases r with
  | val d' => cases e; exact x
  | own o =>
    obtain ⟨p, ho, rfl, _, n, st, l, r⟩ := x
    exact ⟨⟨st.unext, l.trans vis_unext⟩, r.frz n vis_unext e fun ds z => nk ds (by rw [z])⟩
  | bor o => cases e
/-- what is wanted of an outcome -/
def Res (hox : Option Addr) (K : PySem.W.Frag) (mg : Str → Option Value) (c : Ct) (s : S) (σ : St) (H : Hp) (W : WX) {α : Type} (P : α → S → Hp → Prop) : Out α → Prop
  | .ok a s' => ∀ H', Go hox K mg c s σ H s' σ H' → P a s' H'
  | .exc x s' => ∀ cls dd H', Go hox K mg c s σ H s' σ H' → ExcR K mg (vis c s' σ H') cls dd x → W cls dd σ H'
  | .bad => False
section
variable {W : WX} {α β : Type} {P P' : α → S → Hp → Prop} {P2 : β → S → Hp → Prop} {r : Out α}
theorem Res.after {H1 : Hp} (h : Res hox K mg c s σ H W P r) (g : Go hox K mg c s σ H s1 σ H1) : Res hox K mg c s1 σ H1 W P r := by
  cases r with
  | ok a s' => exact fun H' g' => h H' (g.trans g')
  | exc x s' => exact fun cls dd H' g' => h cls dd H' (g.trans g')
  | bad => exact h
theorem Res.split {k : α → S → Out β} (h : Res hox K mg c s σ H W P2 (r.bind k)) : Res hox K mg c s σ H W (fun a s1 H1 => Res hox K mg c s1 σ H1 W P2 (k a s1)) r := by
  cases r with
  | ok a s1 => exact fun H1 g => Res.after (r := k a s1) h g
  | exc x s' => exact h
  | bad => exact h
theorem Res.imp (h : Res hox K mg c s σ H W P r) (q : ∀ a s' H', Go hox K mg c s σ H s' σ H' → P a s' H' → P' a s' H') : Res hox K mg c s σ H W P' r := by
  cases r with
  | ok a s' => exact fun H' g => q a s' H' g (h H' g)
  | exc x s' => exact h
  | bad => exact h
end

/-! ### the judgements -/
abbrev MD := S → Out D
abbrev MO := S → Out Sl
abbrev MB := S → Out Bool
inductive AV where
  | val (d : D) | slot (i : Nat)
abbrev MA := S → Out (List AV)
section
variable (hox : Option Addr) (K : PySem.W.Frag) (mg : Str → Option Value) (W : WX)
def tD (m : MD) : TE := fun σ H Q => ∃ c s, StR hox K mg c s σ H ∧ Res hox K mg c s σ H W (fun d s' H' => ∀ v, Rep K mg (vis c s' σ H') v d → Q v H') (m s)
def ResO (c : Ct) (s : S) (σ : St) (H : Hp) (Q : VK) : Out Sl → Prop
  | .ok r s' => ∀ v H', GoR hox K mg c s σ H s' σ H' v r → Q v H'
  | .exc x s' => ∀ cls dd H', Go hox K mg c s σ H s' σ H' → ExcR K mg (vis c s' σ H') cls dd x → W cls dd σ H'
  | .bad => False
def tO (m : MO) : TE := fun σ H Q => ∃ c s, StR hox K mg c s σ H ∧ ResO hox K mg W c s σ H Q (m s)
def tB (m : MB) : TT := fun σ H Q => ∃ c s, StR hox K mg c s σ H ∧ Res hox K mg c s σ H W (fun b s' H' => Q b H') (m s)
inductive ArgsR (G : Hp) (s : S) (σ : St) : List V → List AV → Prop
  | nil : ArgsR G s σ [] []
  | val {v : V} {d : D} {vs : List V} {as : List AV} : Rep K mg G v d → ArgsR G s σ vs as → ArgsR G s σ (v :: vs) (.val d :: as)
  | slot {v : V} {i : Nat} {vs : List V} {as : List AV} : σ[i]? = some (some v) → ArgsR G s σ vs as → ArgsR G s σ (v :: vs) (.slot i :: as)
def tAr (m : MA) : TA := fun σ H Q => ∃ c s, StR hox K mg c s σ H ∧ Res hox K mg c s σ H W (fun as s' H' => ∀ vs, ArgsR K mg (vis c s' σ H') s' σ vs as → Q vs H') (m s)
end
abbrev SD (hox : Option Addr) (X : Cx) (W : WX) (e : Expr) (m : MD) : Prop := PE X e (tD hox X.K X.mg W m)
abbrev SO (hox : Option Addr) (X : Cx) (W : WX) (e : Expr) (m : MO) : Prop := PE X e (tO hox X.K X.mg W m)
abbrev SB (hox : Option Addr) (X : Cx) (W : WX) (e : Expr) (m : MB) : Prop := PT X e (tB hox X.K X.mg W m)
abbrev SA (hox : Option Addr) (X : Cx) (W : WX) (es : List Expr) (m : MA) : Prop := PA X es (tAr hox X.K X.mg W m)
end
theorem PE.imp {X : Cx} {e : Expr} {t t' : TE} (h : PE X e t) (i : ∀ σ H Q, t' σ H Q → t σ H Q) : PE X e t' := ⟨fun pins s σ H Q I q => h.run pins s σ H Q I (i σ H Q q)⟩
theorem PT.imp {X : Cx} {e : Expr} {t t' : TT} (h : PT X e t) (i : ∀ σ H Q, t' σ H Q → t σ H Q) : PT X e t' := ⟨fun pins s σ H Q I q => h.run pins s σ H Q I (i σ H Q q)⟩
theorem PA.imp {X : Cx} {e : List Expr} {t t' : TA} (h : PA X e t) (i : ∀ σ H Q, t' σ H Q → t σ H Q) : PA X e t' := ⟨fun pos pins s σ H Q I q => h.run pos pins s σ H Q I (i σ H Q q)⟩
theorem PS.imp {X : Cx} {e : Stmt} {t t' : TS} (h : PS X e t) (i : ∀ D σ H, t' D σ H → t D σ H) : PS X e t' := ⟨fun pins s σ H D I q => h.run pins s σ H D I (i D σ H q)⟩
theorem PSs.imp {X : Cx} {e : List Stmt} {t t' : TS} (h : PSs X e t) (i : ∀ D σ H, t' D σ H → t D σ H) : PSs X e t' := ⟨fun pins s σ H D I q => h.run pins s σ H D I (i D σ H q)⟩
theorem PI.imp {X : Cx} {tg e : Expr} {t t' : TI} (h : PI X tg e t) (i : ∀ σ H R, t' σ H R → t σ H R) : PI X tg e t' := ⟨fun pins s σ H R I q => h.run pins s σ H R I (i σ H R q)⟩
theorem PG.imp {X : Cx} {tg : Expr} {t t' : TG} (h : PG X tg t) (i : ∀ v σ H Q, t' v σ H Q → t v σ H Q) : PG X tg t' := ⟨fun pins s σ H v u Q I r q => h.run pins s σ H v u Q I r (i v σ H Q q)⟩

/-- what is read may be locked -/
theorem pe_lockv {X : Cx} {e : Expr} {t : TE} (h : PE X e t) : PE X e (fun σ H Q => t σ H fun v H1 => Q v H1 ∨ ∃ d u, v = .ref d ∧ H1 d = some u ∧ Mut (some u) ∧ ∀ od, Q v (L2.upd H1 d (.frz od u))) := by
  refine ⟨fun pins s σ H Q I hw => ?_⟩
  refine thn (h.run pins s σ _ _ I hw) fun v s1 ⟨x, H1, I1, r, q⟩ => ?_
  rcases q with q | ⟨d, u, ev, hd, mu, q⟩
  · exact ⟨x, H1, I1, r, q⟩
  · obtain ⟨od, I2⟩ := I1.lock hd mu
    exact ⟨x, _, I2, r, q od⟩
end Den

set_option Elab.async false
set_option linter.all false
set_option maxRecDepth 100000
set_option maxHeartbeats 4000000
namespace Den
variable {hox : Option Addr}
open PySem PySem.Spec PyProof.Rows L2

/-! ### slots -/
section
variable {K : PySem.W.Frag} {mg : Str → Option Value} {G G' H H' : Hp} {c : Ct} {s s' s1 : S} {σ σ' σ1 : St} {p : Addr} {o : O} {i : Nat}
theorem set_at {α : Type} {l : List α} {i j : Nat} {a : α} {x : α} (h : (l.set i a)[j]? = some x) : (i = j ∧ i < l.length ∧ a = x) ∨ (i ≠ j ∧ l[j]? = some x) := by
  by_cases e : i = j
  · subst e
    by_cases hl : i < l.length
    · rw [List.getElem?_set_self hl] at h
      exact .inl ⟨rfl, hl, Option.some.inj h⟩
    · rw [List.getElem?_eq_none (by rw [List.length_set]; omega)] at h
      cases h
  · rw [List.getElem?_set_ne e] at h
    exact .inr ⟨e, h⟩
theorem same_new {p : Addr} {ho : HO} (n : H p = none) : Same H (upd H p ho) := fun b o e => by rw [upd_ne (ne_of_none e n)]; exact e
/-- a new object that stands by itself -/
theorem StR.alloc {ho : HO} (x : StR hox K mg c s σ H) (n : H p = none) : StR hox K mg (c.ext p ho) s σ (upd H p ho) ∧ Le (vis c s σ H) (vis (c.ext p ho) s σ (upd H p ho)) ∧ ¬ hs c s σ p := by
  have nh := x.newHid n
  have l : Le (vis c s σ H) (vis (c.ext p ho) s σ (upd H p ho)) := hid_le fun b o nb e => by
    have ne : b ≠ p := ne_of_none e n
    refine ⟨fun z => ?_, by rw [upd_ne ne]; exact e⟩
    rcases z with z | z | z
    · exact nb (.inl z)
    · rcases z with ⟨u, z | z⟩
      · exact nb (.inr (.inl ⟨u, z⟩))
      · exact ne z.1
    · exact nb (.inr (.inr z))
  have g := same_new (ho := ho) n
  refine ⟨⟨x.len, fun i d e => ?_, fun i o e => ?_, fun i o e => ?_, x.brw, x.uni, x.bun, x.lnt, fun b o nb e => g _ _ (x.keep b o nb e), x.act, fun q u hq => ?_, x.hot⟩, l, nh⟩
  · obtain ⟨v, e1, r⟩ := x.val i d e
    exact ⟨v, e1, r.mono l⟩
  · obtain ⟨q, e1, m, r⟩ := x.own i o e
    exact ⟨q, e1, m, r.mono l fun _ _ u => g _ _⟩
  · obtain ⟨q, e1, b, z, r⟩ := x.bor i o e
    exact ⟨q, e1, b, z, r.mono l fun _ _ u => g _ _⟩
  · rcases hq with hq | ⟨rfl, rfl⟩
    · obtain ⟨h1, h2, h3, h4⟩ := x.tmp q u hq
      exact ⟨h1, h2, g _ _ h3, h4⟩
    · exact ⟨x.newBase n, fun z => nh (.inl z), upd_same, fun i o q e1 e2 hf => nh (.inr (.inr ⟨i, o, q, e1, e2, hf⟩))⟩
/-- what is not lent -/
def free (s : S) (i : Nat) : Bool := match s[i]? with
  | some (some (.bor _)) => false
  | some _ => true
  | none => false
theorem free_lt (h : free s i = true) : i < s.length := by
  unfold free at h
  cases e : s[i]? with
  | none => rw [e] at h; cases h
  | some x => exact (List.getElem?_eq_some_iff.mp e).1
theorem free_nb (h : free s i = true) (o : O) : s[i]? ≠ some (some (.bor o)) := fun z => by
  unfold free at h
  rw [z] at h; cases h
theorem StR.noB (x : StR hox K mg c s σ H) (h : free s i = true) (q : Addr) : c.B i ≠ some q := fun z => by
  obtain ⟨_, o, e⟩ := x.brw i q z
  exact free_nb h o e
/-- a slot takes a datum, or loses what it had -/
theorem StR.put (x : StR hox K mg c s σ H) (hf : free s i = true) (w : Option Sl) (v : Option V) (hw : ∀ d, w = some (.val d) → ∃ u, v = some u ∧ Rep K mg (vis c s σ H) u d) (hw2 : (∃ d, w = some (.val d)) ∨ w = none) :
    Go hox K mg c s σ H (s.set i w) (σ.set i v) H := by
  have sub : ∀ b, hs c (s.set i w) (σ.set i v) b → hs c s σ b := fun b h => by
    rcases h with h | h | ⟨j, o, q, e1, e2, hf2⟩
    · exact .inl h
    · exact .inr (.inl h)
    · rcases set_at e1 with ⟨_, _, z⟩ | ⟨ne, e1⟩
      · rcases hw2 with ⟨d, e⟩ | e
        · rw [e] at z; cases z
        · rw [e] at z; cases z
      · rw [List.getElem?_set_ne ne] at e2
        exact .inr (.inr ⟨j, o, q, e1, e2, hf2⟩)
  have l : Le (vis c s σ H) (vis c (s.set i w) (σ.set i v) H) := hid_le fun b o n e => ⟨fun z => n (sub b z), e⟩
  have hl := x.len
  have wno : ∀ {o : O}, w ≠ some (.own o) := fun {o} z => by
    rcases hw2 with ⟨d, e⟩ | e
    · rw [e] at z; cases z
    · rw [e] at z; cases z
  have wnb : ∀ {o : O}, w ≠ some (.bor o) := fun {o} z => by
    rcases hw2 with ⟨d, e⟩ | e
    · rw [e] at z; cases z
    · rw [e] at z; cases z
  have ow : ∀ {j : Nat} {o : O}, (s.set i w)[j]? = some (some (.own o)) → i ≠ j ∧ s[j]? = some (some (.own o)) := fun {j o} e => by
    rcases set_at e with ⟨rfl, _, z⟩ | r
    · exact absurd z wno
    · exact r
  have bw : ∀ {j : Nat} {o : O}, (s.set i w)[j]? = some (some (.bor o)) → i ≠ j ∧ s[j]? = some (some (.bor o)) := fun {j o} e => by
    rcases set_at e with ⟨rfl, _, z⟩ | r
    · exact absurd z wnb
    · exact r
  refine ⟨⟨by rw [List.length_set, List.length_set]; exact hl, fun j d e => ?_, fun j o e => ?_, fun j o e => ?_, fun j q e => ?_, fun j k oi oj p q b e1 e2 e3 e4 f1 f2 => ?_, fun j k oi oj p q b e1 e2 e3 e4 f1 f2 => ?_, fun b hb => ?_, x.keep, x.act, fun q u hq => ?_, x.hot⟩, l⟩
  · rcases set_at e with ⟨rfl, lt, z⟩ | ⟨ne, e⟩
    · obtain ⟨u, rfl, r⟩ := hw d z
      exact ⟨u, by rw [List.getElem?_set_self (by omega)], r.mono l⟩
    · obtain ⟨u, e1, r⟩ := x.val j d e
      exact ⟨u, by rw [List.getElem?_set_ne ne]; exact e1, r.mono l⟩
  · obtain ⟨ne, e⟩ := ow e
    obtain ⟨q, e1, m, r⟩ := x.own j o e
    exact ⟨q, by rw [List.getElem?_set_ne ne]; exact e1, m, r.mono l fun _ _ _ h => h⟩
  · obtain ⟨ne, e⟩ := bw e
    obtain ⟨q, e1, m, z, r⟩ := x.bor j o e
    exact ⟨q, by rw [List.getElem?_set_ne ne]; exact e1, m, z, r.mono l fun _ _ _ h => h⟩
  · obtain ⟨a, o, e'⟩ := x.brw j q e
    have ne : i ≠ j := fun z => by subst z; exact x.noB hf q e
    exact ⟨a, o, by rw [List.getElem?_set_ne ne]; exact e'⟩
  · obtain ⟨n1, e1⟩ := ow e1
    obtain ⟨n2, e2⟩ := ow e2
    rw [List.getElem?_set_ne n1] at e3
    rw [List.getElem?_set_ne n2] at e4
    exact x.uni j k oi oj p q b e1 e2 e3 e4 f1 f2
  · exact x.bun j k oi oj p q b (bw e1).2 (bw e2).2 e3 e4 f1 f2
  · obtain ⟨j, o, p, e, eb, f1⟩ := x.lnt b hb
    have ne : i ≠ j := fun z => by subst z; exact free_nb hf o e
    exact ⟨j, o, p, by rw [List.getElem?_set_ne ne]; exact e, eb, f1⟩
  · obtain ⟨h1, h2, h3, h4⟩ := x.tmp q u hq
    refine ⟨h1, h2, h3, fun j o p e1 e2 f1 => ?_⟩
    obtain ⟨ne, e1⟩ := ow e1
    rw [List.getElem?_set_ne ne] at e2
    exact h4 j o p e1 e2 f1
theorem set_same {α : Type} {l : List α} {i : Nat} {a : α} (h : l[i]? = some a) : l.set i a = l := by
  apply List.ext_getElem?
  intro j
  by_cases e : i = j
  · subst e
    rw [List.getElem?_set_self (List.getElem?_eq_some_iff.mp h).1, h]
  · rw [List.getElem?_set_ne e]
theorem O.frz_sub {o : O} {d : D} (e : o.frz = some d) : o.sub = [] := by cases o <;> first | rfl | cases e
/-- a slot's list is read as a datum: it is written no more -/
theorem StR.freeze {d : D} (x : StR hox K mg c s σ H) (h : s[i]? = some (some (.own o))) (e : o.frz = some d) (nk : ∀ ds, o ≠ .dK ds) :
    ∃ p, σ[i]? = some (some (.ref p)) ∧ Go hox K mg c s σ H (s.set i (some (.val d))) σ H ∧ Rep K mg (vis c (s.set i (some (.val d))) σ H) (.ref p) d := by
  obtain ⟨p, e1, n, r⟩ := x.own i o h
  have hi : i < s.length := (List.getElem?_eq_some_iff.mp h).1
  have np : ¬ hs c (s.set i (some (.val d))) σ p := fun q => by
    rcases q with q | q | ⟨j, o', p', e2, e3, f⟩
    · exact (n p foot_self).1 q
    · obtain ⟨u, q⟩ := q
      exact (x.tmp p u q).2.2.2 i o p h e1 foot_self
    · rcases set_at e2 with ⟨_, _, z⟩ | ⟨ne, e2⟩
      · cases z
      · exact ne (x.uni i j o o' p p' p h e2 e1 e3 foot_self f)
  have ow : ∀ {j : Nat} {o2 : O}, (s.set i (some (.val d)))[j]? = some (some (.own o2)) → s[j]? = some (some (.own o2)) := fun {j o2} e => by
    rcases set_at e with ⟨_, _, z⟩ | ⟨_, r⟩
    · cases z
    · exact r
  have bw : ∀ {j : Nat} {o2 : O}, (s.set i (some (.val d)))[j]? = some (some (.bor o2)) → s[j]? = some (some (.bor o2)) := fun {j o2} e => by
    rcases set_at e with ⟨_, _, z⟩ | ⟨_, r⟩
    · cases z
    · exact r
  have sub : ∀ b, hs c (s.set i (some (.val d))) σ b → hs c s σ b := fun b q => by
    rcases q with q | q | ⟨j, o', p', e2, e3, f⟩
    · exact .inl q
    · exact .inr (.inl q)
    · exact .inr (.inr ⟨j, o', p', ow e2, e3, f⟩)
  have l : Le (vis c s σ H) (vis c (s.set i (some (.val d))) σ H) := hid_le fun b o n e => ⟨fun z => n (sub b z), e⟩
  have rp : Rep K mg (vis c (s.set i (some (.val d))) σ H) (.ref p) d := r.frz np l e nk
  refine ⟨p, e1, ⟨⟨by rw [List.length_set]; exact x.len, fun j d' e => ?_, fun j o e => ?_, fun j o e => ?_, fun j q e => ?_, fun j k oi oj p q b e1 e2 e3 e4 f1 f2 => ?_, fun j k oi oj p q b e1 e2 e3 e4 f1 f2 => ?_, fun b hb => ?_, x.keep, x.act, fun q u hq => ?_, x.hot⟩, l⟩, rp⟩
  · rcases set_at e with ⟨rfl, lt, z⟩ | ⟨ne, e⟩
    · cases z
      exact ⟨_, e1, rp⟩
    · obtain ⟨u, e1, r⟩ := x.val j d' e
      exact ⟨u, e1, r.mono l⟩
  · obtain ⟨q, e1, m, r⟩ := x.own j o (ow e)
    exact ⟨q, e1, m, r.mono l fun _ _ _ h => h⟩
  · obtain ⟨q, e1, m, z, r⟩ := x.bor j o (bw e)
    exact ⟨q, e1, m, z, r.mono l fun _ _ _ h => h⟩
  · obtain ⟨a, o', e'⟩ := x.brw j q e
    have ne : i ≠ j := fun z => by subst z; rw [h] at e'; cases e'
    exact ⟨a, o', by rw [List.getElem?_set_ne ne]; exact e'⟩
  · exact x.uni j k oi oj p q b (ow e1) (ow e2) e3 e4 f1 f2
  · exact x.bun j k oi oj p q b (bw e1) (bw e2) e3 e4 f1 f2
  · obtain ⟨j, o2, p2, e2, eb, f1⟩ := x.lnt b hb
    have ne : i ≠ j := fun z => by subst z; rw [h] at e2; cases e2
    exact ⟨j, o2, p2, by rw [List.getElem?_set_ne ne]; exact e2, eb, f1⟩
  · obtain ⟨h1, h2, h3, h4⟩ := x.tmp q u hq
    exact ⟨h1, h2, h3, fun j o p e1 e2 f1 => h4 j o p (ow e1) e2 f1⟩
/-- a slot takes the object that stands by itself -/
theorem StR.take {ho : HO} (x : StR hox K mg (c.ext p ho) s σ H) (n : ¬ hs c s σ p) (r : RepO K mg (vis (c.ext p ho) s σ H) H p o) (hf : free s i = true) (hsub : o.sub = []) :
    StR hox K mg c (s.set i (some (.own o))) (σ.set i (some (.ref p))) H ∧ Le (vis (c.ext p ho) s σ H) (vis c (s.set i (some (.own o))) (σ.set i (some (.ref p))) H) := by
  obtain ⟨t1, t2, t3, t4⟩ := x.tmp p ho (.inr ⟨rfl, rfl⟩)
  have hl := x.len
  have hi := free_lt hf
  have ow : ∀ {j : Nat} {o2 : O} {q : Addr}, (s.set i (some (.own o)))[j]? = some (some (.own o2)) → (σ.set i (some (.ref p)))[j]? = some (some (.ref q)) → (i = j ∧ o2 = o ∧ q = p) ∨ (i ≠ j ∧ s[j]? = some (some (.own o2)) ∧ σ[j]? = some (some (.ref q))) := fun {j o2 q} e e2 => by
    rcases set_at e with ⟨rfl, _, z⟩ | ⟨ne, r⟩
    · cases z
      rw [List.getElem?_set_self (by omega)] at e2
      cases e2
      exact .inl ⟨rfl, rfl, rfl⟩
    · rw [List.getElem?_set_ne ne] at e2
      exact .inr ⟨ne, r, e2⟩
  have sub : ∀ b, hs c (s.set i (some (.own o))) (σ.set i (some (.ref p))) b → hs (c.ext p ho) s σ b := fun b q => by
    rcases q with q | ⟨u, q⟩ | ⟨j, o', p', e2, e3, f⟩
    · exact .inl q
    · exact .inr (.inl ⟨u, .inl q⟩)
    · rcases ow e2 e3 with ⟨_, rfl, rfl⟩ | ⟨_, e2, e3⟩
      · exact .inr (.inl ⟨ho, .inr ⟨foot_one hsub f, rfl⟩⟩)
      · exact .inr (.inr ⟨j, o', p', e2, e3, f⟩)
  have l : Le (vis (c.ext p ho) s σ H) (vis c (s.set i (some (.own o))) (σ.set i (some (.ref p))) H) := hid_le fun b o n e => ⟨fun z => n (sub b z), e⟩
  refine ⟨⟨by rw [List.length_set, List.length_set]; exact hl, fun j d e => ?_, fun j o' e => ?_, fun j o' e => ?_, fun j q e => ?_, fun j k oi oj p1 q1 b e1 e2 e3 e4 f1 f2 => ?_, fun j k oi oj p1 q1 b e1 e2 e3 e4 f1 f2 => ?_, fun b hb => ?_, x.keep, x.act, fun q u hq => ?_, x.hot⟩, l⟩
  · rcases set_at e with ⟨_, _, z⟩ | ⟨ne, e⟩
    · cases z
    · obtain ⟨u, e1, r⟩ := x.val j d e
      exact ⟨u, by rw [List.getElem?_set_ne ne]; exact e1, r.mono l⟩
  · rcases set_at e with ⟨rfl, _, z⟩ | ⟨ne, e⟩
    · cases z
      exact ⟨p, by rw [List.getElem?_set_self (by omega)], fun b hb => by rw [foot_one hsub hb]; exact ⟨t2, t1⟩, r.mono l fun _ _ _ h => h⟩
    · obtain ⟨q, e1, m, r⟩ := x.own j o' e
      exact ⟨q, by rw [List.getElem?_set_ne ne]; exact e1, m, r.mono l fun _ _ _ h => h⟩
  · rcases set_at e with ⟨_, _, z⟩ | ⟨ne, e⟩
    · cases z
    · obtain ⟨q, e1, m, z, r⟩ := x.bor j o' e
      exact ⟨q, by rw [List.getElem?_set_ne ne]; exact e1, m, z, r.mono l fun _ _ _ h => h⟩
  · obtain ⟨a, o', e'⟩ := x.brw j q e
    have ne : i ≠ j := fun z => by subst z; exact x.noB hf q e
    exact ⟨a, o', by rw [List.getElem?_set_ne ne]; exact e'⟩
  · rcases ow e1 e3 with ⟨rfl, rfl, rfl⟩ | ⟨_, g1, g3⟩
    · rcases ow e2 e4 with ⟨z, _, _⟩ | ⟨_, e2, e4⟩
      · exact z
      · rw [foot_one hsub f1] at f2
        exact absurd f2 (t4 k oj q1 e2 e4)
    · rcases ow e2 e4 with ⟨rfl, rfl, rfl⟩ | ⟨_, g2, g4⟩
      · rw [foot_one hsub f2] at f1
        exact absurd f1 (t4 j oi p1 g1 g3)
      · exact x.uni j k oi oj p1 q1 b g1 g2 g3 g4 f1 f2
  · have bw : ∀ {j : Nat} {o2 : O}, (s.set i (some (.own o)))[j]? = some (some (.bor o2)) → s[j]? = some (some (.bor o2)) := fun {j o2} e => by
      rcases set_at e with ⟨_, _, z⟩ | ⟨_, r⟩
      · cases z
      · exact r
    exact x.bun j k oi oj p1 q1 b (bw e1) (bw e2) e3 e4 f1 f2
  · obtain ⟨j, o2, p2, e2, eb, f1⟩ := x.lnt b hb
    have ne : i ≠ j := fun z => by subst z; exact free_nb hf o2 e2
    exact ⟨j, o2, p2, by rw [List.getElem?_set_ne ne]; exact e2, eb, f1⟩
  · obtain ⟨h1, h2, h3, h4⟩ := x.tmp q u (.inl hq)
    refine ⟨h1, h2, h3, fun j o' p' e1 e2 f => ?_⟩
    rcases ow e1 e2 with ⟨rfl, rfl, rfl⟩ | ⟨_, e1, e2⟩
    · rw [← foot_one hsub f] at n
      exact n (.inr (.inl ⟨u, hq⟩))
    · exact h4 j o' p' e1 e2 f
/-- a slot gives its object away -/
theorem StR.give (x : StR hox K mg c s σ H) (h : s[i]? = some (some (.own o))) (hsub : o.sub = []) :
    ∃ p ho, σ[i]? = some (some (.ref p)) ∧ ¬ hs c (s.set i none) σ p ∧ StR hox K mg (c.ext p ho) (s.set i none) σ H ∧ Le (vis c s σ H) (vis (c.ext p ho) (s.set i none) σ H) ∧ RepO K mg (vis (c.ext p ho) (s.set i none) σ H) H p o := by
  obtain ⟨p, e1, n, r⟩ := x.own i o h
  obtain ⟨ho, hp⟩ := r.there
  have ow : ∀ {j : Nat} {o2 : O}, (s.set i none)[j]? = some (some (.own o2)) → i ≠ j ∧ s[j]? = some (some (.own o2)) := fun {j o2} e => by
    rcases set_at e with ⟨_, _, z⟩ | r
    · cases z
    · exact r
  have bw : ∀ {j : Nat} {o2 : O}, (s.set i none)[j]? = some (some (.bor o2)) → s[j]? = some (some (.bor o2)) := fun {j o2} e => by
    rcases set_at e with ⟨_, _, z⟩ | ⟨_, r⟩
    · cases z
    · exact r
  have np : ¬ hs c (s.set i none) σ p := fun q => by
    rcases q with q | q | ⟨j, o', p', e2, e3, f⟩
    · exact (n p foot_self).1 q
    · obtain ⟨u, q⟩ := q
      exact (x.tmp p u q).2.2.2 i o p h e1 foot_self
    · exact (ow e2).1 (x.uni i j o o' p p' p h (ow e2).2 e1 e3 foot_self f)
  have sub : ∀ b, hs (c.ext p ho) (s.set i none) σ b → hs c s σ b := fun b q => by
    rcases q with q | ⟨u, q⟩ | ⟨j, o', p', e2, e3, f⟩
    · exact .inl q
    · rcases q with q | ⟨rfl, rfl⟩
      · exact .inr (.inl ⟨u, q⟩)
      · exact .inr (.inr ⟨i, o, b, h, e1, foot_self⟩)
    · exact .inr (.inr ⟨j, o', p', (ow e2).2, e3, f⟩)
  have l : Le (vis c s σ H) (vis (c.ext p ho) (s.set i none) σ H) := hid_le fun b o n e => ⟨fun z => n (sub b z), e⟩
  refine ⟨p, ho, e1, np, ⟨by rw [List.length_set]; exact x.len, fun j d' e => ?_, fun j o e => ?_, fun j o e => ?_, fun j q e => ?_, fun j k oi oj p1 q1 b e1 e2 e3 e4 f1 f2 => ?_, fun j k oi oj p1 q1 b e1 e2 e3 e4 f1 f2 => ?_, fun b hb => ?_, x.keep, x.act, fun q u hq => ?_, x.hot⟩, l, r.mono l fun _ _ _ h => h⟩
  · rcases set_at e with ⟨_, _, z⟩ | ⟨ne, e⟩
    · cases z
    · obtain ⟨u, e1, r⟩ := x.val j d' e
      exact ⟨u, e1, r.mono l⟩
  · obtain ⟨q, e1, m, r⟩ := x.own j o (ow e).2
    exact ⟨q, e1, m, r.mono l fun _ _ _ h => h⟩
  · obtain ⟨q, e1, m, z, r⟩ := x.bor j o (bw e)
    exact ⟨q, e1, m, z, r.mono l fun _ _ _ h => h⟩
  · obtain ⟨a, o', e'⟩ := x.brw j q e
    have ne : i ≠ j := fun z => by subst z; rw [h] at e'; cases e'
    exact ⟨a, o', by rw [List.getElem?_set_ne ne]; exact e'⟩
  · exact x.uni j k oi oj p1 q1 b (ow e1).2 (ow e2).2 e3 e4 f1 f2
  · exact x.bun j k oi oj p1 q1 b (bw e1) (bw e2) e3 e4 f1 f2
  · obtain ⟨j, o2, p2, e2, eb, f1⟩ := x.lnt b hb
    have ne : i ≠ j := fun z => by subst z; rw [h] at e2; cases e2
    exact ⟨j, o2, p2, by rw [List.getElem?_set_ne ne]; exact e2, eb, f1⟩
  · rcases hq with hq | ⟨rfl, rfl⟩
    · obtain ⟨h1, h2, h3, h4⟩ := x.tmp q u hq
      exact ⟨h1, h2, h3, fun j o p e1 e2 f => h4 j o p (ow e1).2 e2 f⟩
    · exact ⟨(n q foot_self).2, (n q foot_self).1, hp, fun j o' p' e2 e3 f => (ow e2).1 (x.uni i j o o' q p' q h (ow e2).2 e1 e3 foot_self f)⟩
/-- the object that stands by itself is written -/
theorem StR.writeT {ho ho' : HO} (n : ¬ hs c s σ p) (x : StR hox K mg (c.ext p ho) s σ H) : StR hox K mg (c.ext p ho') s σ (upd H p ho') ∧ Le (vis (c.ext p ho) s σ H) (vis (c.ext p ho') s σ (upd H p ho')) := by
  obtain ⟨t1, t2, t3, t4⟩ := x.tmp p ho (.inr ⟨rfl, rfl⟩)
  have l : Le (vis (c.ext p ho) s σ H) (vis (c.ext p ho') s σ (upd H p ho')) := hid_le fun b o n e => by
    refine ⟨fun z => n ?_, by rw [upd_ne (fun z => n (.inr (.inl ⟨ho, .inr ⟨z, rfl⟩⟩)))]; exact e⟩
    rcases z with z | ⟨u, z | z⟩ | z
    · exact .inl z
    · exact .inr (.inl ⟨u, .inl z⟩)
    · exact .inr (.inl ⟨ho, .inr ⟨z.1, rfl⟩⟩)
    · exact .inr (.inr z)
  refine ⟨⟨x.len, fun j d e => ?_, fun j o e => ?_, fun j o e => ?_, x.brw, x.uni, x.bun, x.lnt, fun b o n e => ?_, x.act, fun q u hq => ?_, x.hot⟩, l⟩
  · obtain ⟨v, a1, r⟩ := x.val j d e
    exact ⟨v, a1, r.mono l⟩
  · obtain ⟨q, e1, m, r⟩ := x.own j o e
    exact ⟨q, e1, m, r.mono l fun b f u h => by rw [upd_ne (fun z => by subst z; exact t4 j o q e e1 f)]; exact h⟩
  · obtain ⟨q, e1, m, z, r⟩ := x.bor j o e
    exact ⟨q, e1, m, z, r.mono l fun b f u h => by rw [upd_ne (fun y => by subst y; exact t2 (z b f).1)]; exact h⟩
  · have t1' : c.H0 p = none := t1
    have e' : c.H0 b = some o := e
    rw [upd_ne (fun z => by subst z; rw [t1'] at e'; cases e')]
    exact x.keep b o n e
  · rcases hq with hq | ⟨rfl, rfl⟩
    · obtain ⟨h1, h2, h3, h4⟩ := x.tmp q u (.inl hq)
      have nq : q ≠ p := fun z => n (.inr (.inl ⟨u, by rw [← z]; exact hq⟩))
      exact ⟨h1, h2, by rw [upd_ne nq]; exact h3, h4⟩
    · exact ⟨t1, t2, upd_same, t4⟩

/-- a dict that stands by itself is locked: a datum -/
theorem GoR.lockK {v : V} {ds : List (Key × D)} (x : GoR hox K mg c s1 σ1 H1 s σ H v (.own (.dK ds))) :
    ∃ p xs, v = .ref p ∧ H p = some (.dK xs) ∧ ∀ od, Go hox K mg c s1 σ1 H1 s σ (upd H p (.frz od (.dK xs))) ∧ Rep K mg (vis c s σ (upd H p (.frz od (.dK xs)))) v (.dic ds) := by
  obtain ⟨p, ho, rfl, _, n, st, l, xs, e, r⟩ := x
  refine ⟨p, xs, rfl, e, fun od => ?_⟩
  obtain ⟨y, l2⟩ := st.writeT (ho' := .frz od (.dK xs)) n
  have l3 := l2.trans (vis_unext (c := c) (s := s) (σ := σ))
  exact ⟨⟨y.unext, l.trans l3⟩, .dic (by rw [vis, hid_no n]; exact upd_same) (r.mono l3)⟩
/-- a slot's dict is read as a datum: it is locked -/
theorem StR.freezeK {ds : List (Key × D)} (x : StR hox K mg c s σ H) (h : s[i]? = some (some (.own (.dK ds)))) :
    ∃ p xs, σ[i]? = some (some (.ref p)) ∧ H p = some (.dK xs) ∧ ∀ od, Go hox K mg c s σ H (s.set i (some (.val (.dic ds)))) σ (upd H p (.frz od (.dK xs))) ∧
      Rep K mg (vis c (s.set i (some (.val (.dic ds)))) σ (upd H p (.frz od (.dK xs)))) (.ref p) (.dic ds) := by
  have lt : i < s.length := (List.getElem?_eq_some_iff.mp h).1
  obtain ⟨p, ho, e1, n, st, l, xs, e, r⟩ := x.give h rfl
  refine ⟨p, xs, e1, e, fun od => ?_⟩
  obtain ⟨y, l2⟩ := st.writeT (ho' := .frz od (.dK xs)) n
  have l3 := l2.trans (vis_unext (c := c) (s := s.set i none) (σ := σ))
  have rp : Rep K mg (vis c (s.set i none) σ (upd H p (.frz od (.dK xs)))) (.ref p) (.dic ds) := .dic (by rw [vis, hid_no n]; exact upd_same) (r.mono l3)
  have hf : free (s.set i none) i = true := by unfold free; rw [List.getElem?_set_self lt]
  have g := y.unext.put hf (some (.val (.dic ds))) (some (.ref p)) (fun d e => by cases e; exact ⟨_, rfl, rp⟩) (.inl ⟨_, rfl⟩)
  rw [List.set_set, set_same e1] at g
  exact ⟨⟨g.1, (l.trans l3).trans g.2⟩, rp.mono g.2⟩
/-- what a slot's list or dict holds -/
def Sl.mu : Sl → Option O
  | .own o => some o
  | .bor o => some o
  | .val _ => none
def Sl.re : Sl → O → Sl
  | .own _, o => .own o
  | .bor _, o => .bor o
  | .val d, _ => .val d
theorem StR.mutF {w : Sl} (x : StR hox K mg c s σ H) (h : s[i]? = some (some w)) (e : w.mu = some o) : ∃ p, σ[i]? = some (some (.ref p)) ∧ (∀ b, foot p o b → hs c s σ b) ∧ RepO K mg (vis c s σ H) H p o := by
  cases w with
  | val d => cases e
  | own o' =>
    cases e
    obtain ⟨p, e1, n, r⟩ := x.own i o h
    exact ⟨p, e1, fun b f => .inr (.inr ⟨i, o, p, h, e1, f⟩), r⟩
  | bor o' =>
    cases e
    obtain ⟨p, e1, b, z, r⟩ := x.bor i o h
    exact ⟨p, e1, fun b f => .inl (z b f).1, r⟩
theorem StR.mut {w : Sl} (x : StR hox K mg c s σ H) (h : s[i]? = some (some w)) (e : w.mu = some o) : ∃ p, σ[i]? = some (some (.ref p)) ∧ hs c s σ p ∧ RepO K mg (vis c s σ H) H p o := by
  obtain ⟨p, e1, f, r⟩ := x.mutF h e
  exact ⟨p, e1, f p foot_self, r⟩
/-- it is written -/
theorem StR.writeF {w : Sl} {o' : O} (x : StR hox K mg c s σ H) (h : s[i]? = some (some w)) (e : w.mu = some o) (hp : σ[i]? = some (some (.ref p))) (hm : ∀ b, ¬ foot p o b → ∀ u, H b = some u → H' b = some u) (hsub : o'.sub = o.sub)
    (r' : RepO K mg (hid (hs c s σ) H') H' p o') : Go hox K mg c s σ H (s.set i (some (w.re o'))) σ H' := by
  obtain ⟨p', hp', hh, r⟩ := x.mutF h e
  rw [hp] at hp'; cases hp'
  have hi : i < s.length := (List.getElem?_eq_some_iff.mp h).1
  have ff : ∀ {b : Addr}, foot p o' b → foot p o b := fun {b} f => by
    unfold foot at f ⊢
    rw [hsub] at f; exact f
  have ow : ∀ {j : Nat} {o2 : O}, (s.set i (some (w.re o')))[j]? = some (some (.own o2)) → (i = j ∧ w = .own o ∧ o2 = o') ∨ (i ≠ j ∧ s[j]? = some (some (.own o2))) := fun {j o2} e1 => by
    rcases set_at e1 with ⟨rfl, _, z⟩ | r
    · cases w with
      | val d => cases e
      | own ow => cases e; cases z; exact .inl ⟨rfl, rfl, rfl⟩
      | bor ow => cases z
    · exact .inr r
  have bw : ∀ {j : Nat} {o2 : O}, (s.set i (some (w.re o')))[j]? = some (some (.bor o2)) → (i = j ∧ w = .bor o ∧ o2 = o') ∨ (i ≠ j ∧ s[j]? = some (some (.bor o2))) := fun {j o2} e1 => by
    rcases set_at e1 with ⟨rfl, _, z⟩ | r
    · cases w with
      | val d => cases e
      | own ow => cases z
      | bor ow => cases e; cases z; exact .inl ⟨rfl, rfl, rfl⟩
    · exact .inr r
  have sub : ∀ b, hs c (s.set i (some (w.re o'))) σ b → hs c s σ b := fun b q => by
    rcases q with q | q | ⟨j, o2, p2, e2, e3, f⟩
    · exact .inl q
    · exact .inr (.inl q)
    · rcases ow e2 with ⟨rfl, _, rfl⟩ | ⟨_, e2⟩
      · rw [hp] at e3; cases e3
        exact hh b (ff f)
      · exact .inr (.inr ⟨j, o2, p2, e2, e3, f⟩)
  have l : Le (vis c s σ H) (vis c (s.set i (some (w.re o'))) σ H') := hid_le fun b u n e => ⟨fun z => n (sub b z), hm b (fun z => n (hh b z)) u e⟩
  have r2 : RepO K mg (vis c (s.set i (some (w.re o'))) σ H') H' p o' := r'.mono (hid_le fun b u n e => ⟨fun z => n (sub b z), e⟩) fun _ _ _ h => h
  have oth : ∀ {j : Nat} {q b : Addr} {o2 : O}, i ≠ j → s[j]? = some (some (.own o2)) → σ[j]? = some (some (.ref q)) → foot q o2 b → ¬ foot p o b := fun {j q b o2} ne e1 e2 f z => by
    cases w with
    | val d => cases e
    | own ow => cases e; exact ne (x.uni i j o o2 p q b h e1 hp e2 z f)
    | bor ow =>
      cases e
      obtain ⟨p1, z1, b1, b2, _⟩ := x.bor i o h
      rw [hp] at z1; cases z1
      obtain ⟨p2, z2, n2, _⟩ := x.own j o2 e1
      rw [e2] at z2; cases z2
      exact (n2 b f).1 (b2 b z).1
  have othB : ∀ {j : Nat} {q b : Addr} {o2 : O}, i ≠ j → s[j]? = some (some (.bor o2)) → c.B j = some q → foot q o2 b → ¬ foot p o b := fun {j q b o2} ne e1 e2 f z => by
    cases w with
    | val d => cases e
    | own ow =>
      cases e
      obtain ⟨p2, z2, n2, _⟩ := x.own i o h
      rw [hp] at z2; cases z2
      obtain ⟨p1, z1, b1, b2, _⟩ := x.bor j o2 e1
      rw [e2] at b1; cases b1
      exact (n2 b z).1 (b2 b f).1
    | bor ow =>
      cases e
      obtain ⟨p1, z1, b1, _⟩ := x.bor i o h
      rw [hp] at z1; cases z1
      exact ne (x.bun i j o o2 p q b h e1 b1 e2 z f)
  refine ⟨⟨by rw [List.length_set]; exact x.len, fun j d e1 => ?_, fun j o2 e1 => ?_, fun j o2 e1 => ?_, fun j q e1 => ?_, fun j k oi oj p1 q1 b e1 e2 e3 e4 f1 f2 => ?_, fun j k oi oj p1 q1 b e1 e2 e3 e4 f1 f2 => ?_, fun b hb => ?_, fun b u nb eb => ?_, x.act, fun q u hq => ?_, x.hot⟩, l⟩
  · rcases set_at e1 with ⟨_, _, z⟩ | ⟨ne, e1⟩
    · cases w with
      | val d => cases e
      | own ow => cases z
      | bor ow => cases z
    · obtain ⟨u, e2, r⟩ := x.val j d e1
      exact ⟨u, e2, r.mono l⟩
  · rcases ow e1 with ⟨rfl, rfl, rfl⟩ | ⟨ne, e1⟩
    · obtain ⟨p1, z1, n1, _⟩ := x.own i o h
      rw [hp] at z1; cases z1
      exact ⟨p, hp, fun b f => n1 b (ff f), r2⟩
    · obtain ⟨q, e2, m, r⟩ := x.own j o2 e1
      exact ⟨q, e2, m, r.mono l fun b f u => hm b (oth ne e1 e2 f) u⟩
  · rcases bw e1 with ⟨rfl, rfl, rfl⟩ | ⟨ne, e1⟩
    · obtain ⟨p1, z1, b1, b2, _⟩ := x.bor i o h
      rw [hp] at z1; cases z1
      exact ⟨p, hp, b1, fun b f => b2 b (ff f), r2⟩
    · obtain ⟨q, e2, b1, b2, r⟩ := x.bor j o2 e1
      exact ⟨q, e2, b1, b2, r.mono l fun b f u => hm b (othB ne e1 b1 f) u⟩
  · obtain ⟨a, o2, e'⟩ := x.brw j q e1
    by_cases ne : i = j
    · subst ne
      rw [h] at e'; cases e'
      exact ⟨a, o', by rw [List.getElem?_set_self hi]; rfl⟩
    · exact ⟨a, o2, by rw [List.getElem?_set_ne ne]; exact e'⟩
  · rcases ow e1 with ⟨rfl, rfl, rfl⟩ | ⟨n1, g1⟩
    · rw [hp] at e3; cases e3
      rcases ow e2 with ⟨z, _, _⟩ | ⟨n2, g2⟩
      · exact z
      · exact absurd (ff f1) (oth n2 g2 e4 f2)
    · rcases ow e2 with ⟨rfl, rfl, rfl⟩ | ⟨n2, g2⟩
      · rw [hp] at e4; cases e4
        exact absurd (ff f2) (oth n1 g1 e3 f1)
      · exact x.uni j k oi oj p1 q1 b g1 g2 e3 e4 f1 f2
  · rcases bw e1 with ⟨rfl, rfl, rfl⟩ | ⟨n1, g1⟩
    · obtain ⟨p2, z1, b1, _⟩ := x.bor i o h
      rw [hp] at z1; cases z1
      rw [e3] at b1; cases b1
      rcases bw e2 with ⟨z, _, _⟩ | ⟨n2, g2⟩
      · exact z
      · exact absurd (ff f1) (othB n2 g2 e4 f2)
    · rcases bw e2 with ⟨rfl, rfl, rfl⟩ | ⟨n2, g2⟩
      · obtain ⟨p2, z1, b1, _⟩ := x.bor i o h
        rw [hp] at z1; cases z1
        rw [e4] at b1; cases b1
        exact absurd (ff f2) (othB n1 g1 e3 f1)
      · exact x.bun j k oi oj p1 q1 b g1 g2 e3 e4 f1 f2
  · obtain ⟨j, o2, p2, e2, eb, f1⟩ := x.lnt b hb
    by_cases ne : i = j
    · subst ne
      rw [h] at e2
      cases e2
      cases e
      exact ⟨i, o', p2, by rw [List.getElem?_set_self hi]; rfl, eb, by unfold foot at f1 ⊢; rw [hsub]; exact f1⟩
    · exact ⟨j, o2, p2, by rw [List.getElem?_set_ne ne]; exact e2, eb, f1⟩
  · have ne : ¬ foot p o b := fun z => by
      cases w with
      | val d => cases e
      | own ow =>
        cases e
        obtain ⟨p1, z1, n1, _⟩ := x.own i o h
        rw [hp] at z1; cases z1
        rw [(n1 b z).2] at eb; cases eb
      | bor ow =>
        cases e
        obtain ⟨p1, z1, b1, b2, _⟩ := x.bor i o h
        rw [hp] at z1; cases z1
        exact nb (b2 b z).2
    exact hm b ne u (x.keep b u nb eb)
  · obtain ⟨h1, h2, h3, h4⟩ := x.tmp q u hq
    have nq : ¬ foot p o q := fun z => by
      cases w with
      | val d => cases e
      | own ow => cases e; exact h4 i o p h hp z
      | bor ow =>
        cases e
        obtain ⟨p1, z1, b1, b2, _⟩ := x.bor i o h
        rw [hp] at z1; cases z1
        exact h2 (b2 q z).1
    refine ⟨h1, h2, hm q nq u h3, fun j o2 p2 e1 e2 f => ?_⟩
    rcases ow e1 with ⟨rfl, rfl, rfl⟩ | ⟨_, e1⟩
    · rw [hp] at e2; cases e2
      exact h4 i o p h hp (ff f)
    · exact h4 j o2 p2 e1 e2 f
theorem StR.write {w : Sl} {o' : O} (x : StR hox K mg c s σ H) (h : s[i]? = some (some w)) (e : w.mu = some o) (hp : σ[i]? = some (some (.ref p))) (hm : ∀ b u, b ≠ p → H b = some u → H' b = some u)
    (r' : RepO K mg (hid (hs c s σ) H') H' p o') (h1 : o.sub = [] := by rfl) (h2 : o'.sub = [] := by rfl) : Go hox K mg c s σ H (s.set i (some (w.re o'))) σ H' :=
  x.writeF h e hp (fun b n u => hm b u fun z => n (.inl z)) (h2.trans h1.symm) r'
end
end Den

set_option Elab.async false
set_option linter.all false
set_option maxRecDepth 100000
set_option maxHeartbeats 4000000
namespace Den
variable {hox : Option Addr}
open PySem PySem.Spec PyProof.Rows L2

/-! ### expressions -/
def mK (d : D) : MD := fun s => .ok d s
def mVar (i : Nat) : MD := fun s => match s[i]? with
  | some (some (.val d)) => .ok d s
  | some (some (.own o)) => match o.frz with
    | some d => .ok d (s.set i (some (.val d)))
    | none => .bad
  | _ => .bad
def o2 {α : Type} (x : Option α) (s : S) : Out α := match x with
  | some a => .ok a s
  | none => .bad
def mBin (g : D → D → Option D) (a b : MD) : MD := fun s => (a s).bind fun x s1 => (b s1).bind fun y s2 => o2 (g x y) s2
def mUn (g : D → Option D) (a : MD) : MD := fun s => (a s).bind fun x s1 => o2 (g x) s1
def mVal (m : MD) : MO := fun s => (m s).bind fun d s1 => .ok (.val d) s1
def mFrz (m : MO) : MD := fun s => (m s).bind fun r s1 => o2 r.frz s1
def mTest (m : MD) : MB := fun s => (m s).bind fun d s1 => match d with
  | .bl b => .ok b s1
  | _ => .bad
def mIf {α : Type} (t : MB) (a b : S → Out α) : S → Out α := fun s => (t s).bind fun c s1 => if c = true then a s1 else b s1
def bAnd (a b : MB) : MB := fun s => (a s).bind fun c s1 => if c = true then b s1 else .ok false s1
def bOr (a b : MB) : MB := fun s => (a s).bind fun c s1 => if c = true then .ok true s1 else b s1
def bNot (a : MB) : MB := fun s => (a s).bind fun c s1 => .ok (!c) s1
def mAnd (a b : MD) : MD := fun s => (a s).bind fun x s1 => match x with
  | .bl true => b s1
  | .bl false => .ok (.bl false) s1
  | _ => .bad
def mOr (a b : MD) : MD := fun s => (a s).bind fun x s1 => match x with
  | .bl true => .ok (.bl true) s1
  | .bl false => b s1
  | _ => .bad
def mNot (a : MD) : MD := fun s => (a s).bind fun x s1 => match x with
  | .bl c => .ok (.bl (!c)) s1
  | _ => .bad
abbrev ML := S → Out (List D)
def lNil : ML := fun s => .ok [] s
def lCons (m : MD) (r : ML) : ML := fun s => (m s).bind fun d s1 => (r s1).bind fun ds s2 => .ok (d :: ds) s2
/-- what D's are spliced by a star -/
def D.items : D → Option (List D)
  | .tup ds => some ds
  | .ktup ds => some ds
  | .lst ds => some ds
  | .scr ns => some (ns.map .int)
  | _ => none
def lStar (m : MD) (r : ML) : ML := fun s => (m s).bind fun d s1 => match d.items with
  | some ds => (r s1).bind fun es s2 => .ok (ds ++ es) s2
  | none => .bad
def fits (n : Nat) : Bool := decide (n ≤ sizeLine)
def mTup (l : ML) : MD := fun s => (l s).bind fun ds s1 => if fits ds.length = true then .ok (.tup ds) s1 else .bad
def mLst (l : ML) : MO := fun s => (l s).bind fun ds s1 => if fits ds.length = true then .ok (.own (.lst ds)) s1 else .bad
def mApp (g : List D → Option D) (l : ML) : MD := fun s => (l s).bind fun ds s1 => o2 (g ds) s1
def mAppL (g : List D → Option (List D)) (l : ML) : MO := fun s => (l s).bind fun ds s1 => match g ds with
  | some xs => .ok (.own (.lst xs)) s1
  | none => .bad
section
variable (hox : Option Addr) (K : PySem.W.Frag) (mg : Str → Option Value) (W : WX)
def tL (m : ML) : TA := fun σ H Q => ∃ c s, StR hox K mg c s σ H ∧ Res hox K mg c s σ H W (fun ds s' H' => ∀ vs, RepL K mg (vis c s' σ H') vs ds → Q vs H') (m s)
/-- a rule on values serves a function on data -/
def R2S (r : R2) (g : D → D → Option D) : Prop := ∀ (h : Addr → Prop) (H : Hp) (x y : V) (dx dy dz : D) (Q : VK), (∀ p, h p → ∃ o, H p = some o) → Rep K mg (hid h H) x dx → Rep K mg (hid h H) y dy → g dx dy = some dz →
  (∀ z H', Same H H' → Rep K mg (hid h H') z dz → Q z H') → r x y H Q
def R1S (r : V → Hp → VK → Prop) (g : D → Option D) : Prop := ∀ (h : Addr → Prop) (H : Hp) (x : V) (dx dz : D) (Q : VK), (∀ p, h p → ∃ o, H p = some o) → Rep K mg (hid h H) x dx → g dx = some dz →
  (∀ z H', Same H H' → Rep K mg (hid h H') z dz → Q z H') → r x H Q
def RCS (r : List V → Hp → VK → Prop) (g : List D → Option D) : Prop := ∀ (h : Addr → Prop) (H : Hp) (xs : List V) (ds : List D) (dz : D) (Q : VK), (∀ p, h p → ∃ o, H p = some o) → RepL K mg (hid h H) xs ds → g ds = some dz →
  (∀ z H', Same H H' → Rep K mg (hid h H') z dz → Q z H') → r xs H Q
def RLS (r : List V → Hp → VK → Prop) (g : List D → Option (List D)) : Prop := ∀ (h : Addr → Prop) (H : Hp) (xs : List V) (ds zs : List D) (Q : VK), (∀ p, h p → ∃ o, H p = some o) → RepL K mg (hid h H) xs ds → g ds = some zs →
  (∀ p ws, H p = none → RepL K mg (hid h H) ws zs → Q (.ref p) (upd H p (.lst ws))) → r xs H Q
end
abbrev SL (hox : Option Addr) (X : Cx) (W : WX) (es : List Expr) (m : ML) : Prop := PA X es (tL hox X.K X.mg W m)

section
variable {X : Cx} {W : WX} {a b e : Expr} {es rest : List Expr} {ma mb m : MD} {mo : MO} {ml : ML} {ta tb : MB} {pos p : Pos} {x : Str}
theorem sd_int {i : Int} {j : Nat} : SD hox X W (.Constant (.int i) j pos) (mK (.int i)) := PE.imp pe_int fun σ H Q ⟨c, s, st, q⟩ => q H (.refl st) _ (.int i)
theorem sd_bl {i : Bool} {j : Nat} : SD hox X W (.Constant (.bool i) j pos) (mK (.bl i)) := PE.imp pe_bl fun σ H Q ⟨c, s, st, q⟩ => q H (.refl st) _ (.bl i)
theorem sd_non {j : Nat} : SD hox X W (.Constant .none j pos) (mK .non) := PE.imp pe_non fun σ H Q ⟨c, s, st, q⟩ => q H (.refl st) _ .non
theorem sd_str {i : Str} {j : Nat} : SD hox X W (.Constant (.str i) j pos) (mK (.str i)) := PE.imp pe_str fun σ H Q ⟨c, s, st, q⟩ => q H (.refl st) _ (.str i)
theorem sd_var (i : Nat) (hN : X.N[i]? = some x := by rfl) (hv : Vis X.env.scope x := by first | exact Or.inl rfl | exact Or.inr (Or.inl rfl) | exact Or.inr (Or.inr rfl)) (hd : (x == ("__debug__" : Str)) = false := by decide)
    (hcd : (x == ("__classdict__" : Str)) = false := by decide) : SD hox X W (.Name x pos) (mVar i) := PE.imp (pe_lockv (pe_var hN hv hd hcd)) fun σ H Q ⟨c, s, st, q⟩ => by
  unfold mVar at q
  cases e : s[i]? with
  | none => rw [e] at q; exact q.elim
  | some w =>
    cases w with
    | none => rw [e] at q; exact q.elim
    | some w =>
      cases w with
      | val d =>
        rw [e] at q
        obtain ⟨v, e1, r⟩ := st.val i d e
        exact ⟨v, e1, .inl (q H (.refl st) v r)⟩
      | own o =>
        rw [e] at q
        by_cases nk : ∃ ds, o = .dK ds
        · obtain ⟨ds, rfl⟩ := nk
          obtain ⟨p, xs, e1, e2, g⟩ := st.freezeK e
          exact ⟨_, e1, .inr ⟨p, _, rfl, e2, trivial, fun od => q _ (g od).1 _ (g od).2⟩⟩
        cases z : o.frz with
        | none => simp only [z] at q; exact q.elim
        | some d =>
          simp only [z] at q
          obtain ⟨p, e1, g, r⟩ := st.freeze e z fun ds h => nk ⟨ds, h⟩
          exact ⟨_, e1, .inl (q H g _ r)⟩
      | bor o => rw [e] at q; exact q.elim
/-- a constant of the module: an int, a text .. -/
theorem sd_glob {u : Value} {v : V} {d : D} (hg : Gl X x) (hm : X.mg x = some u) (r : RelV v u) (hr : ∀ G, Rep X.K X.mg G v d) (hd : (x == ("__debug__" : Str)) = false := by decide) : SD hox X W (.Name x pos) (mK d) :=
  PE.imp (pe_glob hg hm r hd) fun σ H Q ⟨c, s, st, q⟩ => q H (.refl st) _ (hr _)
theorem st_hid {c : Ct} {s : S} {σ : St} {H : Hp} (st : StR hox X.K X.mg c s σ H) : ∀ p, hs c s σ p → ∃ o, H p = some o := fun _ h => st.hidden h
theorem sd_bin {op : Operator} {r : R2} {g : D → D → Option D} (hg : R2S X.K X.mg r g) (ho : OpR X (binaryOp op) r) (ha : SD hox X W a ma) (hb : SD hox X W b mb) : SD hox X W (.BinOp a op b pos) (mBin g ma mb) :=
  PE.imp (pe_op ho ha hb) fun σ H Q ⟨c, s, st, q⟩ => ⟨c, s, st, q.split.imp fun dx s1 H1 g1 q1 vx rx => ⟨c, s1, g1.1, q1.split.imp fun dy s2 H2 g2 q2 vy ry => by
    cases e : g dx dy with
    | none => unfold o2 at q2; simp only [e] at q2; exact q2.elim
    | some dz =>
      unfold o2 at q2; simp only [e] at q2
      exact hg _ H2 _ _ dx dy dz Q (st_hid g2.1) (rx.mono g2.2) ry e fun z H' sm rz => q2 H' (.grow g2.1 sm) z rz⟩⟩
theorem sd_cmp {op : CmpOp} {r : R2} {g : D → D → Option D} (hg : R2S X.K X.mg r g) (ho : OpR X (compareOp op) r) (hm : behindInMarks op b = false) (ha : SD hox X W a ma) (hb : SD hox X W b mb) : SD hox X W (.Compare a [op] [b] pos) (mBin g ma mb) :=
  PE.imp (pe_cmpR ho ha hb hm) fun σ H Q ⟨c, s, st, q⟩ => ⟨c, s, st, q.split.imp fun dx s1 H1 g1 q1 vx rx => ⟨c, s1, g1.1, q1.split.imp fun dy s2 H2 g2 q2 vy ry => by
    cases e : g dx dy with
    | none => unfold o2 at q2; simp only [e] at q2; exact q2.elim
    | some dz =>
      unfold o2 at q2; simp only [e] at q2
      exact hg _ H2 _ _ dx dy dz Q (st_hid g2.1) (rx.mono g2.2) ry e fun z H' sm rz => q2 H' (.grow g2.1 sm) z rz⟩⟩
theorem sd_ix {r : R2} {g : D → D → Option D} (hg : R2S X.K X.mg r g) (ho : IxR X r) (ha : SD hox X W a ma) (hb : SD hox X W b mb) (hs : PlainIx b := by exact fun _ _ => rfl) : SD hox X W (.Subscript a b pos) (mBin g ma mb) :=
  PE.imp (pe_ix ho ha hb hs) fun σ H Q ⟨c, s, st, q⟩ => ⟨c, s, st, q.split.imp fun dx s1 H1 g1 q1 vx rx => ⟨c, s1, g1.1, q1.split.imp fun dy s2 H2 g2 q2 vy ry => by
    cases e : g dx dy with
    | none => unfold o2 at q2; simp only [e] at q2; exact q2.elim
    | some dz =>
      unfold o2 at q2; simp only [e] at q2
      exact hg _ H2 _ _ dx dy dz Q (st_hid g2.1) (rx.mono g2.2) ry e fun z H' sm rz => q2 H' (.grow g2.1 sm) z rz⟩⟩
theorem sd_un {op : UnaryOp} {r : V → Hp → VK → Prop} {g : D → Option D} (hg : R1S X.K X.mg r g) (ho : UnR X (unaryOp op) r) (ha : SD hox X W a ma) : SD hox X W (.UnaryOp op a pos) (mUn g ma) :=
  PE.imp (pe_un ho ha) fun σ H Q ⟨c, s, st, q⟩ => ⟨c, s, st, q.split.imp fun dx s1 H1 g1 q1 vx rx => by
    cases e : g dx with
    | none => unfold o2 at q1; simp only [e] at q1; exact q1.elim
    | some dz =>
      unfold o2 at q1; simp only [e] at q1
      exact hg _ H1 _ dx dz Q (st_hid g1.1) rx e fun z H' sm rz => q1 H' (.grow g1.1 sm) z rz⟩
/-- a datum is a result -/
theorem so_val (h : SD hox X W e m) : SO hox X W e (mVal m) := PE.imp h fun σ H Q ⟨c, s, st, q⟩ => ⟨c, s, st, by
  unfold mVal at q
  cases e1 : m s with
  | ok d s1 => rw [e1] at q; exact fun H' g v r => q v H' ⟨g, r⟩
  | exc y s1 => rw [e1] at q; exact q
  | bad => rw [e1] at q; exact q⟩
theorem sd_frz (h : SO hox X W e mo) : SD hox X W e (mFrz mo) := PE.imp (pe_lockv h) fun σ H Q ⟨c, s, st, q⟩ => ⟨c, s, st, by
  unfold mFrz at q
  cases e1 : mo s with
  | ok r s1 =>
    rw [e1] at q
    intro v H' g
    cases e2 : r.frz with
    | none => unfold Out.bind o2 at q; simp only [e2] at q; exact q.elim
    | some d =>
      unfold Out.bind o2 at q; simp only [e2] at q
      by_cases nk : ∃ ds, r = .own (.dK ds)
      · obtain ⟨ds, rfl⟩ := nk
        cases e2
        obtain ⟨p, xs, ev, e3, gg⟩ := g.lockK
        exact .inr ⟨p, _, ev, e3, trivial, fun od => q _ (gg od).1 _ (gg od).2⟩
      · obtain ⟨g1, r1⟩ := g.frz (H1 := H') e2 fun ds h => nk ⟨ds, h⟩
        exact .inl (q H' g1 v r1)
  | exc y s1 => rw [e1] at q; exact q
  | bad => rw [e1] at q; exact q⟩
/-! tests -/
theorem sb_val (h : SD hox X W e m) (he : ∀ whole, isTrue e X.env whole = (do let v ← whole; standAt e.pos; holding [v] (truthy v)) := by intro _; rfl) : SB hox X W e (mTest m) :=
  PT.imp (pt_val h he) fun σ H Q ⟨c, s, st, q⟩ => ⟨c, s, st, q.split.imp fun d s1 H1 g1 q1 v r => by
    cases r with
    | bl b => exact ⟨b, rfl, q1 H1 (.refl g1.1)⟩
    | _ => exact q1.elim⟩
theorem sb_cmp {op : CmpOp} {r : R2} {g : D → D → Option D} (hg : R2S X.K X.mg r g) (ho : OpR X (compareOp op) r) (hm : behindInMarks op b = false) (ha : SD hox X W a ma) (hb : SD hox X W b mb) : SB hox X W (.Compare a [op] [b] pos) (mTest (mBin g ma mb)) :=
  PT.imp (pt_cmpR ho ha hb hm) fun σ H Q ⟨c, s, st, q⟩ => ⟨c, s, st, by
    have q : Res hox X.K X.mg c s σ H W (fun b s' H' => Q b H') ((ma s).bind fun x s1 => ((mb s1).bind fun y s2 => o2 (g x y) s2).bind fun d s1 => match d with | .bl b => .ok b s1 | _ => .bad) := by
      have : mTest (mBin g ma mb) s = ((ma s).bind fun x s1 => ((mb s1).bind fun y s2 => o2 (g x y) s2).bind fun d s1 => match d with | .bl b => .ok b s1 | _ => .bad) := by
        unfold mTest mBin
        cases ma s <;> rfl
      rw [this] at q; exact q
    refine q.split.imp fun dx s1 H1 g1 q1 vx rx => ⟨c, s1, g1.1, ?_⟩
    have q1 : Res hox X.K X.mg c s1 σ H1 W (fun b s' H' => Q b H') ((mb s1).bind fun y s2 => (o2 (g dx y) s2).bind fun d s1 => match d with | .bl b => .ok b s1 | _ => .bad) := by
      cases e : mb s1 <;> (rw [e] at q1; exact q1)
    refine q1.split.imp fun dy s2 H2 g2 q2 vy ry => ?_
    cases e : g dx dy with
    | none => unfold o2 at q2; simp only [e] at q2; exact q2.elim
    | some dz =>
      unfold o2 at q2; simp only [e] at q2
      refine hg _ H2 _ _ dx dy dz _ (st_hid g2.1) (rx.mono g2.2) ry e fun z H' sm rz => ?_
      cases rz with
      | bl b => exact ⟨b, rfl, q2 H' (.grow g2.1 sm)⟩
      | _ => exact q2.elim⟩
theorem sb_not (h : SB hox X W a ta) : SB hox X W (.UnaryOp .Not a pos) (bNot ta) := PT.imp (pt_not h) fun σ H Q ⟨c, s, st, q⟩ => ⟨c, s, st, q.split.imp fun b s1 H1 g1 q1 => q1 H1 (.refl g1.1)⟩
abbrev SW (hox : Option Addr) (X : Cx) (W : WX) (e : Expr) (m : MB) : Prop := PW X e (tB hox X.K X.mg W m)
theorem PW.imp {e : Expr} {t t' : TT} (h : PW X e t) (i : ∀ σ H Q, t' σ H Q → t σ H Q) : PW X e t' := ⟨fun wh pins s σ H Q I q => h.run wh pins s σ H Q I (i σ H Q q)⟩
theorem sw_and1 (h : SB hox X W a ta) : SW hox X W (.BoolOp .And [a] pos) ta := pw_and1 h
theorem sw_or1 (h : SB hox X W a ta) : SW hox X W (.BoolOp .Or [a] pos) ta := pw_or1 h
theorem sw_and (ha : SB hox X W a ta) (hb : SW hox X W (.BoolOp .And (b :: rest) pos) tb) : SW hox X W (.BoolOp .And (a :: b :: rest) pos) (bAnd ta tb) :=
  PW.imp (pw_and ha hb) fun σ H Q ⟨c, s, st, q⟩ => ⟨c, s, st, q.split.imp fun b s1 H1 g1 q1 => by
    cases b with
    | true => rw [if_pos rfl] at q1 ⊢; exact ⟨c, s1, g1.1, q1⟩
    | false => rw [if_neg Bool.false_ne_true] at q1 ⊢; exact q1 H1 (.refl g1.1)⟩
theorem sw_or (ha : SB hox X W a ta) (hb : SW hox X W (.BoolOp .Or (b :: rest) pos) tb) : SW hox X W (.BoolOp .Or (a :: b :: rest) pos) (bOr ta tb) :=
  PW.imp (pw_or ha hb) fun σ H Q ⟨c, s, st, q⟩ => ⟨c, s, st, q.split.imp fun b s1 H1 g1 q1 => by
    cases b with
    | true => rw [if_pos rfl] at q1 ⊢; exact q1 H1 (.refl g1.1)
    | false => rw [if_neg Bool.false_ne_true] at q1 ⊢; exact ⟨c, s1, g1.1, q1⟩⟩
theorem sb_w (h : SW hox X W e ta) : SB hox X W e ta := PW.pt h
/-! bools as values -/
theorem sd_one {op : BoolOp} (h : SD hox X W a ma) : SD hox X W (.BoolOp op [a] pos) ma := pe_one h
theorem sd_and (ha : SD hox X W a ma) (hb : SD hox X W (.BoolOp .And (b :: rest) pos) mb) : SD hox X W (.BoolOp .And (a :: b :: rest) pos) (mAnd ma mb) :=
  PE.imp (pe_and ha hb) fun σ H Q ⟨c, s, st, q⟩ => ⟨c, s, st, q.split.imp fun d s1 H1 g1 q1 v r => by
    cases r with
    | bl b =>
      cases b with
      | true => exact ⟨true, rfl, by rw [if_pos rfl]; exact ⟨c, s1, g1.1, q1⟩⟩
      | false => exact ⟨false, rfl, by rw [if_neg Bool.false_ne_true]; exact q1 H1 (.refl g1.1) _ (.bl false)⟩
    | _ => exact q1.elim⟩
theorem sd_not (ha : SD hox X W a ma) : SD hox X W (.UnaryOp .Not a pos) (mNot ma) :=
  PE.imp (pe_not ha) fun σ H Q ⟨c, s, st, q⟩ => ⟨c, s, st, q.split.imp fun d s1 H1 g1 q1 v r => by
    cases r with
    | bl b => exact ⟨b, rfl, q1 H1 (.refl g1.1) _ (.bl (!b))⟩
    | _ => exact q1.elim⟩
theorem sd_if {t : Expr} (ht : SB hox X W t ta) (ha : SD hox X W a ma) (hb : SD hox X W b mb) : SD hox X W (.IfExp t a b pos) (mIf ta ma mb) :=
  PE.imp (pe_ifExp ht ha hb) fun σ H Q ⟨c, s, st, q⟩ => ⟨c, s, st, q.split.imp fun b s1 H1 g1 q1 => by
    cases b with
    | true => rw [if_pos rfl] at q1 ⊢; exact ⟨c, s1, g1.1, q1⟩
    | false => rw [if_neg Bool.false_ne_true] at q1 ⊢; exact ⟨c, s1, g1.1, q1⟩⟩
/-- as pe_chain: a op b op' c, b asked once -/
def mChain (g g' : D → D → Option D) (a b c : MD) : MD := fun s => (a s).bind fun x s1 => (b s1).bind fun y s2 => match g x y with
  | some (.bl true) => (c s2).bind fun z s3 => o2 (g' y z) s3
  | some (.bl false) => .ok (.bl false) s2
  | _ => .bad
theorem sd_chain {cc : Expr} {mc : MD} {op op' : CmpOp} {r r' : R2} {g g' : D → D → Option D} (hg : R2S X.K X.mg r g) (hg' : R2S X.K X.mg r' g') (ho : OpR X (compareOp op) r) (ho' : OpR X (compareOp op') r')
    (ha : SD hox X W a ma) (hb : SD hox X W b mb) (hc : SD hox X W cc mc) (hm : lastMarks [op, op'] [b, cc] = false := by with_unfolding_all rfl) : SD hox X W (.Compare a [op, op'] [b, cc] pos) (mChain g g' ma mb mc) :=
  PE.imp (pe_chain ho ho' ha hb hc hm) fun σ H Q ⟨c, s, st, q⟩ => ⟨c, s, st, q.split.imp fun dx s1 H1 g1 q1 vx rx => ⟨c, s1, g1.1, q1.split.imp fun dy s2 H2 g2 q2 vy ry => by
    cases e : g dx dy with
    | none => simp only [e] at q2; exact q2.elim
    | some dz =>
      simp only [e] at q2
      refine hg _ H2 _ _ dx dy dz _ (st_hid g2.1) (rx.mono g2.2) ry e fun z H3 sm rz => ?_
      have g3 := Go.grow g2.1 sm
      cases rz with
      | bl k =>
        cases k with
        | true =>
          refine ⟨true, rfl, ?_⟩
          rw [if_pos rfl]
          refine ⟨c, s2, g3.1, ((q2.after g3).split).imp fun dw s4 H4 g4 q4 vw rw4 => ?_⟩
          cases e' : g' dy dw with
          | none => unfold o2 at q4; simp only [e'] at q4; exact q4.elim
          | some du =>
            unfold o2 at q4; simp only [e'] at q4
            exact hg' _ H4 _ _ dy dw du Q (st_hid g4.1) (ry.mono (g3.2.trans g4.2)) rw4 e' fun z H' sm rz => q4 H' (.grow g4.1 sm) z rz
        | false =>
          refine ⟨false, rfl, ?_⟩
          rw [if_neg Bool.false_ne_true]
          exact q2 H3 g3 _ (.bl false)
      | _ => exact q2.elim⟩⟩
/-! lists of values -/
theorem sl_nil : SL hox X W [] lNil := PA.imp pa_nil fun σ H Q ⟨c, s, st, q⟩ => q H (.refl st) [] .nil
theorem sl_cons (ha : SD hox X W e m) (hr : SL hox X W es ml) (hs : starEach (e :: es) X.env = (false, eval e X.env) :: starEach es X.env := by rfl) : SL hox X W (e :: es) (lCons m ml) :=
  PA.imp (pa_cons ha hr hs) fun σ H Q ⟨c, s, st, q⟩ => ⟨c, s, st, q.split.imp fun d s1 H1 g1 q1 v r => ⟨c, s1, g1.1, q1.split.imp fun ds s2 H2 g2 q2 vs rs => q2 H2 (.refl g2.1) (v :: vs) (.cons (r.mono g2.2) rs)⟩⟩
theorem RepL.length {K : PySem.W.Frag} {mg : Str → Option Value} {G : Hp} {vs : List V} {ds : List D} (h : RepL K mg G vs ds) : vs.length = ds.length := by
  induction ds generalizing vs with
  | nil => cases h; rfl
  | cons d ds ih => cases h with | cons _ h => rw [List.length_cons, List.length_cons, ih h]
theorem RepL.append {K : PySem.W.Frag} {mg : Str → Option Value} {G : Hp} {vs ws : List V} {ds es : List D} (h : RepL K mg G vs ds) (h' : RepL K mg G ws es) : RepL K mg G (vs ++ ws) (ds ++ es) := by
  induction ds generalizing vs with
  | nil => cases h; exact h'
  | cons d ds ih => cases h with | cons a h => exact .cons a (ih h)
theorem fits_le {n : Nat} (h : fits n = true) : n ≤ sizeLine := of_decide_eq_true h
theorem sd_tup {x1 : Nat} (h : SL hox X W es ml) : SD hox X W (.Tuple es x1 pos) (mTup ml) :=
  PE.imp (pe_tup h) fun σ H Q ⟨c, s, st, q⟩ => ⟨c, s, st, q.split.imp fun ds s1 H1 g1 q1 vs rs => by
    by_cases f : fits ds.length = true
    · rw [if_pos f] at q1
      refine ⟨by rw [rs.length]; exact fits_le f, fun p n => ?_⟩
      have g := Go.grow (K := X.K) (mg := X.mg) g1.1 (same_new (ho := .tup vs) n)
      refine q1 _ g _ (.tup ?_ (rs.mono g.2))
      have nh : ¬ hs c s1 σ p := g1.1.newHid n
      exact (hid_no nh).trans upd_same
    · rw [if_neg f] at q1; exact q1.elim⟩
theorem so_lst (h : SL hox X W es ml) : SO hox X W (.List es pos) (mLst ml) :=
  PE.imp (pe_lst h) fun σ H Q ⟨c, s, st, q⟩ => ⟨c, s, st, by
    unfold mLst at q
    cases e1 : ml s with
    | ok ds s1 =>
      rw [e1] at q
      intro H1 g1 vs rs
      by_cases f : fits ds.length = true
      · have q : ResO hox X.K X.mg W c s σ H Q (if fits ds.length = true then .ok (.own (.lst ds)) s1 else .bad) := q
        rw [if_pos f] at q
        refine ⟨by rw [rs.length]; exact fits_le f, fun p n => ?_⟩
        obtain ⟨a1, a2, a3⟩ := g1.1.alloc (ho := .lst vs) n
        exact q _ _ ⟨p, _, rfl, rfl, a3, a1, g1.2.trans a2, vs, upd_same, rs.mono a2⟩
      · have q : ResO hox X.K X.mg W c s σ H Q (if fits ds.length = true then .ok (.own (.lst ds)) s1 else .bad) := q
        rw [if_neg f] at q; exact q.elim
    | exc y s1 => rw [e1] at q; exact q
    | bad => rw [e1] at q; exact q⟩
/-! calls of built-ins -/
theorem sd_callB {id : String} {r : List V → Hp → VK → Prop} {g : List D → Option D} (hg : RCS X.K X.mg r g) (hc : CallR X (.builtin id) r) (hG : Gl X x) (hm : X.mg x = none) (hv : bootBuiltins x = some (.builtin id)) (ha : SL hox X W (e :: es) ml)
    (hn : x ≠ "__name__" := by decide) (hdb : (x == ("__debug__" : Str)) = false := by decide)
    (he : starEach (e :: es) X.env = (false, eval e X.env) :: starEach es X.env := by rfl) (hpl : (backTo pos (starEach es X.env)).any (·.1) = false := by rfl) : SD hox X W (.Call (.Name x p) (e :: es) [] pos) (mApp g ml) :=
  PE.imp (pe_callB hc hG hm hv ha hn hdb he hpl) fun σ H Q ⟨c, s, st, q⟩ => ⟨c, s, st, q.split.imp fun ds s1 H1 g1 q1 vs rs => by
    cases e : g ds with
    | none => unfold o2 at q1; simp only [e] at q1; exact q1.elim
    | some dz =>
      unfold o2 at q1; simp only [e] at q1
      exact hg _ H1 _ ds dz Q (st_hid g1.1) rs e fun z H' sm rz => q1 H' (.grow g1.1 sm) z rz⟩
theorem sd_callT {T : String} {r : List V → Hp → VK → Prop} {g : List D → Option D} (hg : RCS X.K X.mg r g) (hc : CallR X (.type T) r) (hG : Gl X x) (hm : X.mg x = none) (hv : bootBuiltins x = some (.type T)) (ha : SL hox X W (e :: es) ml)
    (hn : x ≠ "__name__" := by decide) (hdb : (x == ("__debug__" : Str)) = false := by decide)
    (he : starEach (e :: es) X.env = (false, eval e X.env) :: starEach es X.env := by rfl) (hpl : (backTo pos (starEach es X.env)).any (·.1) = false := by rfl) : SD hox X W (.Call (.Name x p) (e :: es) [] pos) (mApp g ml) :=
  PE.imp (pe_callTy hc hG hm hv ha hn hdb he hpl) fun σ H Q ⟨c, s, st, q⟩ => ⟨c, s, st, q.split.imp fun ds s1 H1 g1 q1 vs rs => by
    cases e : g ds with
    | none => unfold o2 at q1; simp only [e] at q1; exact q1.elim
    | some dz =>
      unfold o2 at q1; simp only [e] at q1
      exact hg _ H1 _ ds dz Q (st_hid g1.1) rs e fun z H' sm rz => q1 H' (.grow g1.1 sm) z rz⟩
theorem res_appL {c : Ct} {s : S} {σ : St} {H : Hp} {Q : VK} {r : List V → Hp → VK → Prop} {g : List D → Option (List D)} (hg : RLS X.K X.mg r g) (q : ResO hox X.K X.mg W c s σ H Q (mAppL g ml s)) :
    Res hox X.K X.mg c s σ H W (fun ds s' H' => ∀ vs, RepL X.K X.mg (vis c s' σ H') vs ds → r vs H' Q) (ml s) := by
  unfold mAppL at q
  cases e1 : ml s with
  | ok ds s1 =>
    rw [e1] at q
    intro H1 g1 vs rs
    cases e2 : g ds with
    | none => unfold Out.bind at q; simp only [e2] at q; exact q.elim
    | some zs =>
      unfold Out.bind at q; simp only [e2] at q
      refine hg _ H1 _ ds zs Q (st_hid g1.1) rs e2 fun p ws n rw1 => ?_
      obtain ⟨a1, a2, a3⟩ := g1.1.alloc (ho := .lst ws) n
      exact q _ _ ⟨p, _, rfl, rfl, a3, a1, g1.2.trans a2, ws, upd_same, rw1.mono a2⟩
  | exc y s1 => rw [e1] at q; exact q
  | bad => rw [e1] at q; exact q
theorem so_callB {id : String} {r : List V → Hp → VK → Prop} {g : List D → Option (List D)} (hg : RLS X.K X.mg r g) (hc : CallR X (.builtin id) r) (hG : Gl X x) (hm : X.mg x = none) (hv : bootBuiltins x = some (.builtin id)) (ha : SL hox X W (e :: es) ml)
    (hn : x ≠ "__name__" := by decide) (hdb : (x == ("__debug__" : Str)) = false := by decide)
    (he : starEach (e :: es) X.env = (false, eval e X.env) :: starEach es X.env := by rfl) (hpl : (backTo pos (starEach es X.env)).any (·.1) = false := by rfl) : SO hox X W (.Call (.Name x p) (e :: es) [] pos) (mAppL g ml) :=
  PE.imp (pe_callB hc hG hm hv ha hn hdb he hpl) fun σ H Q ⟨c, s, st, q⟩ => ⟨c, s, st, res_appL hg q⟩
end
end Den

set_option Elab.async false
set_option linter.all false
set_option maxRecDepth 100000
set_option maxHeartbeats 4000000
namespace Den
variable {hox : Option Addr}
open PySem PySem.Spec PyProof.Rows L2

/-! ### statements -/
inductive Fl where
  | nx | rt (r : Sl) | bk | ct
abbrev MS := S → Out Fl
section
variable (hox : Option Addr) (K : PySem.W.Frag) (mg : Str → Option Value) (W : WX)
def ResS (c : Ct) (s : S) (σ : St) (H : Hp) (D : Ends) : Out Fl → Prop
  | .ok .nx s' => ∀ σ' H', Go hox K mg c s σ H s' σ' H' → D.nx σ' H'
  | .ok (.rt r) s' => ∀ v σ' H', GoR hox K mg c s σ H s' σ' H' v r → D.rt v H'
  | .ok .bk s' => ∀ σ' H', Go hox K mg c s σ H s' σ' H' → D.bk σ' H'
  | .ok .ct s' => ∀ σ' H', Go hox K mg c s σ H s' σ' H' → D.ct σ' H'
  | .exc x s' => ∀ cls dd σ' H', Go hox K mg c s σ H s' σ' H' → ExcR K mg (vis c s' σ' H') cls dd x → W cls dd σ' H'
  | .bad => False
def tS (m : MS) : TS := fun D σ H => ∃ c s, StR hox K mg c s σ H ∧ ResS hox K mg W c s σ H D (m s)
end
abbrev SS (hox : Option Addr) (X : Cx) (W : WX) (st : Stmt) (m : MS) : Prop := PS X st (tS hox X.K X.mg W m)
abbrev SSs (hox : Option Addr) (X : Cx) (W : WX) (st : List Stmt) (m : MS) : Prop := PSs X st (tS hox X.K X.mg W m)
section
variable {K : PySem.W.Frag} {mg : Str → Option Value} {W : WX} {c : Ct} {s s' s1 : S} {σ σ' σ1 : St} {H H' H1 : Hp} {D D' : Ends} {r : Out Fl}
theorem GoR.pre {v : V} {r : Sl} (g : Go hox K mg c s σ H s1 σ1 H1) (h : GoR hox K mg c s1 σ1 H1 s' σ' H' v r) : GoR hox K mg c s σ H s' σ' H' v r := by
  cases r with
  | val d => exact ⟨g.trans h.1, h.2⟩
  | own o =>
    obtain ⟨p, ho, e, hz, n, st, l, q⟩ := h
    exact ⟨p, ho, e, hz, n, st, g.2.trans l, q⟩
  | bor o => exact h
theorem ResS.after (h : ResS hox K mg W c s σ H D r) (g : Go hox K mg c s σ H s1 σ1 H1) : ResS hox K mg W c s1 σ1 H1 D r := by
  cases r with
  | ok f s' =>
    cases f with
    | nx => exact fun σ' H' g' => h σ' H' (g.trans g')
    | rt r => exact fun v σ' H' g' => h v σ' H' (g'.pre g)
    | bk => exact fun σ' H' g' => h σ' H' (g.trans g')
    | ct => exact fun σ' H' g' => h σ' H' (g.trans g')
  | exc x s' => exact fun cls dd σ' H' g' => h cls dd σ' H' (g.trans g')
  | bad => exact h
/-- an expression ahead of what follows -/
theorem ResS.split {α : Type} {o : Out α} {k : α → S → Out Fl} (h : ResS hox K mg W c s σ H D (o.bind k)) : Res hox K mg c s σ H W (fun a s1 H1 => ResS hox K mg W c s1 σ H1 D (k a s1)) o := by
  cases o with
  | ok a s1 => exact fun H1 g => ResS.after (r := k a s1) h g
  | exc x s' => exact fun cls dd H' g' => h cls dd σ H' g'
  | bad => exact h
theorem ResS.splitO {o : Out Sl} {k : Sl → S → Out Fl} (h : ResS hox K mg W c s σ H D (o.bind k)) : ResO hox K mg W c s σ H (fun v H1 => ∃ r s1, o = .ok r s1 ∧ GoR hox K mg c s σ H s1 σ H1 v r ∧ ResS hox K mg W c s σ H D (k r s1)) o := by
  cases o with
  | ok r s1 => exact fun v H1 g => ⟨r, s1, rfl, g, h⟩
  | exc x s' => exact fun cls dd H' g' => h cls dd σ H' g'
  | bad => exact h
end
def mSeq (a b : MS) : MS := fun s => (a s).bind fun f s1 => match f with
  | .nx => b s1
  | .rt r => .ok (.rt r) s1
  | .bk => .ok .bk s1
  | .ct => .ok .ct s1
def mNx : MS := fun s => .ok .nx s
section
variable {X : Cx} {W : WX} {st : Stmt} {rest : List Stmt} {a b : MS} {e : Expr} {m : MD} {mo : MO} {pos : Pos} {x : Str} {ml : ML}
theorem ss_nil : SSs hox X W [] mNx := PSs.imp pss_nil fun D σ H ⟨c, s, st, q⟩ => q σ H (.refl st)
theorem seq_imp {K : PySem.W.Frag} {mg : Str → Option Value} {D : Ends} {σ : St} {H : Hp} (h : tS hox K mg W (mSeq a b) D σ H) : tS hox K mg W a { D with nx := tS hox K mg W b D } σ H := by
  obtain ⟨c, s, st, q⟩ := h
  refine ⟨c, s, st, ?_⟩
  unfold mSeq at q
  cases e : a s with
  | ok f s1 =>
    rw [e] at q
    cases f with
    | nx => exact fun σ' H' g => ⟨c, s1, g.1, ResS.after (r := b s1) q g⟩
    | rt r => exact q
    | bk => exact q
    | ct => exact q
  | exc y s1 => rw [e] at q; exact q
  | bad => rw [e] at q; exact q
theorem ss_cons (h1 : SS hox X W st a) (h2 : SSs hox X W rest b) : SSs hox X W (st :: rest) (mSeq a b) := PSs.imp (pss_cons h1 h2) fun D σ H h => seq_imp h
theorem ss_one (h1 : SS hox X W st a) : SSs hox X W [st] a := pss_one h1
def mDrop (m : MO) : MS := fun s => (m s).bind fun _ s1 => .ok .nx s1
theorem GoR.go {K : PySem.W.Frag} {mg : Str → Option Value} {c : Ct} {s s' : S} {σ σ' : St} {H H' : Hp} {v : V} {r : Sl} (g : GoR hox K mg c s σ H s' σ' H' v r) : Go hox K mg c s σ H s' σ' H' := by
  cases r with
  | val d => exact g.1
  | own o =>
    obtain ⟨p, ho, e, _, n, st, l, q⟩ := g
    exact ⟨st.unext, l.trans vis_unext⟩
  | bor o => exact g.elim
theorem ResO.imp {K : PySem.W.Frag} {mg : Str → Option Value} {W : WX} {c : Ct} {s : S} {σ : St} {H : Hp} {Q Q' : VK} {r : Out Sl} (h : ResO hox K mg W c s σ H Q r) (i : ∀ v H', Q v H' → Q' v H') : ResO hox K mg W c s σ H Q' r := by
  cases r with
  | ok r s1 => exact fun v H' g => i _ _ (h v H' g)
  | exc y s1 => exact h
  | bad => exact h
theorem ss_expr (he : SO hox X W e mo) (hs : swapsWith e none pos.line X.env = pure false := by rfl) : SS hox X W (.Expr e pos) (mDrop mo) :=
  PS.imp (ps_expr he hs) fun D σ H ⟨c, s, st, q⟩ => ⟨c, s, st, (ResS.splitO q).imp fun v H1 ⟨r, s1, e1, g, q1⟩ => q1 σ H1 g.go⟩
def mRet (m : MO) : MS := fun s => (m s).bind fun r s1 => .ok (.rt r) s1
theorem ss_ret (he : SO hox X W e mo) : SS hox X W (.Return (some e) pos) (mRet mo) :=
  PS.imp (ps_ret he) fun D σ H ⟨c, s, st, q⟩ => ⟨c, s, st, (ResS.splitO q).imp fun v H1 ⟨r, s1, e1, g, q1⟩ => q1 v σ H1 g⟩
def mTake (i : Nat) : MO := fun s => match s[i]? with
  | some (some (.val d)) => .ok (.val d) s
  | some (some (.own o)) => if o.sub.isEmpty = true then .ok (.own o) (s.set i none) else .bad
  | _ => .bad
/-- return x: the def's own list is handed over -/
theorem so_take (i : Nat) (hN : X.N[i]? = some x := by rfl) (hv : Vis X.env.scope x := by first | exact Or.inl rfl | exact Or.inr (Or.inl rfl) | exact Or.inr (Or.inr rfl)) (hd : (x == ("__debug__" : Str)) = false := by decide)
    (hcd : (x == ("__classdict__" : Str)) = false := by decide) : SO hox X W (.Name x pos) (mTake i) := PE.imp (pe_var hN hv hd hcd) fun σ H Q ⟨c, s, st, q⟩ => by
  unfold mTake at q
  cases e : s[i]? with
  | none => rw [e] at q; exact q.elim
  | some w =>
    cases w with
    | none => rw [e] at q; exact q.elim
    | some w =>
      cases w with
      | val d =>
        rw [e] at q
        obtain ⟨v, e1, r⟩ := st.val i d e
        exact ⟨v, e1, q v H ⟨.refl st, r⟩⟩
      | own o =>
        rw [e] at q
        by_cases hz : o.sub.isEmpty = true
        · simp only [if_pos hz] at q
          have hz2 : o.sub = [] := List.isEmpty_iff.mp hz
          obtain ⟨p, ho, e1, n, st1, l, r⟩ := st.give e hz2
          exact ⟨_, e1, q _ H ⟨p, ho, rfl, hz2, n, st1, l, r⟩⟩
        · simp only [if_neg hz] at q
          exact q.elim
      | bor o => rw [e] at q; exact q.elim
def mRetN : MS := fun s => .ok (.rt (.val .non)) s
def mIfS (t : MB) (a b : MS) : MS := fun s => (t s).bind fun k s1 => if k = true then a s1 else b s1
theorem ss_if {t : Expr} {sa sb : List Stmt} {mt : MB} (ht : SB hox X W t mt) (ha : SSs hox X W sa a) (hb : SSs hox X W sb b) : SS hox X W (.If t sa sb pos) (mIfS mt a b) :=
  PS.imp (ps_if ht ha hb) fun D σ H ⟨c, s, st, q⟩ => ⟨c, s, st, (ResS.split q).imp fun k s1 H1 g q1 => by
    cases k with
    | true => rw [if_pos rfl] at q1 ⊢; exact ⟨c, s1, g.1, q1⟩
    | false => rw [if_neg Bool.false_ne_true] at q1 ⊢; exact ⟨c, s1, g.1, q1⟩⟩
/-- x = e -/
def put (i : Nat) (r : Sl) (s : S) : Out Fl := match r with
  | .bor _ => .bad
  | r => if free s i = true then .ok .nx (s.set i (some r)) else .bad
def mSet (i : Nat) (m : MO) : MS := fun s => (m s).bind fun r s1 => put i r s1
theorem put_ok {K : PySem.W.Frag} {mg : Str → Option Value} {W : WX} {c : Ct} {s s1 : S} {σ : St} {H H1 : Hp} {v : V} {r : Sl} {i : Nat} {D : Ends} (g : GoR hox K mg c s σ H s1 σ H1 v r) (q : ResS hox K mg W c s σ H D (put i r s1)) : D.nx (σ.set i (some v)) H1 := by
  unfold put at q
  cases r with
  | val d =>
    simp only at q
    by_cases f : free s1 i = true
    · rw [if_pos f] at q
      exact q _ _ (g.1.trans (g.1.1.put f _ _ (fun d' e => by cases e; exact ⟨v, rfl, g.2⟩) (.inl ⟨d, rfl⟩)))
    · rw [if_neg f] at q; exact q.elim
  | own o =>
    simp only at q
    by_cases f : free s1 i = true
    · rw [if_pos f] at q
      obtain ⟨p, ho, rfl, hz, n, st, l, r⟩ := g
      obtain ⟨st2, l2⟩ := st.take n r f hz
      exact q _ _ ⟨st2, l.trans l2⟩
    · rw [if_neg f] at q; exact q.elim
  | bor o => exact q.elim
theorem ss_set (i : Nat) {pos' : Pos} (hN : X.N.Nodup) (he : SO hox X W e mo) (hi : X.N[i]? = some x := by rfl) (hx : Loc X.env.scope x := by first | exact Or.inl rfl | exact Or.inr rfl) (hs : swapsWith e (some (.Name x pos')) pos.line X.env = pure false := by rfl) (hf : X.fn x = true ∨ X.env.scope.names.lookup x = some .local := by first | exact .inl rfl | exact .inr rfl | assumption) :
    SS hox X W (.Assign [.Name x pos'] e pos) (mSet i mo) :=
  PS.imp (ps_set hN hi hx he hs hf) fun D σ H ⟨c, s, st, q⟩ => ⟨c, s, st, (ResS.splitO q).imp fun v H1 ⟨r, s1, e1, g, q1⟩ => put_ok g q1⟩
/-- a, b = e1, e2 -/
def mPar (i j : Nat) (l : ML) : MS := fun s => (l s).bind fun ds s1 => match ds with
  | [d, e] => if free s1 i = true ∧ free s1 j = true then .ok .nx ((s1.set i (some (.val d))).set j (some (.val e))) else .bad
  | _ => .bad
theorem free_set {s : S} {i j : Nat} {d : D} (h : free s j = true) : free (s.set i (some (.val d))) j = true := by
  unfold free at h ⊢
  by_cases e : i = j
  · subst e
    by_cases hl : i < s.length
    · rw [List.getElem?_set_self hl]
    · rw [List.getElem?_eq_none (by omega)] at h; cases h
  · rw [List.getElem?_set_ne e]; exact h
theorem ss_par (i j : Nat) {y : Str} {e1 e2 : Expr} {px py pt : Pos} {kt k2 : Nat} {pt2 : Pos} (hc : X.calm = true) (hN : X.N.Nodup) (ha : SL hox X W [e1, e2] ml) (hi : X.N[i]? = some x := by rfl) (hj : X.N[j]? = some y := by rfl) (hij : i ≠ j := by decide)
    (hx : X.env.scope.names.lookup x = some .local := by rfl) (hy : X.env.scope.names.lookup y = some .local := by rfl)
    (hw : swappedStores [.Tuple [.Name x px, .Name y py] kt pt] (.Tuple [e1, e2] k2 pt2) X.env = pure (some [x, y]) := by rfl)
    (hs : swapsWithSole [.Tuple [.Name x px, .Name y py] kt pt] (.Tuple [e1, e2] k2 pt2) pos.line X.env = pure false := by rfl) :
    SS hox X W (.Assign [.Tuple [.Name x px, .Name y py] kt pt] (.Tuple [e1, e2] k2 pt2) pos) (mPar i j ml) :=
  PS.imp (ps_par hc hN hi hj hij hx hy ha hw hs) fun D σ H ⟨c, s, st, q⟩ => ⟨c, s, st, (ResS.split q).imp fun ds s1 H1 g q1 vs rs => by
    match ds, vs, rs with
    | [d, e], _, .cons (v := v) r1 (.cons (v := w) r2 .nil) =>
      simp only at q1
      by_cases f : free s1 i = true ∧ free s1 j = true
      · rw [if_pos f] at q1
        refine ⟨v, w, rfl, ?_⟩
        have g1 := g.1.put f.1 (some (.val d)) (some v) (fun d' e => by cases e; exact ⟨v, rfl, r1⟩) (.inl ⟨d, rfl⟩)
        have g2 := g1.1.put (free_set f.2) (some (.val e)) (some w) (fun d' z => by cases z; exact ⟨w, rfl, r2.mono g1.2⟩) (.inl ⟨e, rfl⟩)
        exact q1 _ _ (g1.trans g2)
      · rw [if_neg f] at q1; exact q1.elim
    | [], _, _ => exact q1.elim
    | [_], _, _ => exact q1.elim
    | _ :: _ :: _ :: _, _, _ => exact q1.elim⟩
/-! targets -/
abbrev MG := D → S → Option S
def tG (hox : Option Addr) (K : PySem.W.Frag) (mg : Str → Option Value) (js : List Nat) (g : MG) : TG := fun v σ H Q => ∃ c s d, StR hox K mg c s σ H ∧ Rep K mg (vis c s σ H) v d ∧ ∃ s', g d s = some s' ∧ ∀ σ' H', Go hox K mg c s σ H s' σ' H' → σ'.length = σ.length → (∀ j, j ∉ js → σ'[j]? = σ[j]?) → Q σ' H'
abbrev SG (hox : Option Addr) (X : Cx) (js : List Nat) (tg : Expr) (g : MG) : Prop := PG X tg (tG hox X.K X.mg js g)
def gN (i : Nat) : MG := fun d s => if free s i = true then some (s.set i (some (.val d))) else none
theorem sg_name (i : Nat) (hN : X.N.Nodup) (hi : X.N[i]? = some x := by rfl) (hx : Loc X.env.scope x := by first | exact Or.inl rfl | exact Or.inr rfl) (hf : X.fn x = true ∨ X.env.scope.names.lookup x = some .local := by first | exact .inl rfl | exact .inr rfl | assumption) : SG hox X [i] (.Name x pos) (gN i) :=
  PG.imp (pg_name hN hi hx hf) fun v σ H Q ⟨c, s, d, st, r, s', e, q⟩ => by
    unfold gN at e
    by_cases f : free s i = true
    · rw [if_pos f] at e
      cases e
      refine q _ _ (st.put f _ _ (fun d' e => by cases e; exact ⟨v, rfl, r⟩) (.inl ⟨d, rfl⟩)) (by rw [List.length_set]) fun j hj => ?_
      rw [List.getElem?_set_ne (fun z => hj (by rw [z]; exact List.mem_singleton_self _))]
    · rw [if_neg f] at e; cases e
abbrev MGs := List D → S → Option S
def tGs (hox : Option Addr) (K : PySem.W.Frag) (mg : Str → Option Value) (js : List Nat) (g : MGs) : TGs := fun vs σ H Q => ∃ c s ds, StR hox K mg c s σ H ∧ RepL K mg (vis c s σ H) vs ds ∧ ∃ s', g ds s = some s' ∧ ∀ σ' H', Go hox K mg c s σ H s' σ' H' → σ'.length = σ.length → (∀ j, j ∉ js → σ'[j]? = σ[j]?) → Q σ' H'
abbrev SGs (hox : Option Addr) (X : Cx) (js : List Nat) (tg : List Expr) (g : MGs) : Prop := PGs X tg (tGs hox X.K X.mg js g)
theorem PGs.imp {X : Cx} {tg : List Expr} {t t' : TGs} (h : PGs X tg t) (i : ∀ v σ H Q, t' v σ H Q → t v σ H Q) : PGs X tg t' := ⟨fun pins s σ H v u Q I r q => h.run pins s σ H v u Q I r (i v σ H Q q)⟩
def gsNil : MGs := fun ds s => match ds with
  | [] => some s
  | _ => none
def gsCons (g : MG) (r : MGs) : MGs := fun ds s => match ds with
  | d :: ds => (g d s).bind fun s1 => r ds s1
  | [] => none
theorem sgs_nil : SGs hox X [] [] gsNil := PGs.imp pgs_nil fun vs σ H Q ⟨c, s, ds, st, r, s', e, q⟩ => by
  cases r with
  | nil => cases e; exact ⟨rfl, q σ H (.refl st) rfl fun _ _ => rfl⟩
  | cons _ _ => cases e
theorem sgs_cons {js ks : List Nat} {es : List Expr} {g : MG} {gr : MGs} (h1 : SG hox X js e g) (h2 : SGs hox X ks es gr) (hs : (assignEach (e :: es) X.env).map (·.2) = assign e X.env :: (assignEach es X.env).map (·.2) := by rfl) : SGs hox X (js ++ ks) (e :: es) (gsCons g gr) :=
  PGs.imp (pgs_cons h1 h2 hs) fun vs σ H Q ⟨c, s, ds, st, r, s', e, q⟩ => by
    cases ds with
    | nil => cases e
    | cons d ds =>
      cases vs with
      | nil => cases r
      | cons v vs =>
        obtain ⟨r1, r2⟩ : Rep X.K X.mg (vis c s σ H) v d ∧ RepL X.K X.mg (vis c s σ H) vs ds := by cases r with | cons a b => exact ⟨a, b⟩
        refine ⟨v, vs, rfl, c, s, d, st, r1, ?_⟩
        have e : (g d s).bind (fun s1 => gr ds s1) = some s' := e
        cases e1 : g d s with
        | none => rw [e1] at e; cases e
        | some s1 =>
          rw [e1] at e
          refine ⟨s1, rfl, fun σ1 H1 g1 l1 k1 => ⟨c, s1, ds, g1.1, r2.mono g1.2, s', e, fun σ2 H2 g2 l2 k2 => ?_⟩⟩
          refine q σ2 H2 (g1.trans g2) (l2.trans l1) fun j hj => ?_
          rw [k2 j (fun z => hj (List.mem_append_right _ z)), k1 j (fun z => hj (List.mem_append_left _ z))]
def gT (n : Nat) (g : MGs) : MG := fun d s => match d with
  | .tup ds => if ds.length = n then g ds s else none
  | _ => none
theorem sg_tup {js : List Nat} {es : List Expr} {k n : Nat} {g : MGs} (hc : X.calm = true) (h : SGs hox X js es g) (hn : (assignEach es X.env).length = n := by rfl) (hst : (assignEach es X.env).findIdx? (·.1) = none := by rfl) : SG hox X js (.Tuple es k pos) (gT n g) :=
  PG.imp (pg_tup hc h hn hst) fun v σ H Q ⟨c, s, d, st, r, s', e, q⟩ => by
    cases d with
    | tup ds =>
      obtain ⟨a, xs, ev, ht, r⟩ : ∃ a xs, v = .ref a ∧ (vis c s σ H) a = some (.tup xs) ∧ RepL X.K X.mg (vis c s σ H) xs ds := by cases r with | tup a b => exact ⟨_, _, rfl, a, b⟩
      have e : (if ds.length = n then g ds s else none) = some s' := e
      by_cases f : ds.length = n
      · rw [if_pos f] at e
        exact ⟨a, xs, ev, .inl (.inl (hid_some ht).2), by rw [r.length]; exact f, c, s, ds, st, r, s', e, q⟩
      · rw [if_neg f] at e; cases e
    | _ => cases e
def mAsg (m : MD) (g : MG) : MS := fun s => (m s).bind fun d s1 => match g d s1 with
  | some s2 => .ok .nx s2
  | none => .bad
theorem ss_asg {js : List Nat} {tg : Expr} {g : MG} (he : SD hox X W e m) (hg : SG hox X js tg g) (hs : swapsWithSole [tg] e pos.line X.env = pure false := by rfl) (hw : swappedStores [tg] e X.env = pure none := by rfl)
    (h1 : (assignEach [tg] X.env).map (·.2) = [assign tg X.env] := by rfl) : SS hox X W (.Assign [tg] e pos) (mAsg m g) :=
  PS.imp (ps_asg he hg hs hw h1) fun D σ H ⟨c, s, st, q⟩ => ⟨c, s, st, (ResS.split q).imp fun d s1 H1 g1 q1 v r => by
    cases e1 : g d s1 with
    | some s2 => simp only [e1] at q1; exact ⟨c, s1, d, g1.1, r, s2, e1, fun σ' H' g2 _ _ => q1 σ' H' g2⟩
    | none => simp only [e1] at q1; exact q1.elim⟩
/-! for -/
abbrev MI := S → Out (List D)
def ItOk (K : PySem.W.Frag) (mg : Str → Option Value) (J : It) (G : Hp) (ds : List D) : Prop :=
  (∀ (i : Nat) d (h : Addr → Prop) H1, ds[i]? = some d → (∀ p, h p → ∃ o, H1 p = some o) → Le G (hid h H1) → J.go i H1 ∧ ∀ x H', J.yld i H1 x H' → Same H1 H' ∧ Rep K mg (hid h H') x d) ∧
  ∀ (h : Addr → Prop) H1, Le G (hid h H1) → J.stop ds.length H1
def tI (hox : Option Addr) (K : PySem.W.Frag) (mg : Str → Option Value) (W : WX) (m : MI) : TI := fun σ H R => ∃ c s, StR hox K mg c s σ H ∧ Res hox K mg c s σ H W (fun ds s' H' => ∀ J, ItOk K mg J (vis c s' σ H') ds → R J H') (m s)
abbrev SI (hox : Option Addr) (X : Cx) (W : WX) (tg iter : Expr) (m : MI) : Prop := PI X tg iter (tI hox X.K X.mg W m)
def loop (g : MG) (b : MS) : List D → S → Out Fl
  | [], s => .ok .nx s
  | d :: ds, s => match g d s with
    | none => .bad
    | some s1 => match b s1 with
      | .ok .nx s2 => loop g b ds s2
      | .ok .ct s2 => loop g b ds s2
      | .ok .bk s2 => .ok .nx s2
      | .ok (.rt r) s2 => .ok (.rt r) s2
      | .exc x s2 => .exc x s2
      | .bad => .bad
def mFor (mi : MI) (g : MG) (b : MS) : MS := fun s => (mi s).bind fun ds s1 => loop g b ds s1
theorem ss_for {js : List Nat} {tg iter : Expr} {body : List Stmt} {mi : MI} {g : MG} {b : MS} (hp : PassesOwn (model X.prog X.w) X.A X.env X.xe) (hc : X.calm = true) (hi : SI hox X W tg iter mi) (hg : SG hox X js tg g) (hb : SSs hox X W body b)
    (hs : ∀ x, foldedSetIterable iter X.env x = pure x := by intro _; rfl) : SS hox X W (.For tg iter body [] pos) (mFor mi g b) :=
  PS.imp (ps_for hp hc hi hg hb hs) fun D σ H ⟨c, s, st, q⟩ => ⟨c, s, st, (ResS.split q).imp fun ds s1 H1 g1 q1 J hJ => by
    refine ⟨fun i m σ' H' => m = ds.length - i ∧ i ≤ ds.length ∧ ∃ t, StR hox X.K X.mg c t σ' H' ∧ Le (vis c s1 σ H1) (vis c t σ' H') ∧ ResS hox X.K X.mg W c t σ' H' D (loop g b (ds.drop i) t),
      ⟨ds.length, by simp, Nat.zero_le _, s1, g1.1, Le.refl _, q1⟩, ?_⟩
    rintro i m σ2 H2 ⟨rfl, hi, t, st2, l2, q2⟩
    by_cases hlt : i < ds.length
    · refine .inr ?_
      have hd : ds[i]? = some ds[i] := List.getElem?_eq_getElem hlt
      obtain ⟨go, yld⟩ := hJ.1 i ds[i] (Den.hs c t σ2) H2 hd (fun p h => st2.hidden h) l2
      have ed : ds.drop i = ds[i] :: ds.drop (i + 1) := by rw [List.drop_eq_getElem_cons hlt]
      rw [ed] at q2
      refine ⟨go, fun σ' H' => ∃ t', StR hox X.K X.mg c t' σ' H' ∧ Le (vis c s1 σ H1) (vis c t' σ' H') ∧ ResS hox X.K X.mg W c t' σ' H' D (loop g b (ds.drop (i + 1)) t'), fun σ' H' ⟨t', a1, a2, a3⟩ => ⟨ds.length - (i + 1), by omega, rfl, hlt, t', a1, a2, a3⟩, fun x H' y => ?_⟩
      obtain ⟨sm, rx⟩ := yld x H' y
      have g2 := Go.grow st2 sm
      refine ⟨c, t, ds[i], g2.1, rx, ?_⟩
      unfold loop at q2
      cases e1 : g ds[i] t with
      | none => simp only [e1] at q2; exact q2.elim
      | some s3 =>
        simp only [e1] at q2
        refine ⟨s3, rfl, fun σ3 H3 g3 _ _ => ⟨c, s3, g3.1, ?_⟩⟩
        have gg := g2.trans g3
        cases e2 : b s3 with
        | ok f s4 =>
          simp only [e2] at q2
          cases f with
          | nx => exact fun σ4 H4 g4 => ⟨s4, g4.1, l2.trans (gg.trans g4).2, q2.after (gg.trans g4)⟩
          | ct => exact fun σ4 H4 g4 => ⟨s4, g4.1, l2.trans (gg.trans g4).2, q2.after (gg.trans g4)⟩
          | bk => exact fun σ4 H4 g4 => q2 σ4 H4 (gg.trans g4)
          | rt r => exact fun v σ4 H4 g4 => q2 v σ4 H4 (g4.pre gg)
        | exc y s4 => simp only [e2] at q2; exact fun cls dd σ4 H4 g4 => q2 cls dd σ4 H4 (gg.trans g4)
        | bad => simp only [e2] at q2; exact q2.elim
    · have e : i = ds.length := by omega
      subst e
      rw [List.drop_length] at q2
      exact .inl ⟨hJ.2 _ H2 l2, q2 σ2 H2 (.refl st2)⟩⟩
/-! while -/
def wloop (t : MB) (b : MS) : Nat → S → Out Fl
  | 0, _ => .bad
  | n + 1, s => match t s with
    | .ok true s1 => match b s1 with
      | .ok .nx s2 => wloop t b n s2
      | .ok .ct s2 => wloop t b n s2
      | .ok .bk s2 => .ok .nx s2
      | .ok (.rt r) s2 => .ok (.rt r) s2
      | .exc x s2 => .exc x s2
      | .bad => .bad
    | .ok false s1 => .ok .nx s1
    | .exc x s1 => .exc x s1
    | .bad => .bad
def mWhile (t : MB) (b : MS) (fuel : S → Nat) : MS := fun s => wloop t b (fuel s) s
theorem ss_while {t : Expr} {body : List Stmt} {mt : MB} {b : MS} {fuel : S → Nat} (hp : PassesOwn (model X.prog X.w) X.A X.env X.xe) (ht : SB hox X W t mt) (hb : SSs hox X W body b) : SS hox X W (.While t body [] pos) (mWhile mt b fuel) :=
  PS.imp (ps_while hp ht hb) fun D σ H ⟨c, s, st, q⟩ => by
    refine ⟨fun n σ' H' => ∃ s', StR hox X.K X.mg c s' σ' H' ∧ ResS hox X.K X.mg W c s' σ' H' D (wloop mt b n s'), ⟨fuel s, s, st, q⟩, ?_⟩
    rintro n σ1 H1 ⟨s1, st1, q1⟩
    refine ⟨c, s1, st1, ?_⟩
    cases n with
    | zero => exact q1.elim
    | succ n =>
      unfold wloop at q1
      cases e1 : mt s1 with
      | ok k s2 =>
        intro H2 g2
        cases k with
        | true =>
          simp only [e1] at q1
          rw [if_pos rfl]
          refine ⟨fun σ' H' => ∃ s', StR hox X.K X.mg c s' σ' H' ∧ ResS hox X.K X.mg W c s' σ' H' D (wloop mt b n s'), fun σ' H' h => ⟨n, Nat.lt_succ_self n, h⟩, c, s2, g2.1, ?_⟩
          cases e2 : b s2 with
          | ok f s4 =>
            simp only [e2] at q1
            cases f with
            | nx => exact fun σ4 H4 g4 => ⟨s4, g4.1, q1.after (g2.trans g4)⟩
            | ct => exact fun σ4 H4 g4 => ⟨s4, g4.1, q1.after (g2.trans g4)⟩
            | bk => exact fun σ4 H4 g4 => q1 σ4 H4 (g2.trans g4)
            | rt r => exact fun v σ4 H4 g4 => q1 v σ4 H4 (g4.pre g2)
          | exc y s4 => simp only [e2] at q1; exact fun cls dd σ4 H4 g4 => q1 cls dd σ4 H4 (g2.trans g4)
          | bad => simp only [e2] at q1; exact q1.elim
        | false =>
          simp only [e1] at q1
          rw [if_neg Bool.false_ne_true]
          exact q1 _ _ g2
      | exc y s2 => simp only [e1] at q1; exact fun cls dd H' g => q1 cls dd σ1 H' g
      | bad => simp only [e1] at q1; exact q1.elim
end
end Den

set_option Elab.async false
set_option linter.all false
set_option maxRecDepth 100000
set_option maxHeartbeats 4000000
namespace Den
variable {hox : Option Addr}
open PySem PySem.Spec PyProof.Rows L2

section
variable {K : PySem.W.Frag} {mg : Str → Option Value} {G G' H H' : Hp} {c : Ct} {s s' t : S} {σ σ' τ : St} {p : Addr} {o : O} {i : Nat}
theorem RepL.get : ∀ {i : Nat} {xs : List V} {ds : List D} {d : D}, RepL K mg G xs ds → ds[i]? = some d → ∃ x, xs[i]? = some x ∧ Rep K mg G x d
  | _, _, [], _, _, e => by simp at e
  | 0, _, d :: ds, _, h, e => by
    cases h with
    | cons a b =>
      rw [List.getElem?_cons_zero] at e
      cases e
      exact ⟨_, rfl, a⟩
  | i + 1, _, d :: ds, d', h, e => by
    cases h with
    | cons a b =>
      rw [List.getElem?_cons_succ] at e
      obtain ⟨x, e1, r⟩ := RepL.get (i := i) b e
      exact ⟨x, by rw [List.getElem?_cons_succ]; exact e1, r⟩
/-- slots that hold no object may be changed -/
theorem StR.swap (x : StR hox K mg c t τ H) (hl : s'.length = t.length) (hl2 : σ'.length = τ.length)
    (h : ∀ j : Nat, (s'[j]? = t[j]? ∧ σ'[j]? = τ[j]?) ∨ ((∀ o, t[j]? ≠ some (some (.own o)) ∧ t[j]? ≠ some (some (.bor o))) ∧
      (s'[j]? = some none ∨ ∃ d v, s'[j]? = some (some (.val d)) ∧ σ'[j]? = some (some v) ∧ Rep K mg (vis c t τ H) v d))) :
    StR hox K mg c s' σ' H ∧ (∀ b, hs c s' σ' b ↔ hs c t τ b) := by
  have own1 : ∀ (j : Nat) o, s'[j]? = some (some (.own o)) → t[j]? = some (some (.own o)) ∧ σ'[j]? = τ[j]? := fun j o e => by
    rcases h j with ⟨e1, e2⟩ | ⟨_, e1 | ⟨d, v, e1, _⟩⟩
    · exact ⟨e1 ▸ e, e2⟩
    · rw [e] at e1; cases e1
    · rw [e] at e1; cases e1
  have own2 : ∀ (j : Nat) o, t[j]? = some (some (.own o)) → s'[j]? = some (some (.own o)) ∧ σ'[j]? = τ[j]? := fun j o e => by
    rcases h j with ⟨e1, e2⟩ | ⟨n, _⟩
    · exact ⟨e1.trans e, e2⟩
    · exact absurd e (n o).1
  have bor1 : ∀ (j : Nat) o, s'[j]? = some (some (.bor o)) → t[j]? = some (some (.bor o)) ∧ σ'[j]? = τ[j]? := fun j o e => by
    rcases h j with ⟨e1, e2⟩ | ⟨_, e1 | ⟨d, v, e1, _⟩⟩
    · exact ⟨e1 ▸ e, e2⟩
    · rw [e] at e1; cases e1
    · rw [e] at e1; cases e1
  have bor2 : ∀ (j : Nat) o, t[j]? = some (some (.bor o)) → s'[j]? = some (some (.bor o)) := fun j o e => by
    rcases h j with ⟨e1, e2⟩ | ⟨n, _⟩
    · exact e1.trans e
    · exact absurd e (n o).2
  have hh : ∀ b, hs c s' σ' b ↔ hs c t τ b := fun b => by
    constructor
    · rintro (z | z | ⟨j, o, q, e1, e2, f⟩)
      · exact .inl z
      · exact .inr (.inl z)
      · obtain ⟨a1, a2⟩ := own1 j o e1
        exact .inr (.inr ⟨j, o, q, a1, a2 ▸ e2, f⟩)
    · rintro (z | z | ⟨j, o, q, e1, e2, f⟩)
      · exact .inl z
      · exact .inr (.inl z)
      · obtain ⟨a1, a2⟩ := own2 j o e1
        exact .inr (.inr ⟨j, o, q, a1, a2.trans e2, f⟩)
  have l : Le (vis c t τ H) (vis c s' σ' H) := hid_le fun b o n e => ⟨fun z => n ((hh b).mp z), e⟩
  refine ⟨⟨by rw [hl, hl2]; exact x.len, fun j d e => ?_, fun j o e => ?_, fun j o e => ?_, fun j q e => ?_, fun j k oi oj p q b e1 e2 e3 e4 f1 f2 => ?_, fun j k oi oj p q b e1 e2 => x.bun j k oi oj p q b (bor1 j oi e1).1 (bor1 k oj e2).1, fun b z => ?_, x.keep, x.act, fun q u hq => ?_, x.hot⟩, hh⟩
  · rcases h j with ⟨e1, e2⟩ | ⟨n, e1 | ⟨d', v, e1, e2, r⟩⟩
    · obtain ⟨v, a1, r⟩ := x.val j d (e1 ▸ e)
      exact ⟨v, e2.trans a1, r.mono l⟩
    · rw [e] at e1; cases e1
    · rw [e] at e1; cases e1
      exact ⟨v, e2, r.mono l⟩
  · obtain ⟨a1, a2⟩ := own1 j o e
    obtain ⟨q, e1, m, r⟩ := x.own j o a1
    exact ⟨q, a2.trans e1, m, r.mono l fun _ _ _ h => h⟩
  · obtain ⟨a1, a2⟩ := bor1 j o e
    obtain ⟨q, e1, m, z, r⟩ := x.bor j o a1
    exact ⟨q, a2.trans e1, m, z, r.mono l fun _ _ _ h => h⟩
  · obtain ⟨a, o, e'⟩ := x.brw j q e
    exact ⟨a, o, bor2 j o e'⟩
  · obtain ⟨a1, a2⟩ := own1 j oi e1
    obtain ⟨b1, b2⟩ := own1 k oj e2
    exact x.uni j k oi oj p q b a1 b1 (a2 ▸ e3) (b2 ▸ e4) f1 f2
  · obtain ⟨j, o, p, e, eb, f⟩ := x.lnt b z
    exact ⟨j, o, p, bor2 j o e, eb, f⟩
  · obtain ⟨h1, h2, h3, h4⟩ := x.tmp q u hq
    refine ⟨h1, h2, h3, fun j o p e1 e2 f => ?_⟩
    obtain ⟨a1, a2⟩ := own1 j o e1
    exact h4 j o p a1 (a2 ▸ e2) f
end
/-! ### comprehensions -/
def wipeS (s : S) : List Nat → S
  | [] => s
  | v :: vs => (wipeS s vs).set v none
def plainAt (s : S) (v : Nat) : Bool := match s[v]? with
  | some (some (.val _)) => true
  | some none => true
  | _ => false
def restore (t s : S) : List Nat → S
  | [] => t
  | v :: vs => (restore t s vs).set v (s[v]?.getD none)
theorem wipeS_length (s : S) : ∀ vs, (wipeS s vs).length = s.length
  | [] => rfl
  | v :: vs => by unfold wipeS; rw [List.length_set, wipeS_length s vs]
theorem restore_length (t s : S) : ∀ vs, (restore t s vs).length = t.length
  | [] => rfl
  | v :: vs => by unfold restore; rw [List.length_set, restore_length t s vs]
theorem wipe_at {α : Type} (f : List (Option α) → List Nat → List (Option α)) (h0 : ∀ s, f s [] = s) (h1 : ∀ s v vs, f s (v :: vs) = (f s vs).set v none) (s : List (Option α)) (j : Nat) :
    ∀ vs, (j ∈ vs → j < s.length → (f s vs)[j]? = some none) ∧ (j ∉ vs → (f s vs)[j]? = s[j]?) ∧ (f s vs).length = s.length
  | [] => ⟨by simp, fun _ => by rw [h0], by rw [h0]⟩
  | v :: vs => by
    obtain ⟨a, b, l⟩ := wipe_at f h0 h1 s j vs
    rw [h1]
    refine ⟨fun hj lt => ?_, fun hj => ?_, by rw [List.length_set]; exact l⟩
    · by_cases e : v = j
      · subst e; rw [List.getElem?_set_self (by omega)]
      · rw [List.getElem?_set_ne e]
        exact a ((List.mem_cons.mp hj).resolve_left (fun z => e z.symm)) lt
    · rw [List.getElem?_set_ne (fun z => hj (by rw [z]; exact List.mem_cons_self))]
      exact b (fun z => hj (List.mem_cons_of_mem _ z))
theorem wipeS_at (s : S) (j : Nat) (vs : List Nat) : (j ∈ vs → j < s.length → (wipeS s vs)[j]? = some none) ∧ (j ∉ vs → (wipeS s vs)[j]? = s[j]?) :=
  let h := wipe_at wipeS (fun _ => rfl) (fun _ _ _ => rfl) s j vs; ⟨h.1, h.2.1⟩
theorem wipeV_at (s : St) (j : Nat) (vs : List Nat) : (j ∈ vs → j < s.length → (wipe s vs)[j]? = some none) ∧ (j ∉ vs → (wipe s vs)[j]? = s[j]?) :=
  let h := wipe_at wipe (fun _ => rfl) (fun _ _ _ => rfl) s j vs; ⟨h.1, h.2.1⟩
theorem restore_at (t s : S) (j : Nat) : ∀ vs, (j ∈ vs → j < t.length → (restore t s vs)[j]? = some (s[j]?.getD none)) ∧ (j ∉ vs → (restore t s vs)[j]? = t[j]?)
  | [] => ⟨by simp, fun _ => rfl⟩
  | v :: vs => by
    obtain ⟨a, b⟩ := restore_at t s j vs
    unfold restore
    refine ⟨fun hj lt => ?_, fun hj => ?_⟩
    · by_cases e : v = j
      · subst e; rw [List.getElem?_set_self (by rw [restore_length]; exact lt)]
      · rw [List.getElem?_set_ne e]
        exact a ((List.mem_cons.mp hj).resolve_left (fun z => e z.symm)) lt
    · rw [List.getElem?_set_ne (fun z => hj (by rw [z]; exact List.mem_cons_self))]
      exact b (fun z => hj (List.mem_cons_of_mem _ z))
theorem wipe_eq {σ τ : St} {vs : List Nat} (l : σ.length = τ.length) (h : ∀ j, j ∉ vs → σ[j]? = τ[j]?) : wipe σ vs = wipe τ vs := by
  apply List.ext_getElem?
  intro j
  by_cases hj : j ∈ vs
  · by_cases lt : j < τ.length
    · rw [(wipeV_at σ j vs).1 hj (by omega), (wipeV_at τ j vs).1 hj lt]
    · rw [List.getElem?_eq_none (by rw [wipe_length]; omega), List.getElem?_eq_none (by rw [wipe_length]; omega)]
  · rw [(wipeV_at σ j vs).2 hj, (wipeV_at τ j vs).2 hj, h j hj]
theorem plain_not {s : S} {v : Nat} (h : plainAt s v = true) : ∀ o, s[v]? ≠ some (some (.own o)) ∧ s[v]? ≠ some (some (.bor o)) := fun o => by
  unfold plainAt at h
  refine ⟨fun z => ?_, fun z => ?_⟩
  · rw [z] at h; cases h
  · rw [z] at h; cases h
def cloop (vs : List Nat) (g : MG) (tt : MB) (te : MD) : List D → S → Out (List D)
  | [], s => .ok [] s
  | d :: ds, s => match g d s with
    | none => .bad
    | some s1 => match tt s1 with
      | .ok true s2 => match te s2 with
        | .ok y s3 => if vs.all (plainAt s3) = true then match cloop vs g tt te ds (wipeS s3 vs) with
          | .ok ys s4 => .ok (y :: ys) s4
          | _ => .bad
          else .bad
        | _ => .bad
      | .ok false s2 => if vs.all (plainAt s2) = true then cloop vs g tt te ds (wipeS s2 vs) else .bad
      | _ => .bad
def compOut (vs : List Nat) (g : MG) (tt : MB) (te : MD) (ds : List D) (s1 : S) : Out Sl :=
  if vs.all (plainAt s1) = true then match cloop vs g tt te ds (wipeS s1 vs) with
    | .ok zs t => if fits zs.length = true then .ok (.own (.lst zs)) (restore t s1 vs) else .bad
    | _ => .bad
  else .bad
def mComp (vs : List Nat) (mi : MI) (g : MG) (tt : MB) (te : MD) : MO := fun s => (mi s).bind fun ds s1 => compOut vs g tt te ds s1
abbrev STs (hox : Option Addr) (X : Cx) (W : WX) (ifs : List Expr) (m : MB) : Prop := PTs X ifs (tB hox X.K X.mg W m)
def bYes : MB := fun s => .ok true s
abbrev W0 : WX := fun _ _ _ _ => False
theorem PTs.imp {X : Cx} {e : List Expr} {t t' : TT} (h : PTs X e t) (i : ∀ σ H Q, t' σ H Q → t σ H Q) : PTs X e t' := ⟨fun pins s σ H Q I q => h.run pins s σ H Q I (i σ H Q q)⟩
section
variable {X : Cx} {W : WX}
theorem sts_nil : STs hox X W [] bYes := PTs.imp pts_nil fun σ H Q ⟨c, s, st, q⟩ => q H (.refl st)
theorem sts_one {e : Expr} {m : MB} (h : SB hox X W e m) : STs hox X W [e] m := pts_one h
/-- the slots of the block's own names -/
theorem StR.wiped {K : PySem.W.Frag} {mg : Str → Option Value} {H : Hp} {c : Ct} {s : S} {σ : St} {vs : List Nat} (x : StR hox K mg c s σ H) (h : vs.all (plainAt s) = true) :
    StR hox K mg c (wipeS s vs) (wipe σ vs) H ∧ (∀ b, hs c (wipeS s vs) (wipe σ vs) b ↔ hs c s σ b) := by
  refine x.swap (wipeS_length s vs) (wipe_length σ vs) fun j => ?_
  by_cases hj : j ∈ vs
  · by_cases lt : j < s.length
    · exact .inr ⟨plain_not (List.all_eq_true.mp h j hj), .inl ((wipeS_at s j vs).1 hj lt)⟩
    · refine .inl ⟨?_, ?_⟩
      · rw [List.getElem?_eq_none (by rw [wipeS_length]; omega), List.getElem?_eq_none (by omega)]
      · have := x.len
        rw [List.getElem?_eq_none (by rw [wipe_length]; omega), List.getElem?_eq_none (by omega)]
  · exact .inl ⟨(wipeS_at s j vs).2 hj, (wipeV_at σ j vs).2 hj⟩
theorem StR.unwiped {K : PySem.W.Frag} {mg : Str → Option Value} {H H1 : Hp} {c c1 : Ct} {s t : S} {σ : St} {vs : List Nat} (x : StR hox K mg c t (wipe σ vs) H) (y : StR hox K mg c1 s σ H1) (l : Le (vis c1 s σ H1) (vis c t (wipe σ vs) H)) (h : vs.all (plainAt s) = true)
    (h2 : vs.all (plainAt t) = true) : StR hox K mg c (restore t s vs) σ H ∧ (∀ b, hs c (restore t s vs) σ b ↔ hs c t (wipe σ vs) b) := by
  have hlen : σ.length = t.length := by have := x.len; rw [wipe_length] at this; exact this
  refine x.swap (restore_length t s vs) (by rw [wipe_length]) fun j => ?_
  by_cases hj : j ∈ vs
  · by_cases lt : j < t.length
    · refine .inr ⟨plain_not (List.all_eq_true.mp h2 j hj), ?_⟩
      have e := (restore_at t s j vs).1 hj lt
      have p := List.all_eq_true.mp h j hj
      unfold plainAt at p
      cases e1 : s[j]? with
      | none => rw [e1] at p; cases p
      | some w =>
        cases w with
        | none => rw [e1] at e; exact .inl e
        | some w =>
          cases w with
          | val d =>
            rw [e1] at e
            obtain ⟨v, a1, r⟩ := y.val j d e1
            exact .inr ⟨d, v, e, a1, r.mono l⟩
          | own o => rw [e1] at p; cases p
          | bor o => rw [e1] at p; cases p
    · refine .inl ⟨?_, ?_⟩
      · rw [List.getElem?_eq_none (by rw [restore_length]; omega), List.getElem?_eq_none (by omega)]
      · rw [List.getElem?_eq_none (by omega), List.getElem?_eq_none (by rw [wipe_length]; omega)]
  · exact .inl ⟨(restore_at t s j vs).2 hj, ((wipeV_at σ j vs).2 hj).symm⟩
theorem wiped_plain {vs : List Nat} {u : S} (hu : vs.all (plainAt u) = true) : vs.all (plainAt (wipeS u vs)) = true := List.all_eq_true.mpr fun j hj => by
  have p := List.all_eq_true.mp hu j hj
  have lt : j < u.length := by
    unfold plainAt at p
    cases e : u[j]? with
    | none => rw [e] at p; cases p
    | some w => exact (List.getElem?_eq_some_iff.mp e).1
  unfold plainAt
  rw [(wipeS_at u j vs).1 hj lt]
theorem Le.hsub {H : Hp} {h h' : Addr → Prop} (e : ∀ b, h' b → h b) : Le (hid h H) (hid h' H) := hid_le fun b o n q => ⟨fun z => n (e b z), q⟩
theorem lc_imp {K : PySem.W.Frag} {mg : Str → Option Value} {vs js : List Nat} {mi : MI} {g : MG} {tt : MB} {te : MD} {σ : St} {H : Hp} {Q : VK} (hj : ∀ j ∈ js, j ∈ vs) (hh : tO hox K mg W (mComp vs mi g tt te) σ H Q) :
    tLc (tI hox K mg W mi) (tG hox K mg js g) (tB hox K mg W0 tt) (tD hox K mg W0 te) vs σ H Q := by
  obtain ⟨c, s, st, q⟩ := hh
  refine ⟨c, s, st, ?_⟩
  have q : Res hox K mg c s σ H W (fun ds s1 H1 => ResO hox K mg W c s1 σ H1 Q (compOut vs g tt te ds s1)) (mi s) := by
    unfold mComp at q
    cases e1 : mi s with
    | ok ds s1 =>
      rw [e1] at q
      intro H1 g1
      have q : ResO hox K mg W c s σ H Q (compOut vs g tt te ds s1) := q
      cases e2 : compOut vs g tt te ds s1 with
      | ok r s2 => rw [e2] at q; exact fun v H' g' => q v H' (g'.pre g1)
      | exc y s2 => rw [e2] at q; exact fun cls dd H' g' => q cls dd H' (g1.trans g')
      | bad => rw [e2] at q; exact q
    | exc y s1 => rw [e1] at q; exact q
    | bad => rw [e1] at q; exact q
  refine q.imp fun ds s1 H1 g1 q1 J hJ D nD => ?_
  have st1 := g1.1
  unfold compOut at q1
  by_cases f : vs.all (plainAt s1) = true
  · rw [if_pos f] at q1
    cases e1 : cloop vs g tt te ds (wipeS s1 vs) with
    | ok ZS T =>
      simp only [e1] at q1
      by_cases fz : fits ZS.length = true
      · rw [if_pos fz] at q1
        obtain ⟨stA, lA, nA⟩ := st1.alloc (ho := .lst []) nD
        obtain ⟨stW, hW⟩ := stA.wiped f
        have lW : Le (vis (c.ext D (.lst [])) s1 σ (upd H1 D (.lst []))) (vis (c.ext D (.lst [])) (wipeS s1 vs) (wipe σ vs) (upd H1 D (.lst []))) := Le.hsub fun b z => (hW b).mp z
        have nW : ¬ hs c (wipeS s1 vs) (wipe σ vs) D := fun z => nA (by
          rcases z with z | z | ⟨j, o, q, e1, e2, f⟩
          · exact .inl z
          · exact .inr (.inl z)
          · by_cases hj : j ∈ vs
            · by_cases lt : j < s1.length
              · rw [(wipeS_at s1 j vs).1 hj lt] at e1; cases e1
              · rw [List.getElem?_eq_none (by rw [wipeS_length]; omega)] at e1; cases e1
            · rw [(wipeS_at s1 j vs).2 hj] at e1
              rw [(wipeV_at σ j vs).2 hj] at e2
              exact .inr (.inr ⟨j, o, q, e1, e2, f⟩))
        refine ⟨fun i m H' => m = ds.length - i ∧ i ≤ ds.length ∧ ∃ t acc xs, StR hox K mg (c.ext D (.lst xs)) t (wipe σ vs) H' ∧ ¬ hs c t (wipe σ vs) D ∧ Le (vis c s1 σ H1) (vis (c.ext D (.lst xs)) t (wipe σ vs) H') ∧ RepL K mg (vis (c.ext D (.lst xs)) t (wipe σ vs) H') xs acc ∧
          ∃ zs, cloop vs g tt te (ds.drop i) t = .ok zs T ∧ acc ++ zs = ZS ∧ vs.all (plainAt t) = true,
          ⟨ds.length, by simp, Nat.zero_le _, wipeS s1 vs, [], [], stW, nW, lA.trans lW, .nil, ZS, e1, rfl, wiped_plain f⟩, ?_⟩
        rintro i m H2 ⟨rfl, hi, t, acc, xs, st2, n2, l2, rL, zs, ec, ea, pt⟩
        by_cases hlt : i < ds.length
        · refine .inr ?_
          have hd : ds[i]? = some ds[i] := List.getElem?_eq_getElem hlt
          obtain ⟨go, yld⟩ := hJ.1 i ds[i] _ H2 hd (fun p h => st2.hidden h) l2
          have ed : ds.drop i = ds[i] :: ds.drop (i + 1) := by rw [List.drop_eq_getElem_cons hlt]
          rw [ed] at ec
          refine ⟨go, fun H' => ∃ t acc xs, StR hox K mg (c.ext D (.lst xs)) t (wipe σ vs) H' ∧ ¬ hs c t (wipe σ vs) D ∧ Le (vis c s1 σ H1) (vis (c.ext D (.lst xs)) t (wipe σ vs) H') ∧ RepL K mg (vis (c.ext D (.lst xs)) t (wipe σ vs) H') xs acc ∧
            ∃ zs, cloop vs g tt te (ds.drop (i + 1)) t = .ok zs T ∧ acc ++ zs = ZS ∧ vs.all (plainAt t) = true, fun H' h => ⟨ds.length - (i + 1), by omega, rfl, hlt, h⟩, fun x H' y => ?_⟩
          obtain ⟨sm, rx⟩ := yld x H' y
          have gy := Go.grow st2 sm
          refine ⟨c.ext D (.lst xs), t, ds[i], gy.1, rx, ?_⟩
          unfold cloop at ec
          cases e2 : g ds[i] t with
          | none => simp only [e2] at ec; cases ec
          | some s3 =>
            simp only [e2] at ec
            refine ⟨s3, rfl, fun σ3 H3 g3 l3 k3 => ?_⟩
            have w3 : wipe σ3 vs = wipe σ vs := by
              rw [wipe_eq (τ := wipe σ vs) (vs := vs) l3 fun j hjv => k3 j fun z => hjv (hj j z)]
              exact wipe_eq (by rw [wipe_length]) fun j hjv => (wipeV_at σ j vs).2 hjv
            refine ⟨?_, c.ext D (.lst xs), s3, g3.1, ?_⟩
            · exact w3
            have gg := gy.trans g3
            -- the turn's end: the slots of the block forgotten
            have fin : ∀ {s5 : S} {H5 : Hp} {ys : List V} {as : List Den.D} {zs : List Den.D}, StR hox K mg (c.ext D (.lst ys)) s5 σ3 H5 → Le (vis (c.ext D (.lst xs)) t (wipe σ vs) H2) (vis (c.ext D (.lst ys)) s5 σ3 H5) → RepL K mg (vis (c.ext D (.lst ys)) s5 σ3 H5) ys as → vs.all (plainAt s5) = true →
                cloop vs g tt te (ds.drop (i + 1)) (wipeS s5 vs) = .ok zs T → as ++ zs = ZS → ∃ t acc xs, StR hox K mg (c.ext D (.lst xs)) t (wipe σ vs) H5 ∧ ¬ hs c t (wipe σ vs) D ∧ Le (vis c s1 σ H1) (vis (c.ext D (.lst xs)) t (wipe σ vs) H5) ∧ RepL K mg (vis (c.ext D (.lst xs)) t (wipe σ vs) H5) xs acc ∧
                ∃ zs, cloop vs g tt te (ds.drop (i + 1)) t = .ok zs T ∧ acc ++ zs = ZS ∧ vs.all (plainAt t) = true := by
              intro s5 H5 ys as zs st5 l5 r5 p5 c5 e5
              obtain ⟨st6, h6⟩ := st5.wiped p5
              rw [w3] at st6 h6
              have l6 : Le (vis (c.ext D (.lst ys)) s5 σ3 H5) (vis (c.ext D (.lst ys)) (wipeS s5 vs) (wipe σ vs) H5) := Le.hsub fun b z => (h6 b).mp z
              refine ⟨wipeS s5 vs, as, ys, st6, fun z => ?_, l2.trans (l5.trans l6), r5.mono l6, zs, c5, e5, wiped_plain p5⟩
              obtain ⟨_, b2, _, b4⟩ := st6.tmp D _ (.inr ⟨rfl, rfl⟩)
              rcases z with z | z | ⟨j, o, q, a1, a2, f⟩
              · exact b2 z
              · exact n2 (.inr (.inl z))
              · exact b4 j o q a1 a2 f
            cases e3 : tt s3 with
            | ok b s4 =>
              intro H4 g4
              have gg4 := gg.trans g4
              cases b with
              | true =>
                simp only [e3] at ec
                show if true = true then _ else _
                rw [if_pos rfl]
                refine ⟨c.ext D (.lst xs), s4, g4.1, ?_⟩
                cases e4 : te s4 with
                | ok y s5 =>
                  intro H5 g5 v rv
                  simp only [e4] at ec
                  by_cases f5 : vs.all (plainAt s5) = true
                  · rw [if_pos f5] at ec
                    have gg5 := gg4.trans g5
                    obtain ⟨b1, b2, b3, b4⟩ := g5.1.tmp D _ (.inr ⟨rfl, rfl⟩)
                    cases e5 : cloop vs g tt te (ds.drop (i + 1)) (wipeS s5 vs) with
                    | ok ys s6 =>
                      simp only [e5] at ec
                      cases ec
                      have n5 : ¬ hs c s5 σ3 D := fun z => by
                        rcases z with z | z | ⟨j, o, q, a1, a2, f⟩
                        · exact b2 z
                        · exact n2 (.inr (.inl z))
                        · exact b4 j o q a1 a2 f
                      obtain ⟨st7, l7⟩ := StR.writeT (ho' := .lst (xs ++ [v])) n5 g5.1
                      have lz : xs.length < sizeLine := by
                        have h1 := rL.length
                        have h2 : ZS.length ≤ sizeLine := fits_le fz
                        rw [← ea, List.length_append, List.length_cons] at h2
                        omega
                      refine ⟨xs, b3, lz, fin st7 (gg5.2.trans l7) ((rL.mono (gg5.2.trans l7)).append (.cons (rv.mono l7) .nil)) f5 e5 ?_⟩
                      rw [List.append_assoc]
                      exact ea
                    | exc x s6 => simp only [e5] at ec; cases ec
                    | bad => simp only [e5] at ec; cases ec
                  · rw [if_neg f5] at ec; cases ec
                | exc x s5 => simp only [e4] at ec; cases ec
                | bad => simp only [e4] at ec; cases ec
              | false =>
                simp only [e3] at ec
                show if false = true then _ else _
                rw [if_neg Bool.false_ne_true]
                by_cases f5 : vs.all (plainAt s4) = true
                · rw [if_pos f5] at ec
                  exact fin g4.1 gg4.2 (rL.mono gg4.2) f5 ec ea
                · rw [if_neg f5] at ec; cases ec
            | exc x s4 => simp only [e3] at ec; cases ec
            | bad => simp only [e3] at ec; cases ec
        · have e : i = ds.length := by omega
          subst e
          rw [List.drop_length] at ec
          unfold cloop at ec
          cases ec
          refine .inl ⟨hJ.2 _ H2 l2, ?_⟩
          obtain ⟨st3, h3⟩ := st2.unwiped st1 l2 f pt
          have l3 : Le (vis (c.ext D (.lst xs)) T (wipe σ vs) H2) (vis (c.ext D (.lst xs)) (restore T s1 vs) σ H2) := Le.hsub fun b z => (h3 b).mp z
          obtain ⟨b1, b2, b3, b4⟩ := st3.tmp D _ (.inr ⟨rfl, rfl⟩)
          rw [List.append_nil] at ea
          subst ea
          refine q1 _ H2 ⟨D, .lst xs, rfl, rfl, fun z => ?_, st3, l2.trans l3, xs, b3, rL.mono l3⟩
          rcases z with z | z | ⟨j, o, q, a1, a2, f⟩
          · exact b2 z
          · exact n2 (.inr (.inl z))
          · exact b4 j o q a1 a2 f
      · rw [if_neg fz] at q1; exact q1.elim
    | exc x t => simp only [e1] at q1; exact q1.elim
    | bad => simp only [e1] at q1; exact q1.elim
  · rw [if_neg f] at q1; exact q1.elim
theorem so_lc {elt tg iter : Expr} {ifs : List Expr} {scope : Scope} {pos : Pos} {js : List Nat} {mi : MI} {g : MG} {tt : MB} {te : MD} (own : List (Str × Nat)) (hc : X.calm = true) (hN : X.N.Nodup) (hi : SI hox X W tg iter mi) (ok : BlkOk X.N X.env.scope scope own)
    (hg : ∀ (s : Shared) (H : Hp) (C : Addr) (cl : List (Str × Addr)) (fp : List Addr), SG hox (X.blk s H scope (compEnvC scope cl C X.env) fp) js tg g)
    (ht : ∀ (s : Shared) (H : Hp) (C : Addr) (cl : List (Str × Addr)) (fp : List Addr), STs hox (X.blk s H scope (compEnvC scope cl C X.env) fp) W0 ifs tt)
    (he : ∀ (s : Shared) (H : Hp) (C : Addr) (cl : List (Str × Addr)) (fp : List Addr), SD hox (X.blk s H scope (compEnvC scope cl C X.env) fp) W0 elt te) (hj : ∀ j ∈ js, j ∈ own.map (·.2) := by decide) (hs : ∀ x, foldedSetIterable iter X.env x = pure x := by intro _; rfl) :
    SO hox X W (.ListComp elt [⟨tg, iter, ifs, 0⟩] scope pos) (mComp (own.map (·.2)) mi g tt te) :=
  PE.imp (pe_lc hc hN hi ok hg ht he hs) fun σ H Q h => lc_imp hj h
/-- y = [..] -/
theorem ss_setLc (i : Nat) {y : Str} {py spos : Pos} {elt tg iter : Expr} {ifs : List Expr} {scope : Scope} {pos : Pos} {js : List Nat} {mi : MI} {g : MG} {tt : MB} {te : MD} (own : List (Str × Nat)) (hc : X.calm = true) (hN : X.N.Nodup)
    (hsw : swapsWith (.ListComp elt [⟨tg, iter, ifs, 0⟩] scope pos) (some (.Name y py)) spos.line X.env = pure true) (hi : SI hox X W tg iter mi) (ok : BlkOk X.N X.env.scope scope own)
    (hg : ∀ (s : Shared) (H : Hp) (C : Addr) (cl : List (Str × Addr)) (fp : List Addr), SG hox (X.blk s H scope (compEnvC scope cl C X.env) fp) js tg g)
    (ht : ∀ (s : Shared) (H : Hp) (C : Addr) (cl : List (Str × Addr)) (fp : List Addr), STs hox (X.blk s H scope (compEnvC scope cl C X.env) fp) W0 ifs tt)
    (he : ∀ (s : Shared) (H : Hp) (C : Addr) (cl : List (Str × Addr)) (fp : List Addr), SD hox (X.blk s H scope (compEnvC scope cl C X.env) fp) W0 elt te) (hj : ∀ j ∈ js, j ∈ own.map (·.2) := by decide) (hy : X.N[i]? = some y := by rfl) (hyl : X.env.scope.names.lookup y = some .local := by rfl) (hs : ∀ x, foldedSetIterable iter X.env x = pure x := by intro _; rfl) :
    SS hox X W (.Assign [.Name y py] (.ListComp elt [⟨tg, iter, ifs, 0⟩] scope pos) spos) (mSet i (mComp (own.map (·.2)) mi g tt te)) :=
  PS.imp (ps_setLc hc hN hy hyl hsw hi ok hg ht he hs) fun D σ H ⟨c, s, st, q⟩ => by
    show tLc _ _ _ _ _ σ H fun x H1 => D.nx (σ.set i (some x)) H1
    exact lc_imp hj ⟨c, s, st, (ResS.splitO q).imp fun v H1 ⟨r, s1, e1, g, q1⟩ => put_ok g q1⟩
end
end Den

set_option Elab.async false
set_option linter.all false
set_option maxRecDepth 100000
set_option maxHeartbeats 4000000
/-! enumerate of a tuple -/
namespace PySem
open Sem (wp)
theorem den_enum_new {v : Value} {o : Obj} {H : Heap → Prop} (B : Begins v o H) :
    Meets (Builtin.«enumerate.__new__» ⟨[.type "enumerate", v], []⟩) (fun _ R s => H s.heap ∧
      R (.ok (.ret (.ref (s.heap.push o).objs.size))) { s with heap := (s.heap.push o).push { cls := .type "enumerate", data := .fields #[.none, .bool false, .ref s.heap.objs.size, rawInt 0, .none, .none] } }) :=
  .of_wp fun prog w A R s h => by
    obtain ⟨hp, g, d, tk, os⟩ := s; obtain ⟨h1, h⟩ := h
    have hsub := sub_enumerate
    have q1 : ∀ {A' : Around} {E : Value → Shared → Prop} {Q : Value → Shared → Prop}, Q (.ref hp.objs.size) ⟨hp.push o, g, d, tk, os⟩ → wpAny (model prog w) A' (pyIter v) Q E ⟨hp, g, d, tk, os⟩ :=
      fun q => B.iter prog w _ _ ⟨hp, g, d, tk, os⟩ _ h1 q
    wp_walk using q1
    refine wpAny_stack_any fun st => wpAny_pure ?_
    split
    · rename_i c _ _ _ _ _
      cases (c == Value.type "enumerate")
      · wp_walk using q1
        exact ⟨_, rfl, h⟩
      · wp_walk using q1
        exact ⟨_, rfl, h⟩
    · wp_walk using q1
      exact ⟨_, rfl, h⟩
theorem den_enum_call {prog : Program} {w : World} {A : Around} {E : Value → Shared → Prop} {s : Shared} {v : Value} {o : Obj} {H : Heap → Prop} {Q : Value → Shared → Prop} (B : Begins v o H) (h1 : H s.heap)
    (h : ∀ h', IsEnum h' (s.heap.objs.size + 1) s.heap.objs.size 0 .none → h'.get? s.heap.objs.size = some o → h'.objs.size = s.heap.objs.size + 2 →
      (∀ b o, s.heap.get? b = some o → h'.get? b = some o) → Q (.ref (s.heap.objs.size + 1)) { s with heap := h' }) :
    wpAny (model prog w) A (call (.type "enumerate") [v]) Q E s := by
  refine callType_new F.called_enumerate (by decide) (F.typeCall_enumerate_1 _) (F.newCall_enumerate_1 _) (fun obj => F.args_object_init_2 obj _) F.entry_enumerate_new
    (den_enum_new B) ⟨h1, ?_⟩
  have hz : (s.heap.push o).objs.size = s.heap.objs.size + 1 := Heap.size_push ..
  show _ ∧ _
  rw [hz]
  have he : IsEnum ((s.heap.push o).push { cls := .type "enumerate", data := .fields #[.none, .bool false, .ref s.heap.objs.size, rawInt 0, .none, .none] }) (s.heap.objs.size + 1) s.heap.objs.size 0 .none := by
    have := Heap.get?_push_size (s.heap.push o) (o := { cls := .type "enumerate", data := .fields #[.none, .bool false, .ref s.heap.objs.size, rawInt 0, .none, .none] }) rfl
    rw [hz] at this; exact this
  refine ⟨⟨_, he, rfl⟩, h _ he (Heap.get?_push_of_some _ (Heap.get?_push_size _ B.free)) (by rw [Heap.size_push, hz]) fun b o x => Heap.get?_push_of_some _ (Heap.get?_push_of_some _ x)⟩
end PySem
namespace Den
variable {hox : Option Addr}
open PySem PySem.Spec PyProof.Rows L2

def IteT (K : PySem.W.Frag) (a : Addr) : It :=
  ⟨fun i H => ∃ (xs : List V) (x : V), SqT K H a xs ∧ xs[i]? = some x, fun i H v H' => ∃ T x, v = .ref T ∧ H T = none ∧ H' = upd H T (.tup [.int (i : Nat), x]) ∧ ∀ xs, SqT K H a xs → xs[i]? = some x, fun i H => ∃ xs : List V, SqT K H a xs ∧ xs.length ≤ i⟩
theorem turn_enumT {P : Program} {w : World} {K : PySem.W.Frag} {elts : List Expr} {kk : Nat} {tpos : Pos} (a e it : Addr) :
    Turn P w K (.Tuple elts kk tpos) (IteT K a) [e, it] e (fun i h => (∃ old, IsEnum h e it ((i : Nat) : Int) old) ∧ h.IsTupleIter it a i ∧ e ≠ it) where
  mem := by simp
  obj := fun i h st b hb => by
    obtain ⟨⟨old, he⟩, ⟨o, ho, hc, hd⟩, _⟩ := st
    have e' : b = e ∨ b = it := by simpa using hb
    rcases e' with z | z
    · rw [z]; exact ⟨_, he, fun v q => nomatch q⟩
    · rw [z]; exact ⟨o, ho, fun v q => by rw [hd] at q; cases q⟩
  keep := fun i h h' st k => let ⟨⟨old, he⟩, hi, hne⟩ := st; ⟨⟨old, k e (by simp) _ he⟩, hi.at fun o q => k it (by simp) o q, hne⟩
  item := by
    intro X hP hw hK hc i pins s σ H E I hf st hg
    subst hP hw hK
    obtain ⟨⟨old, he⟩, hit, hne⟩ := st
    obtain ⟨xs, x, hq, hx⟩ := hg
    obtain ⟨its, rv, p, hz⟩ := I.tuple hq
    obtain ⟨u, hu, ru⟩ := rv.get hx
    have hel : e < s.heap.objs.size := Heap.lt_size he
    have hil : it < s.heap.objs.size := by obtain ⟨_, q, _⟩ := hit; exact Heap.lt_size q
    have hT : s.heap.IsTuple a its.toArray := p
    have nta : a ≠ it := fun z => by
      obtain ⟨o1, e1, c1, _⟩ := hit
      obtain ⟨o2, e2, c2, _⟩ := hT
      rw [z, e1] at e2; cases e2
      rw [c1] at c2
      exact absurd c2 (by decide)
    have nea : a ≠ e := fun z => by
      obtain ⟨o2, e2, c2, _⟩ := hT
      rw [z, he] at e2; cases e2
      have c3 : Value.type "enumerate" = Value.type "tuple" := c2
      exact absurd c3 (by decide)
    have D := Draws.tuple (prog := X.prog) (w := X.w) (A := X.A.in1) (by exact I.ok.hd hc) it a nta its.toArray
    have hlt : i < its.toArray.size := by
      have := (List.getElem?_eq_some_iff.mp hu).1
      simpa using this
    refine wpAny_pyNext_enum_itemD D he ⟨hit, hT⟩ hlt hne (by simp [hne, Ne.symm nea]) fun x' h' tk hx' ho hst' hTT hsz hk => ?_
    have ex : x' = u := by
      have h1 : its.toArray[i]? = some x' := hx'
      have h2 : its.toArray[i]? = some u := by simpa using hu
      rw [h1] at h2; exact Option.some.inj h2
    subst ex
    refine ⟨_, rfl, wpAny_letOwnedTupleGo_enum (s := { s with heap := h', toks := tk + 1 }) ho fun h'' he' sb => ?_⟩
    have hT2 : h''.get? s.heap.objs.size = some { cls := .type "tuple", data := .seq #[.int i tk, x'] } := (sb.2 _ (Nat.ne_of_gt hel)).trans hTT
    have new : ObjOk X.prog X.w (upd H s.heap.objs.size (.tup [.int (i : Nat), x])) h'' s.heap.objs.size (.tup [.int (i : Nat), x]) :=
      ⟨by show 2 ≤ sizeLine; decide, [.int i tk, x'], .cons ⟨_, rfl⟩ (.cons ru .nil), ⟨_, hT2, rfl, _, rfl⟩⟩
    have I1 : Inv X pins σ (upd H s.heap.objs.size (.tup [.int (i : Nat), x])) { s with heap := h'', toks := tk + 1 } :=
      I.turnedNew (ch := [e, it]) (fun b ob hb q => (sb.2 b (fun z => hb (by simp [z]))).trans (hk b ob (fun z => hb (by simp [z])) (fun z => hb (by simp [z])) q)) hf (Nat.le_refl _) new
    refine ⟨.ref s.heap.objs.size, _, I1, rfl, ⟨_, x, rfl, I.hok.fresh (Nat.le_refl _), rfl, fun ys hy => by rw [I.tuple_inj hy hq]; exact hx⟩, ⟨⟨x', ?_⟩, hst'.1.at fun o q => (sb.2 it (Ne.symm hne)).trans q, hne⟩, fun b hb => ?_⟩
    · have e1 : ((i + 1 : Nat) : Int) = (i : Int) + 1 := by omega
      rw [e1]; exact he'
    · have hb' : b < s.heap.objs.size := by
        have e' : b = e ∨ b = it := by simpa using hb
        rcases e' with z | z
        · rw [z]; exact hel
        · rw [z]; exact hil
      rw [upd_ne (Nat.ne_of_lt hb')]
      exact (hf b hb).1
  done := by
    intro X hP hw hK hc i pins s σ H E I hf st hg
    subst hP hw hK
    obtain ⟨⟨old, he⟩, hit, hne⟩ := st
    obtain ⟨xs, hq, hx⟩ := hg
    obtain ⟨its, rv, p, hz⟩ := I.tuple hq
    obtain ⟨f0, f1, f2, f3, f4, f5⟩ := hf it (by simp)
    have hl := rv.length
    have hT : s.heap.IsTuple a its.toArray := p
    have hT' : s.TypeIs (.ref e) "enumerate" := ⟨_, he, rfl⟩
    unfold pyNext
    refine wpAny_bind (wpAny_attempt (wpAny_callSpecial?_slot (name := Str.ofString "__next__") hT' F.slot_enumerate_next
      (wpAny_call_entry F.slot_enumerate_next hT' F.entry_enumerate_next ?_ (F.args_enumerate_next_1 _))))
    show wpAny _ _ (field (.ref e) 2 >>= _) _ _ _
    refine wpAny_bind (wpAny_field he rfl (x := .ref it) rfl ?_)
    refine wpAny_bind (RZ.nextOf_tuple_end (by exact I.ok.hd hc) hit hT (by simp; omega) fun h' x he' hx' => ?_)
    obtain ⟨o, ho, hc'⟩ := hx'
    refine wpAny_bind (wpAny_isInstance (T := "StopIteration") (b := true) ⟨o, ho, hc'⟩ isSubtype_stop ?_)
    exact wpAny_pure ⟨rfl, I.turned (t' := s.toks) (fun b o hb q => he' b o hb q) f0 f1 f3 f4 f5⟩
  self := fun A i s Q E st h => let ⟨⟨_, he⟩, _⟩ := st; wpAny_pyIter_enum he h
end Den

set_option Elab.async false
set_option linter.all false
set_option maxRecDepth 100000
set_option maxHeartbeats 4000000
namespace Den
variable {hox : Option Addr}
open PySem PySem.Spec PyProof.Rows L2

/-! ### what a for walks -/
def iSeq (m : MD) : MI := fun s => (m s).bind fun d s1 => match d.items with
  | some ds => .ok ds s1
  | none => .bad
def i62 (j : Int) : Bool := decide (-(2 ^ 62) ≤ j) && decide (j < 2 ^ 62)
def rngD (i : Int) (n : Nat) : List D := (List.range n).map fun k => .int (i + (k : Nat))
def iR1 (ml : ML) : MI := fun s => (ml s).bind fun ds s1 => match ds with
  | [.int j] => if i62 j = true then .ok (rngD 0 j.toNat) s1 else .bad
  | _ => .bad
def iR2 (ml : ML) : MI := fun s => (ml s).bind fun ds s1 => match ds with
  | [.int i, .int j] => if (i62 i && i62 j) = true then .ok (rngD i (j - i).toNat) s1 else .bad
  | _ => .bad
def enumD : Nat → List D → List D
  | _, [] => []
  | i, d :: ds => .tup [.int (i : Nat), d] :: enumD (i + 1) ds
theorem enumD_get : ∀ (ds : List D) (k i : Nat) (d : D), (enumD k ds)[i]? = some d → ∃ x, ds[i]? = some x ∧ d = .tup [.int ((k + i : Nat) : Int), x]
  | [], k, i, d, h => by simp [enumD] at h
  | x :: ds, k, 0, d, h => by
    simp only [enumD, List.getElem?_cons_zero, Option.some.injEq] at h
    exact ⟨x, rfl, h.symm⟩
  | x :: ds, k, i + 1, d, h => by
    simp only [enumD, List.getElem?_cons_succ] at h
    obtain ⟨y, h1, h2⟩ := enumD_get ds (k + 1) i d h
    exact ⟨y, by rw [List.getElem?_cons_succ]; exact h1, by rw [h2, show k + 1 + i = k + (i + 1) by omega]⟩
theorem enumD_length : ∀ (ds : List D) (k : Nat), (enumD k ds).length = ds.length
  | [], _ => rfl
  | _ :: ds, k => by simp only [enumD, List.length_cons, enumD_length ds]
def iEn (ml : ML) : MI := fun s => (ml s).bind fun ds s1 => match ds with
  | [d] => match d.items with
    | some xs => .ok (enumD 0 xs) s1
    | none => .bad
  | _ => .bad
def zipD (xs ys : List D) : List D := List.zipWith (fun x y => .tup [x, y]) xs ys
def iZp (ml : ML) : MI := fun s => (ml s).bind fun ds s1 => match ds with
  | [.tup xs, .tup ys] => .ok (zipD xs ys) s1
  | [.lst xs, .lst ys] => .ok (zipD xs ys) s1
  | _ => .bad
section
variable {K : PySem.W.Frag} {mg : Str → Option Value} {G : Hp}
theorem repL_ints : ∀ ns : List Int, RepL K mg G (ns.map V.int) (ns.map D.int)
  | [] => .nil
  | n :: ns => .cons (.int n) (repL_ints ns)
theorem itOk_l {a : Addr} {xs : List V} {ds : List D} (h : SqL K G a xs) (r : RepL K mg G xs ds) : ItOk K mg (Itl K a) G ds :=
  ⟨fun i d h1 H1 e nh l => by
    obtain ⟨x, e1, rx⟩ := r.get e
    have h2 : SqL K H1 a xs := Le.sqL hid_base (l.sqL h)
    exact ⟨⟨xs, x, h2, e1⟩, fun y H' ⟨eh, f⟩ => by
      subst eh
      rw [f xs h2] at e1; cases e1
      exact ⟨Same.refl _, rx.mono l⟩⟩, fun h1 H1 l => ⟨xs, Le.sqL hid_base (l.sqL h), by rw [r.length]; exact Nat.le_refl _⟩⟩
theorem itOk_t {a : Addr} {xs : List V} {ds : List D} (h : SqT K G a xs) (r : RepL K mg G xs ds) : ItOk K mg (Itt K a) G ds :=
  ⟨fun i d h1 H1 e nh l => by
    obtain ⟨x, e1, rx⟩ := r.get e
    have h2 : SqT K H1 a xs := Le.sqT hid_base (l.sqT h)
    exact ⟨⟨xs, x, h2, e1⟩, fun y H' ⟨eh, f⟩ => by
      subst eh
      rw [f xs h2] at e1; cases e1
      exact ⟨Same.refl _, rx.mono l⟩⟩, fun h1 H1 l => ⟨xs, Le.sqT hid_base (l.sqT h), by rw [r.length]; exact Nat.le_refl _⟩⟩
theorem itOk_r {lo : Int} {n : Nat} : ItOk K mg (Itr lo n) G (rngD lo n) :=
  ⟨fun i d h1 H1 e nh l => by
    unfold rngD at e
    rw [List.getElem?_map] at e
    have hi : i < n := by
      cases z : (List.range n)[i]? with
      | none => rw [z] at e; cases e
      | some k => have := (List.getElem?_eq_some_iff.mp z).1; simpa using this
    rw [List.getElem?_range hi] at e
    cases e
    exact ⟨hi, fun y H' ⟨eh, f⟩ => by subst eh f; exact ⟨Same.refl _, .int _⟩⟩, fun h1 H1 l => by
      show n ≤ _
      unfold rngD
      rw [List.length_map, List.length_range]
      exact Nat.le_refl _⟩
theorem rep_pair {h : Addr → Prop} {H1 : Hp} {T : Addr} {x y : V} {d e : D} (nh : ∀ p, h p → ∃ o, H1 p = some o) (nT : H1 T = none) (r1 : Rep K mg (hid h H1) x d) (r2 : Rep K mg (hid h H1) y e) :
    Same H1 (upd H1 T (.tup [x, y])) ∧ Rep K mg (hid h (upd H1 T (.tup [x, y]))) (.ref T) (.tup [d, e]) := by
  have sm := same_new (ho := .tup [x, y]) nT
  have l : Le (hid h H1) (hid h (upd H1 T (.tup [x, y]))) := hid_le fun b o n e => ⟨n, sm b o e⟩
  have nT2 : ¬ h T := fun z => by
    obtain ⟨o, e⟩ := nh T z
    rw [nT] at e; cases e
  exact ⟨sm, .tup ((hid_no nT2).trans upd_same) (.cons (r1.mono l) (.cons (r2.mono l) .nil))⟩
theorem itOk_el {a : Addr} {xs : List V} {ds : List D} (h : SqL K G a xs) (r : RepL K mg G xs ds) : ItOk K mg (Ite K a) G (enumD 0 ds) :=
  ⟨fun i d h1 H1 e nh l => by
    obtain ⟨d', e', rfl⟩ := enumD_get ds 0 i d e
    obtain ⟨x, e1, rx⟩ := r.get e'
    have h2 : SqL K H1 a xs := Le.sqL hid_base (l.sqL h)
    refine ⟨⟨xs, x, h2, e1⟩, fun y H' ⟨T, z, ey, nT, eh, f⟩ => ?_⟩
    subst ey eh
    rw [f xs h2] at e1; cases e1
    rw [Nat.zero_add]
    exact rep_pair nh nT (.int _) (rx.mono l), fun h1 H1 l => ⟨xs, Le.sqL hid_base (l.sqL h), by rw [r.length, enumD_length]; exact Nat.le_refl _⟩⟩
theorem itOk_et {a : Addr} {xs : List V} {ds : List D} (h : SqT K G a xs) (r : RepL K mg G xs ds) : ItOk K mg (IteT K a) G (enumD 0 ds) :=
  ⟨fun i d h1 H1 e nh l => by
    obtain ⟨d', e', rfl⟩ := enumD_get ds 0 i d e
    obtain ⟨x, e1, rx⟩ := r.get e'
    have h2 : SqT K H1 a xs := Le.sqT hid_base (l.sqT h)
    refine ⟨⟨xs, x, h2, e1⟩, fun y H' ⟨T, z, ey, nT, eh, f⟩ => ?_⟩
    subst ey eh
    rw [f xs h2] at e1; cases e1
    rw [Nat.zero_add]
    exact rep_pair nh nT (.int _) (rx.mono l), fun h1 H1 l => ⟨xs, Le.sqT hid_base (l.sqT h), by rw [r.length, enumD_length]; exact Nat.le_refl _⟩⟩
theorem zipD_get {xs ys : List D} {i : Nat} {d : D} (h : (zipD xs ys)[i]? = some d) : ∃ x y, xs[i]? = some x ∧ ys[i]? = some y ∧ d = .tup [x, y] := by
  unfold zipD at h
  rw [List.getElem?_zipWith] at h
  split at h
  · rename_i x y e1 e2
    cases h
    exact ⟨x, y, e1, e2, rfl⟩
  · cases h
theorem itOk_zt {a b : Addr} {xs ys : List V} {ds es : List D} (h : SqT K G a xs) (r : RepL K mg G xs ds) (h' : SqT K G b ys) (r' : RepL K mg G ys es) : ItOk K mg (RZ.ItzT K a b) G (zipD ds es) :=
  ⟨fun i d h1 H1 e nh l => by
    obtain ⟨d1, d2, e1, e2, rfl⟩ := zipD_get e
    obtain ⟨x, e1, rx⟩ := r.get e1
    obtain ⟨y, e2, ry⟩ := r'.get e2
    have h2 : SqT K H1 a xs := Le.sqT hid_base (l.sqT h)
    have h3 : SqT K H1 b ys := Le.sqT hid_base (l.sqT h')
    refine ⟨⟨xs, ys, x, y, h2, h3, e1, e2⟩, fun v H' ⟨T, z, w, ey, nT, eh, f, f'⟩ => ?_⟩
    subst ey eh
    rw [f xs h2] at e1; cases e1
    rw [f' ys h3] at e2; cases e2
    exact rep_pair nh nT (rx.mono l) (ry.mono l), fun h1 H1 l => ⟨xs, ys, Le.sqT hid_base (l.sqT h), Le.sqT hid_base (l.sqT h'), by
      unfold zipD
      rw [List.length_zipWith, r.length, r'.length]
      omega⟩⟩
theorem itOk_zl {a b : Addr} {xs ys : List V} {ds es : List D} (h : SqL K G a xs) (r : RepL K mg G xs ds) (h' : SqL K G b ys) (r' : RepL K mg G ys es) : ItOk K mg (Itz K a b) G (zipD ds es) :=
  ⟨fun i d h1 H1 e nh l => by
    obtain ⟨d1, d2, e1, e2, rfl⟩ := zipD_get e
    obtain ⟨x, e1, rx⟩ := r.get e1
    obtain ⟨y, e2, ry⟩ := r'.get e2
    have h2 : SqL K H1 a xs := Le.sqL hid_base (l.sqL h)
    have h3 : SqL K H1 b ys := Le.sqL hid_base (l.sqL h')
    refine ⟨⟨xs, ys, x, y, h2, h3, e1, e2⟩, fun v H' ⟨T, z, w, ey, nT, eh, f, f'⟩ => ?_⟩
    subst ey eh
    rw [f xs h2] at e1; cases e1
    rw [f' ys h3] at e2; cases e2
    exact rep_pair nh nT (rx.mono l) (ry.mono l), fun h1 H1 l => ⟨xs, ys, Le.sqL hid_base (l.sqL h), Le.sqL hid_base (l.sqL h'), by
      unfold zipD
      rw [List.length_zipWith, r.length, r'.length]
      omega⟩⟩
end
section
variable {X : Cx} {W : WX} {tg l e e2 : Expr} {m : MD} {ml : ML} {p pos tpos : Pos} {elts : List Expr} {kk : Nat}
theorem si_seq (h : SD hox X W l m) : SI hox X W tg l (iSeq m) := by
  refine ⟨fun pins s σ H R I ⟨c, t, st, q⟩ => ?_⟩
  refine thn (h.run pins s σ H (fun x H1 => ∃ d ds c t, StR hox X.K X.mg c t σ H1 ∧ Rep X.K X.mg (vis c t σ H1) x d ∧ d.items = some ds ∧ ∀ J, ItOk X.K X.mg J (vis c t σ H1) ds → R J H1) I ⟨c, t, st, q.split.imp fun d t1 H1 g1 q1 v r => ?_⟩) fun v s1 ⟨x, H1, I1, r1, q1⟩ => ?_
  · cases e : d.items with
    | none => simp only [e] at q1; exact q1.elim
    | some ds => simp only [e] at q1; exact ⟨d, ds, c, t1, g1.1, r, e, q1 H1 (.refl g1.1)⟩
  · obtain ⟨d, ds, c, t, st1, rd, e, q⟩ := q1
    cases d with
    | lst es =>
      cases e
      obtain ⟨a, xs, rfl, hq, rl⟩ : ∃ a xs, x = .ref a ∧ SqL X.K (vis c t σ H1) a xs ∧ RepL X.K X.mg (vis c t σ H1) xs ds := by cases rd with | lst a b => exact ⟨_, _, rfl, .of a, b⟩
      cases r1
      obtain ⟨its, rv, p, hz⟩ := I1.list (Le.sqL hid_base hq)
      refine wpAny_pyIter_list p.isList ?_
      refine ⟨s1.heap.objs.size, [s1.heap.objs.size], _, _, H1, rfl, I1.kept (t' := s1.toks) fun b o e => Heap.get?_push_of_some _ e, turn_list a _, ⟨_, Heap.get?_push_size _ rfl, rfl, rfl⟩, fun b hb => ?_, q _ (itOk_l hq rl)⟩
      have e : b = s1.heap.objs.size := by simpa using hb
      subst e
      exact I1.fpOk (Nat.le_refl _) (I1.hok.fresh (Nat.le_refl _))
    | scr ns =>
      cases e
      obtain ⟨a, xs, rfl, hq, rl⟩ : ∃ a xs, x = .ref a ∧ SqL X.K (vis c t σ H1) a xs ∧ RepL X.K X.mg (vis c t σ H1) xs (ns.map .int) := by cases rd with | scr a => exact ⟨_, _, rfl, a, repL_ints ns⟩
      cases r1
      obtain ⟨its, rv, p, hz⟩ := I1.list (Le.sqL hid_base hq)
      refine wpAny_pyIter_list p.isList ?_
      refine ⟨s1.heap.objs.size, [s1.heap.objs.size], _, _, H1, rfl, I1.kept (t' := s1.toks) fun b o e => Heap.get?_push_of_some _ e, turn_list a _, ⟨_, Heap.get?_push_size _ rfl, rfl, rfl⟩, fun b hb => ?_, q _ (itOk_l hq rl)⟩
      have e : b = s1.heap.objs.size := by simpa using hb
      subst e
      exact I1.fpOk (Nat.le_refl _) (I1.hok.fresh (Nat.le_refl _))
    | tup es =>
      cases e
      obtain ⟨a, xs, rfl, hq, rl⟩ : ∃ a xs, x = .ref a ∧ SqT X.K (vis c t σ H1) a xs ∧ RepL X.K X.mg (vis c t σ H1) xs ds := by cases rd with | tup a b => exact ⟨_, _, rfl, .inl (.inl a), b⟩
      cases r1
      obtain ⟨its, rv, p, hz⟩ := I1.tuple (Le.sqT hid_base hq)
      refine wpAny_pyIter_tuple (show s1.heap.IsTuple a its.toArray from p) ?_
      refine ⟨s1.heap.objs.size, [s1.heap.objs.size], _, _, H1, rfl, I1.kept (t' := s1.toks) fun b o e => Heap.get?_push_of_some _ e, turn_tuple a _, ⟨_, Heap.get?_push_size _ rfl, rfl, rfl⟩, fun b hb => ?_, q _ (itOk_t hq rl)⟩
      have e : b = s1.heap.objs.size := by simpa using hb
      subst e
      exact I1.fpOk (Nat.le_refl _) (I1.hok.fresh (Nat.le_refl _))
    | ktup es =>
      cases e
      obtain ⟨a, xs, rfl, hq, rl⟩ : ∃ a xs, x = .ref a ∧ SqT X.K (vis c t σ H1) a xs ∧ RepL X.K X.mg (vis c t σ H1) xs ds := by cases rd with | ktup a b => exact ⟨_, _, rfl, a, b⟩
      cases r1
      obtain ⟨its, rv, p, hz⟩ := I1.tuple (Le.sqT hid_base hq)
      refine wpAny_pyIter_tuple (show s1.heap.IsTuple a its.toArray from p) ?_
      refine ⟨s1.heap.objs.size, [s1.heap.objs.size], _, _, H1, rfl, I1.kept (t' := s1.toks) fun b o e => Heap.get?_push_of_some _ e, turn_tuple a _, ⟨_, Heap.get?_push_size _ rfl, rfl, rfl⟩, fun b hb => ?_, q _ (itOk_t hq rl)⟩
      have e : b = s1.heap.objs.size := by simpa using hb
      subst e
      exact I1.fpOk (Nat.le_refl _) (I1.hok.fresh (Nat.le_refl _))
    | _ => cases e
theorem i62_iff {j : Int} (h : i62 j = true) : -(2 ^ 62) ≤ j ∧ j < 2 ^ 62 := by
  unfold i62 at h
  rw [Bool.and_eq_true] at h
  exact ⟨of_decide_eq_true h.1, of_decide_eq_true h.2⟩
theorem iR1_inv {ds : List D} {t : S} {o : Out (List D)} (h : (match ds with | [.int j] => if i62 j = true then Out.ok (rngD 0 j.toNat) t else .bad | _ => .bad) = o) : o = .bad ∨ ∃ j, ds = [.int j] ∧ i62 j = true ∧ o = .ok (rngD 0 j.toNat) t := by
  subst h
  split
  · rename_i j
    by_cases f : i62 j = true
    · rw [if_pos f]
      exact .inr ⟨j, rfl, f, rfl⟩
    · rw [if_neg f]; exact .inl rfl
  · exact .inl rfl
theorem si_r1 (hg : Gl X "range") (hm : X.mg "range" = none) (ha : SL hox X W [e] ml) (hs : starEach [e] X.env = [(false, eval e X.env)] := by rfl) : SI hox X W tg (.Call (.Name "range" p) [e] [] pos) (iR1 ml) :=
  PI.imp (pi_range1 hg hm ha hs) fun σ H R ⟨c, t, st, q⟩ => ⟨c, t, st, q.split.imp fun ds t1 H1 g1 q1 vs rs => by
    rcases iR1_inv (ds := ds) (t := t1) rfl with z | ⟨j, rfl, f, z⟩
    · rw [z] at q1; exact q1.elim
    · rw [z] at q1
      match vs, rs with
      | _, .cons r1 .nil =>
        cases r1
        exact ⟨j, rfl, (i62_iff f).1, (i62_iff f).2, q1 H1 (.refl g1.1) _ itOk_r⟩⟩
theorem iR2_inv {ds : List D} {t : S} {α : Type} {o : Out (List D)} (h : (match ds with | [.int i, .int j] => if (i62 i && i62 j) = true then Out.ok (rngD i (j - i).toNat) t else .bad | _ => .bad) = o) : o = .bad ∨ ∃ i j, ds = [.int i, .int j] ∧ i62 i = true ∧ i62 j = true ∧ o = .ok (rngD i (j - i).toNat) t := by
  subst h
  split
  · rename_i i j
    by_cases f : (i62 i && i62 j) = true
    · rw [if_pos f]
      rw [Bool.and_eq_true] at f
      exact .inr ⟨i, j, rfl, f.1, f.2, rfl⟩
    · rw [if_neg f]; exact .inl rfl
  · exact .inl rfl
theorem si_r2 (hg : Gl X "range") (hm : X.mg "range" = none) (ha : SL hox X W [e, e2] ml) (hs : starEach [e, e2] X.env = [(false, eval e X.env), (false, eval e2 X.env)] := by rfl) (hs2 : starEach [e2] X.env = [(false, eval e2 X.env)] := by rfl) :
    SI hox X W tg (.Call (.Name "range" p) [e, e2] [] pos) (iR2 ml) :=
  PI.imp (pi_range2 hg hm ha hs hs2) fun σ H R ⟨c, t, st, q⟩ => ⟨c, t, st, q.split.imp fun ds t1 H1 g1 q1 vs rs => by
    rcases iR2_inv (α := Unit) (ds := ds) (t := t1) rfl with z | ⟨i, j, rfl, f1, f2, z⟩
    · rw [z] at q1; exact q1.elim
    · rw [z] at q1
      match vs, rs with
      | _, .cons r1 (.cons r2 .nil) =>
        cases r1; cases r2
        exact ⟨i, j, rfl, ⟨(i62_iff f1).1, (i62_iff f1).2, (i62_iff f2).1, (i62_iff f2).2⟩, q1 H1 (.refl g1.1) _ itOk_r⟩⟩
theorem si_zip (hg : Gl X "zip") (hm : X.mg "zip" = none) (ha : SL hox X W [e, e2] ml) (hs : starEach [e, e2] X.env = (false, eval e X.env) :: starEach [e2] X.env := by rfl) (hpl : (backTo pos (starEach [e2] X.env)).any (·.1) = false := by rfl) :
    SI hox X W (.Tuple elts kk tpos) (.Call (.Name "zip" p) [e, e2] [] pos) (iZp ml) :=
  PI.imp (RZ.pi_zipA hg hm ha hs hpl) fun σ H R ⟨c, t, st, q⟩ => ⟨c, t, st, q.split.imp fun ds t1 H1 g1 q1 vs rs => by
    split at q1
    · rename_i xs ys
      match vs, rs with
      | _, .cons (.tup h1 r1) (.cons (.tup h2 r2) .nil) =>
        exact ⟨_, _, _, _, rfl, .inr ⟨.inl (.inl (hid_some h1).2), .inl (.inl (hid_some h2).2), q1 H1 (.refl g1.1) _ (itOk_zt (.inl (.inl h1)) r1 (.inl (.inl h2)) r2)⟩⟩
    · rename_i xs ys
      match vs, rs with
      | _, .cons (.lst h1 r1) (.cons (.lst h2 r2) .nil) =>
        exact ⟨_, _, _, _, rfl, .inl ⟨Le.sqL hid_base (.of h1), Le.sqL hid_base (.of h2), q1 H1 (.refl g1.1) _ (itOk_zl (.of h1) r1 (.of h2) r2)⟩⟩
    · exact q1.elim⟩
theorem si_enum (hg : Gl X "enumerate") (hm : X.mg "enumerate" = none) (ha : SL hox X W [e] ml) (hs : starEach [e] X.env = [(false, eval e X.env)] := by rfl) : SI hox X W (.Tuple elts kk tpos) (.Call (.Name "enumerate" p) [e] [] pos) (iEn ml) := by
  refine ⟨fun pins s σ H R I ⟨c, t, st, q⟩ => ?_⟩
  refine Call_ (ld_blt I hg hm boot_enumerate (PyProof.Rows.callWith_type1 (thn (ha.run pos pins s σ H (fun vs H1 => ∃ x d ds c t, vs = [x] ∧ StR hox X.K X.mg c t σ H1 ∧ Rep X.K X.mg (vis c t σ H1) x d ∧ d.items = some ds ∧ ∀ J, ItOk X.K X.mg J (vis c t σ H1) (enumD 0 ds) → R J H1) I ⟨c, t, st, q.split.imp fun ds t1 H1 g1 q1 vs rs => ?_⟩) fun us s1 ⟨vs, H1, I1, r1, q1⟩ => ?_) hs rfl))
  · split at q1
    · rename_i d
      match vs, rs with
      | _, .cons r .nil =>
        cases e : d.items with
        | none => simp only [e] at q1; exact q1.elim
        | some xs => simp only [e] at q1; exact ⟨_, d, xs, c, t1, rfl, g1.1, r, e, q1 H1 (.refl g1.1)⟩
    · exact q1.elim
  · obtain ⟨x, d, ds, c, t, rfl, st1, rd, e, q⟩ := q1
    obtain ⟨u, rfl, ru⟩ := vals1 r1
    have fp : ∀ {I2 : Prop} (b : Addr), b ∈ [s1.heap.objs.size + 1, s1.heap.objs.size] → FpOk X pins H1 b := fun b hb => by
      have e' : b = s1.heap.objs.size + 1 ∨ b = s1.heap.objs.size := by simpa using hb
      have hle : s1.heap.objs.size ≤ b := by
        rcases e' with z | z
        · rw [z]; exact Nat.le_add_right _ _
        · rw [z]; exact Nat.le_refl _
      exact I1.fpOk hle (I1.hok.fresh hle)
    cases d with
    | lst es =>
      cases e
      obtain ⟨a, xs, rfl, hq, rl⟩ : ∃ a xs, x = .ref a ∧ SqL X.K (vis c t σ H1) a xs ∧ RepL X.K X.mg (vis c t σ H1) xs ds := by cases rd with | lst a b => exact ⟨_, _, rfl, .of a, b⟩
      cases ru
      obtain ⟨its, rv, p', hz⟩ := I1.list (Le.sqL hid_base hq)
      refine call_enumerate_list p'.isList fun h' he hit hsz hk => wpAny_pyIter_enum he ?_
      have I2 : Inv X pins σ H1 { s1 with heap := h' } := I1.kept (t' := s1.toks) hk
      exact ⟨s1.heap.objs.size + 1, [s1.heap.objs.size + 1, s1.heap.objs.size], _, _, H1, rfl, I2, turn_enum a (s1.heap.objs.size + 1) s1.heap.objs.size, ⟨⟨.none, he⟩, hit, Nat.succ_ne_self _⟩, fp (I2 := True), q _ (itOk_el hq rl)⟩
    | scr ns =>
      cases e
      obtain ⟨a, xs, rfl, hq, rl⟩ : ∃ a xs, x = .ref a ∧ SqL X.K (vis c t σ H1) a xs ∧ RepL X.K X.mg (vis c t σ H1) xs (ns.map .int) := by cases rd with | scr a => exact ⟨_, _, rfl, a, repL_ints ns⟩
      cases ru
      obtain ⟨its, rv, p', hz⟩ := I1.list (Le.sqL hid_base hq)
      refine call_enumerate_list p'.isList fun h' he hit hsz hk => wpAny_pyIter_enum he ?_
      have I2 : Inv X pins σ H1 { s1 with heap := h' } := I1.kept (t' := s1.toks) hk
      exact ⟨s1.heap.objs.size + 1, [s1.heap.objs.size + 1, s1.heap.objs.size], _, _, H1, rfl, I2, turn_enum a (s1.heap.objs.size + 1) s1.heap.objs.size, ⟨⟨.none, he⟩, hit, Nat.succ_ne_self _⟩, fp (I2 := True), q _ (itOk_el hq rl)⟩
    | tup es =>
      cases e
      obtain ⟨a, xs, rfl, hq, rl⟩ : ∃ a xs, x = .ref a ∧ SqT X.K (vis c t σ H1) a xs ∧ RepL X.K X.mg (vis c t σ H1) xs ds := by cases rd with | tup a b => exact ⟨_, _, rfl, .inl (.inl a), b⟩
      cases ru
      obtain ⟨its, rv, p', hz⟩ := I1.tuple (Le.sqT hid_base hq)
      refine den_enum_call (begins_tuple a its.toArray) (show s1.heap.IsTuple a its.toArray from p') fun h' he hit hsz hk => wpAny_pyIter_enum he ?_
      have I2 : Inv X pins σ H1 { s1 with heap := h' } := I1.kept (t' := s1.toks) hk
      exact ⟨s1.heap.objs.size + 1, [s1.heap.objs.size + 1, s1.heap.objs.size], _, _, H1, rfl, I2, turn_enumT a (s1.heap.objs.size + 1) s1.heap.objs.size, ⟨⟨.none, he⟩, ⟨_, hit, rfl, rfl⟩, Nat.succ_ne_self _⟩, fp (I2 := True), q _ (itOk_et hq rl)⟩
    | ktup es =>
      cases e
      obtain ⟨a, xs, rfl, hq, rl⟩ : ∃ a xs, x = .ref a ∧ SqT X.K (vis c t σ H1) a xs ∧ RepL X.K X.mg (vis c t σ H1) xs ds := by cases rd with | ktup a b => exact ⟨_, _, rfl, a, b⟩
      cases ru
      obtain ⟨its, rv, p', hz⟩ := I1.tuple (Le.sqT hid_base hq)
      refine den_enum_call (begins_tuple a its.toArray) (show s1.heap.IsTuple a its.toArray from p') fun h' he hit hsz hk => wpAny_pyIter_enum he ?_
      have I2 : Inv X pins σ H1 { s1 with heap := h' } := I1.kept (t' := s1.toks) hk
      exact ⟨s1.heap.objs.size + 1, [s1.heap.objs.size + 1, s1.heap.objs.size], _, _, H1, rfl, I2, turn_enumT a (s1.heap.objs.size + 1) s1.heap.objs.size, ⟨⟨.none, he⟩, ⟨_, hit, rfl, rfl⟩, Nat.succ_ne_self _⟩, fp (I2 := True), q _ (itOk_et hq rl)⟩
    | _ => cases e
end
end Den

set_option Elab.async false
set_option linter.all false
set_option maxRecDepth 100000
set_option maxHeartbeats 4000000
namespace Den
variable {hox : Option Addr}
open PySem PySem.Spec PyProof.Rows L2

section
variable {K : PySem.W.Frag} {mg : Str → Option Value} {G G' H H' : Hp} {c : Ct} {s s' t : S} {σ σ' τ : St} {p : Addr} {o : O} {i : Nat}
theorem hs_ext {ho : HO} {b : Addr} : hs (c.ext p ho) s σ b ↔ hs c s σ b ∨ b = p := by
  constructor
  · rintro (z | ⟨u, z | z⟩ | z)
    · exact .inl (.inl z)
    · exact .inl (.inr (.inl ⟨u, z⟩))
    · exact .inr z.1
    · exact .inl (.inr (.inr z))
  · rintro ((z | ⟨u, z⟩ | z) | z)
    · exact .inl z
    · exact .inr (.inl ⟨u, .inl z⟩)
    · exact .inr (.inr z)
    · exact .inr (.inl ⟨ho, .inr ⟨z, rfl⟩⟩)
/-- a call has made an object that now stands by itself -/
theorem StR.allocG {ho : HO} (x : StR hox K mg c s σ H) (n : H p = none) (g : Same H H') (hp : H' p = some ho) : StR hox K mg (c.ext p ho) s σ H' ∧ Le (vis c s σ H) (vis (c.ext p ho) s σ H') ∧ ¬ hs c s σ p := by
  have nh := x.newHid n
  have l : Le (vis c s σ H) (vis (c.ext p ho) s σ H') := hid_le fun b o nb e => by
    refine ⟨fun z => ?_, g b o e⟩
    rcases hs_ext.mp z with z | z
    · exact nb z
    · exact ne_of_none e n z
  refine ⟨⟨x.len, fun i d e => ?_, fun i o e => ?_, fun i o e => ?_, x.brw, x.uni, x.bun, x.lnt, fun b o nb e => g _ _ (x.keep b o nb e), x.act, fun q u hq => ?_, x.hot⟩, l, nh⟩
  · obtain ⟨v, e1, r⟩ := x.val i d e
    exact ⟨v, e1, r.mono l⟩
  · obtain ⟨q, e1, m, r⟩ := x.own i o e
    exact ⟨q, e1, m, r.mono l fun _ _ u => g _ _⟩
  · obtain ⟨q, e1, b, z, r⟩ := x.bor i o e
    exact ⟨q, e1, b, z, r.mono l fun _ _ u => g _ _⟩
  · rcases hq with hq | ⟨rfl, rfl⟩
    · obtain ⟨h1, h2, h3, h4⟩ := x.tmp q u hq
      exact ⟨h1, h2, g _ _ h3, h4⟩
    · exact ⟨x.newBase n, fun z => nh (.inl z), hp, fun i o q e1 e2 f => nh (.inr (.inr ⟨i, o, q, e1, e2, f⟩))⟩
end

/-! ### what a def promises -/
abbrev FP := List D → Out Sl
abbrev FL := O → List D → Out Sl
def Keep (B : Addr → Prop) (H H' : Hp) : Prop := ∀ b o, ¬ B b → H b = some o → H' b = some o
section
variable (hox : Option Addr) (K : PySem.W.Frag) (mg : Str → Option Value)
def EndP (A B : Addr → Prop) (H : Hp) (R : S → Hp → Prop) (Q : VK) (E : XK) : Out Sl → Prop
  | .ok (.val d) s' => ∀ v H', Keep B H H' → R s' H' → Rep K mg (hid A H') v d → Q v H'
  | .ok (.own o) s' => ∀ p H', o.sub = [] → H p = none → Keep B H H' → R s' H' → RepO K mg (hid (fun b => A b ∨ b = p) H') H' p o → Q (.ref p) H'
  | .exc x s' => ∀ cls dd H', Keep B H H' → R s' H' → ExcR K mg (hid A H') cls dd x → E cls dd H'
  | _ => False
def spP (n : Nat) (F : FP) : Sp := fun vs H Q E => ∃ A ds, (∀ p, A p → ∃ o, H p = some o) ∧ ds.length = n ∧ RepL K mg (hid A H) vs ds ∧ EndP K mg A (fun _ => False) H (fun _ _ => True) Q E (F ds)
def LentR (A : Addr → Prop) (p : Addr) : S → Hp → Prop := fun s' H' => ∀ o', s'[0]? = some (some (Sl.bor o')) → RepO K mg (hid A H') H' p o'
def spL (n : Nat) (F : FL) : Sp := fun vs H Q E => ∃ A p o vs' ds, vs = .ref p :: vs' ∧ (∀ p, A p → ∃ o, H p = some o) ∧ (∀ b, foot p o b → A b) ∧ ds.length + 1 = n ∧ RepO K mg (hid A H) H p o ∧ RepL K mg (hid A H) vs' ds ∧
  EndP K mg A (foot p o) H (LentR K mg A p) Q E (F o ds)
end
def fin : Out Fl → Out Sl
  | .ok .nx s => .ok (.val .non) s
  | .ok (.rt r) s => .ok r s
  | .exc x s => .exc x s
  | _ => .bad
def init (N : Nat) (ds : List D) : S := ds.map (fun d => some (.val d)) ++ List.replicate (N - ds.length) none
def runP (N n : Nat) (m : MS) : FP := fun ds => if ds.length = n then fin (m (init N ds)) else .bad
def runL (N n : Nat) (m : MS) : FL := fun o ds => if ds.length + 1 = n then fin (m (some (.bor o) :: init (N - 1) ds)) else .bad
section
variable {P : Program} {w : World} {K : PySem.W.Frag} {mg : Str → Option Value} {base : Heap}
theorem init_at {N : Nat} {ds : List D} {i : Nat} {w : Sl} (h : (init N ds)[i]? = some (some w)) : ∃ d, ds[i]? = some d ∧ w = .val d := by
  unfold init at h
  by_cases hi : i < ds.length
  · rw [List.getElem?_append_left (by simpa using hi), List.getElem?_map] at h
    cases e : ds[i]? with
    | none => rw [e] at h; cases h
    | some d => rw [e] at h; cases h; exact ⟨d, rfl, rfl⟩
  · rw [List.getElem?_append_right (by simpa using hi), List.getElem?_replicate] at h
    split at h <;> cases h
theorem start_at {N : List Str} {vs : List V} {i : Nat} {v : V} (h : vs[i]? = some v) : (L2.start N vs)[i]? = some (some v) := by
  unfold L2.start
  have hi := (List.getElem?_eq_some_iff.mp h).1
  rw [List.getElem?_append_left (by simpa using hi), List.getElem?_map, h]
  rfl
theorem stR_start {N : List Str} {A : Addr → Prop} {H : Hp} {vs : List V} {ds : List D} (hot : ∀ a, hox = some a → ∃ oe, H a = some (ExA a oe) ∧ CtxF oe) (hA : ∀ p, A p → ∃ o, H p = some o) (r : RepL K mg (hid A H) vs ds) (hl : ds.length ≤ N.length) :
    StR hox K mg ⟨H, A, fun _ => none, fun _ _ => False, fun _ => False⟩ (init N.length ds) (L2.start N vs) H := by
  have hh : ∀ b, hs ⟨H, A, fun _ => none, fun _ _ => False, fun _ => False⟩ (init N.length ds) (L2.start N vs) b → A b := fun b z => by
    rcases z with z | ⟨u, z⟩ | ⟨i, o, q, e, _⟩
    · exact z
    · exact z.elim
    · obtain ⟨d, _, z⟩ := init_at e
      cases z
  have l : Le (hid A H) (vis ⟨H, A, fun _ => none, fun _ _ => False, fun _ => False⟩ (init N.length ds) (L2.start N vs) H) := hid_le fun b o n e => ⟨fun z => n (hh b z), e⟩
  refine ⟨?_, fun i d e => ?_, fun i o e => ?_, fun i o e => ?_, fun i q e => (by cases e), fun i j oi oj p q b e => ?_, fun i j oi oj p q b _ _ e => (by cases e), fun b z => z.elim, fun b o _ e => e, hA, fun q u hq => hq.elim, fun a e => (hot a e).imp fun oe z => ⟨z.1, z.2, id⟩⟩
  · unfold init L2.start
    rw [List.length_append, List.length_append, List.length_map, List.length_map, List.length_replicate, List.length_replicate, r.length]
  · obtain ⟨d', e1, z⟩ := init_at e
    cases z
    obtain ⟨x, e2, rx⟩ := r.get e1
    exact ⟨x, start_at e2, rx.mono l⟩
  · obtain ⟨d', e1, z⟩ := init_at e
    cases z
  · obtain ⟨d', e1, z⟩ := init_at e
    cases z
  · obtain ⟨d', e1, z⟩ := init_at e
    cases z
theorem Le.toBase {c : Ct} {s : S} {σ : St} {H : Hp} : Le (vis c s σ H) (hid c.A H) := hid_le fun b o n e => ⟨fun z => n (.inl z), e⟩
theorem end_of {c : Ct} {s0 : S} {σ0 : St} {H : Hp} {Q : VK} {E : XK} {B : Addr → Prop} {R : S → Hp → Prop} {o : Out Fl} (hc : c.H0 = H) (hB : ∀ b, c.L b → B b) (hR : ∀ s' σ' H', StR hox K mg c s' σ' H' → R s' H')
    (h : EndP K mg c.A B H R Q E (fin o)) : ResS hox K mg (fun cls d _ H => E cls d H) c s0 σ0 H { nx := fun _ H' => Q .non H', rt := Q } o := by
  subst hc
  have keep : ∀ {s' : S} {σ' : St} {H' : Hp}, StR hox K mg c s' σ' H' → Keep B c.H0 H' := fun {s' σ' H'} x b o nb e => x.keep b o (fun z => nb (hB b z)) e
  cases o with
  | ok f s' =>
    cases f with
    | nx => exact fun σ' H' g => h .non H' (keep g.1) (hR _ _ _ g.1) .non
    | rt r =>
      intro v σ' H' g
      cases r with
      | val d => exact h v H' (keep g.1.1) (hR _ _ _ g.1.1) (g.2.mono Le.toBase)
      | own o =>
        obtain ⟨p, ho, rfl, hz, n, st, l, r⟩ := g
        obtain ⟨t1, t2, t3, t4⟩ := st.tmp p ho (.inr ⟨rfl, rfl⟩)
        refine h p H' hz t1 (keep st.unext) (hR _ _ _ st.unext) (r.mono (hid_le fun b o nb e => ⟨fun z => nb ?_, e⟩) fun _ _ _ h => h)
        rcases z with z | z
        · exact hs_ext.mpr (.inl (.inl z))
        · exact hs_ext.mpr (.inr z)
      | bor o => exact h.elim
    | bk => exact h.elim
    | ct => exact h.elim
  | exc x s' => exact fun cls dd σ' H' g r => h cls dd H' (keep g.1) (hR _ _ _ g.1) (r.mono Le.toBase)
  | bad => exact h
theorem okXN {CX : CXT} {x qual : Str} {st : Stmt} {f : Addr} {fd : FuncData} {N ps : List Str} {k : Nat} {sp : Sp} (F : Fun K x qual st f fd) (S : FnScope N ps (defScope st)) (len : ∀ vs H Q E, sp vs H Q E → vs.length = ps.length)
    (hbody : ∀ (cdv : Value) (A : Around) (outer : List Env) (s : Shared) (H : Hp) (vs : List V) (Q : VK) (E : XK), Room k (A.deeper (envOfC qual (defScope st) s.heap.objs.size f cdv)) → sp vs H Q E →
      ∃ t, PSs (cxOf CX P w K mg base N qual (defScope st) f cdv A outer s H E) (defBody st) t ∧ t { nx := fun _ H' => Q .non H', rt := Q } (start N vs) H) : FnOk P w K mg base CX (k + 1) f fd ps sp := by
  obtain ⟨oc, od, kV, doc, pm, an, cdv, ct, osl, rfl, lk, hcd⟩ := F.ex
  exact fn_of lk hcd S len fun A outer s H vs Q E hr hsp => hbody cdv A outer s H vs Q E hr hsp
/-- THE RULE for a def: its body's function -/
theorem fn_P {x qual : Str} {st : Stmt} {f : Addr} {fd : FuncData} {N ps : List Str} {k : Nat} {m : MS} (F : Fun K x qual st f fd) (S : FnScope N ps (defScope st))
    (h : ∀ (cdv : Value) (A : Around) (outer : List Env) (s : Shared) (H : Hp) (E : XK), Room k (A.deeper (envOfC qual (defScope st) s.heap.objs.size f cdv)) →
      SSs none (cxOf (L2N.CX P w) P w K mg base N qual (defScope st) f cdv A outer s H E) (fun cls d _ H => E cls d H) (defBody st) m) :
    FnOk P w K mg base (L2N.CX P w) (k + 1) f fd ps (spP K mg ps.length (runP N.length ps.length m)) := by
  refine okXN F S (fun vs H Q E ⟨A, ds, _, hl, r, _⟩ => by rw [r.length, hl]) fun cdv A outer s H vs Q E hr ⟨A', ds, hA, hl, r, q⟩ => ?_
  refine ⟨_, h cdv A outer s H E hr, ⟨H, A', fun _ => none, fun _ _ => False, fun _ => False⟩, init N.length ds, ?_, ?_⟩
  · have hpl : ps.length ≤ N.length := by have := congrArg List.length S.pre; rw [List.length_take] at this; omega
    exact stR_start (hox := none) (fun a e => by cases e) hA r (by omega)
  · unfold runP at q
    rw [if_pos hl] at q
    exact end_of (hox := none) (c := ⟨H, A', fun _ => none, fun _ _ => False, fun _ => False⟩) rfl (fun b z => z.elim) (fun _ _ _ _ => trivial) q
theorem stR_startL {N : List Str} {A : Addr → Prop} {H : Hp} {p : Addr} {o : O} {vs : List V} {ds : List D} (hn : hox = none) (hA : ∀ p, A p → ∃ o, H p = some o) (hp : ∀ b, foot p o b → A b) (ro : RepO K mg (hid A H) H p o) (r : RepL K mg (hid A H) vs ds) (hl : ds.length + 1 ≤ N.length) :
    StR hox K mg ⟨H, A, fun i => if i = 0 then some p else none, fun _ _ => False, foot p o⟩ (some (.bor o) :: init (N.length - 1) ds) (L2.start N (.ref p :: vs)) H := by
  have at0 : ∀ {i : Nat} {w : Sl}, (some (Sl.bor o) :: init (N.length - 1) ds)[i]? = some (some w) → (i = 0 ∧ w = .bor o) ∨ ∃ j d, i = j + 1 ∧ ds[j]? = some d ∧ w = .val d := fun {i w} e => by
    cases i with
    | zero => rw [List.getElem?_cons_zero] at e; cases e; exact .inl ⟨rfl, rfl⟩
    | succ j =>
      rw [List.getElem?_cons_succ] at e
      obtain ⟨d, e1, z⟩ := init_at e
      exact .inr ⟨j, d, rfl, e1, z⟩
  have hh : ∀ b, hs ⟨H, A, fun i => if i = 0 then some p else none, fun _ _ => False, foot p o⟩ (some (.bor o) :: init (N.length - 1) ds) (L2.start N (.ref p :: vs)) b → A b := fun b z => by
    rcases z with z | ⟨u, z⟩ | ⟨i, o', q, e, _⟩
    · exact z
    · exact z.elim
    · rcases at0 e with ⟨_, z⟩ | ⟨j, d, _, _, z⟩
      · cases z
      · cases z
  have l : Le (hid A H) (vis ⟨H, A, fun i => if i = 0 then some p else none, fun _ _ => False, foot p o⟩ (some (.bor o) :: init (N.length - 1) ds) (L2.start N (.ref p :: vs)) H) := hid_le fun b o n e => ⟨fun z => n (hh b z), e⟩
  have isB : ∀ {i : Nat} {q : Addr}, (if i = 0 then some p else none : Option Addr) = some q → i = 0 ∧ q = p := fun {i q} e => by
    by_cases z : i = 0
    · rw [if_pos z] at e; cases e; exact ⟨z, rfl⟩
    · rw [if_neg z] at e; cases e
  refine ⟨?_, fun i d e => ?_, fun i o' e => ?_, fun i o' e => ?_, fun i q e => ?_, fun i j oi oj p q b e => ?_, fun i j oi oj p q b _ _ e e2 => ?_, fun b z => ?_, fun b o _ e => e, hA, fun q u hq => hq.elim, fun a e => (by rw [hn] at e; cases e)⟩
  · unfold init L2.start
    rw [List.length_append, List.length_map, List.length_cons, List.length_replicate, List.length_cons, List.length_append, List.length_map, List.length_replicate, r.length]
    omega
  · rcases at0 e with ⟨_, z⟩ | ⟨j, d', rfl, e1, z⟩
    · cases z
    · cases z
      obtain ⟨x, e2, rx⟩ := r.get e1
      exact ⟨x, start_at (by rw [List.getElem?_cons_succ]; exact e2), rx.mono l⟩
  · rcases at0 e with ⟨_, z⟩ | ⟨j, d', rfl, e1, z⟩
    · cases z
    · cases z
  · rcases at0 e with ⟨rfl, z⟩ | ⟨j, d', rfl, e1, z⟩
    · cases z
      exact ⟨p, start_at rfl, rfl, fun b f => ⟨hp b f, f⟩, ro.mono l fun _ _ _ h => h⟩
    · cases z
  · obtain ⟨rfl, rfl⟩ := isB e
    exact ⟨hp _ foot_self, o, rfl⟩
  · rcases at0 e with ⟨_, z⟩ | ⟨j, d', rfl, e1, z⟩
    · cases z
    · cases z
  · obtain ⟨rfl, _⟩ := isB e
    obtain ⟨rfl, _⟩ := isB e2
    intro _ _
    rfl
  · exact ⟨0, o, p, rfl, rfl, z⟩
/-- .. a def that is lent its first argument -/
theorem fn_L {x qual : Str} {st : Stmt} {f : Addr} {fd : FuncData} {N ps : List Str} {k : Nat} {m : MS} (F : Fun K x qual st f fd) (S : FnScope N ps (defScope st))
    (h : ∀ (cdv : Value) (A : Around) (outer : List Env) (s : Shared) (H : Hp) (E : XK), Room k (A.deeper (envOfC qual (defScope st) s.heap.objs.size f cdv)) →
      SSs none (cxOf (L2N.CX P w) P w K mg base N qual (defScope st) f cdv A outer s H E) (fun cls d _ H => E cls d H) (defBody st) m) :
    FnOk P w K mg base (L2N.CX P w) (k + 1) f fd ps (spL K mg ps.length (runL N.length ps.length m)) := by
  refine okXN F S (fun vs H Q E ⟨A, p, o, vs', ds, e, _, _, hl, _, r, _⟩ => by rw [e, List.length_cons, r.length, hl]) fun cdv A outer s H vs Q E hr ⟨A', p, o, vs', ds, e, hA, hp, hl, ro, r, q⟩ => ?_
  subst e
  refine ⟨_, h cdv A outer s H E hr, ⟨H, A', fun i => if i = 0 then some p else none, fun _ _ => False, foot p o⟩, some (.bor o) :: init (N.length - 1) ds, ?_, ?_⟩
  · have hpl : ps.length ≤ N.length := by have := congrArg List.length S.pre; rw [List.length_take] at this; omega
    exact stR_startL (hox := none) rfl hA hp ro r (by omega)
  · unfold runL at q
    rw [if_pos hl] at q
    have hR : ∀ s' σ' H', StR none K mg ⟨H, A', fun i => if i = 0 then some p else none, fun _ _ => False, foot p o⟩ s' σ' H' → LentR K mg A' p s' H' := fun s' σ' H' x o' e => by
      obtain ⟨q', e1, e2, _, r'⟩ := x.bor 0 o' e
      cases e2
      exact r'.mono Le.toBase fun _ _ _ h => h
    exact end_of (hox := none) (c := ⟨H, A', fun i => if i = 0 then some p else none, fun _ _ => False, foot p o⟩) rfl (fun b z => z) hR q
end
/-! ### calls of defs -/
def mCall (F : FP) (n : Nat) (ml : ML) : MO := fun s => (ml s).bind fun ds s1 => if ds.length = n then match F ds with
  | .ok (.val d) _ => .ok (.val d) s1
  | .ok (.own o) _ => .ok (.own o) s1
  | .exc x _ => .exc x s1
  | _ => .bad
  else .bad
def mutAt (s : S) (i : Nat) : Option (Sl × O) := match s[i]? with
  | some (some (.own o)) => some (.own o, o)
  | some (some (.bor o)) => some (.bor o, o)
  | _ => none
theorem mutAt_some {s : S} {i : Nat} {w : Sl} {o : O} (h : mutAt s i = some (w, o)) : s[i]? = some (some w) ∧ w.mu = some o := by
  unfold mutAt at h
  split at h
  · rename_i o' e
    cases h; exact ⟨e, rfl⟩
  · rename_i o' e
    cases h; exact ⟨e, rfl⟩
  · cases h
def Sl.sub : Sl → List Addr
  | .own o => o.sub
  | .bor o => o.sub
  | .val _ => []
theorem sub_mu {w : Sl} {o : O} (e : w.mu = some o) : w.sub = o.sub := by
  cases w <;> cases e <;> rfl
def lentOut (i : Nat) (w : Sl) (s1 : S) : Out Sl → Out Sl
  | .ok r s' => match r, s'[0]? with
    | .val d, some (some (Sl.bor o')) => if w.sub = o'.sub then .ok (.val d) (s1.set i (some (w.re o'))) else .bad
    | _, _ => .bad
  | .exc x s' => match s'[0]? with
    | some (some (Sl.bor o')) => if w.sub = o'.sub then .exc x (s1.set i (some (w.re o'))) else .bad
    | _ => .bad
  | .bad => .bad
def mCallL (i : Nat) (F : FL) (n : Nat) (ml : ML) : MO := fun s => match mutAt s i with
  | none => .bad
  | some _ => (ml s).bind fun ds s1 => match mutAt s1 i with
    | none => .bad
    | some (w, o) => if ds.length + 1 = n then lentOut i w s1 (F o ds) else .bad
theorem ResO.after {K : PySem.W.Frag} {mg : Str → Option Value} {W : WX} {c : Ct} {s s1 : S} {σ : St} {H H1 : Hp} {Q : VK} {r : Out Sl} (h : ResO hox K mg W c s σ H Q r) (g : Go hox K mg c s σ H s1 σ H1) : ResO hox K mg W c s1 σ H1 Q r := by
  cases r with
  | ok r s2 => exact fun v H' g' => h v H' (g'.pre g)
  | exc y s2 => exact fun cls dd H' g' => h cls dd H' (g.trans g')
  | bad => exact h
theorem ResO.split {K : PySem.W.Frag} {mg : Str → Option Value} {W : WX} {c : Ct} {s : S} {σ : St} {H : Hp} {Q : VK} {α : Type} {o : Out α} {k : α → S → Out Sl} (h : ResO hox K mg W c s σ H Q (o.bind k)) : Res hox K mg c s σ H W (fun a s1 H1 => ResO hox K mg W c s1 σ H1 Q (k a s1)) o := by
  cases o with
  | ok a s1 => exact fun H1 g => ResO.after (r := k a s1) h g
  | exc x s' => exact h
  | bad => exact h
section
variable {X : Cx} {W : WX} {k n : Nat} {f : Addr} {fd : FuncData} {ps : List Str} {e : Expr} {es : List Expr} {ml : ML} {x y : Str} {p py pos : Pos}
theorem so_call {F : FP} (FK : FnOk X.prog X.w X.K X.mg X.base (L2N.CX X.prog X.w) k f fd ps (spP X.K X.mg n F)) (hr : Room k X.A) (hm : X.mg x = some (.ref f)) (hk : PySem.W.keepIn X.K (.ref f) = true) (hb : Binds X.K fd ps []) (tk : L2N.Takes X W)
    (ha : SL hox X W (e :: es) ml) (hg : Gl X x := by rfl) (hdb : (x == ("__debug__" : Str)) = false := by decide) (he : starEach (e :: es) X.env = (false, eval e X.env) :: starEach es X.env := by rfl) (hpl : (backTo pos (starEach es X.env)).any (·.1) = false := by rfl) :
    SO hox X W (.Call (.Name x p) (e :: es) [] pos) (mCall F n ml) :=
  PE.imp (pe_callS FK hr hg hm hk hb (fun σ => L2N.passAt tk σ) ha hdb he hpl) fun σ H Q ⟨c, s, st, q⟩ => ⟨c, s, st, q.split.imp fun ds s1 H1 g1 q1 vs rs => by
    by_cases hl : ds.length = n
    · rw [if_pos hl] at q1
      refine ⟨hs c s1 σ, ds, fun p h => g1.1.hidden h, hl, rs, ?_⟩
      cases e1 : F ds with
      | ok r s' =>
        cases r with
        | val d =>
          simp only [e1] at q1
          intro v H' kp _ rv
          have sm : Same H1 H' := fun b o e => kp b o (fun z => z) e
          exact q1 v H' ⟨.grow g1.1 sm, rv⟩
        | own o =>
          simp only [e1] at q1
          intro p H' hz n kp _ ro
          have sm : Same H1 H' := fun b o e => kp b o (fun z => z) e
          obtain ⟨ho, hp⟩ := ro.there
          obtain ⟨a1, a2, a3⟩ := g1.1.allocG n sm hp
          refine q1 _ H' ⟨p, ho, rfl, hz, a3, a1, a2, ro.mono (Le.hsub fun b z => hs_ext.mp z) fun _ _ _ h => h⟩
        | bor o => simp only [e1] at q1; exact q1.elim
      | exc y s' =>
        simp only [e1] at q1
        intro cls dd H' kp _ r
        have sm : Same H1 H' := fun b o e => kp b o (fun z => z) e
        exact q1 cls dd H' (.grow g1.1 sm) r
      | bad => simp only [e1] at q1; exact q1.elim
    · rw [if_neg hl] at q1; exact q1.elim⟩
theorem so_callL (i : Nat) {F : FL} (FK : FnOk X.prog X.w X.K X.mg X.base (L2N.CX X.prog X.w) k f fd ps (spL X.K X.mg n F)) (hr : Room k X.A) (hm : X.mg x = some (.ref f)) (hk : PySem.W.keepIn X.K (.ref f) = true) (hb : Binds X.K fd ps []) (tk : L2N.Takes X W)
    (ha : SL hox X W es ml) (hN : X.N[i]? = some y := by rfl) (hv : Vis X.env.scope y := by first | exact Or.inl rfl | exact Or.inr (Or.inl rfl) | exact Or.inr (Or.inr rfl)) (hg : Gl X x := by rfl) (hd : (y == ("__debug__" : Str)) = false := by decide)
    (hcd : (y == ("__classdict__" : Str)) = false := by decide) (hdb : (x == ("__debug__" : Str)) = false := by decide) (he : starEach (.Name y py :: es) X.env = (false, eval (.Name y py) X.env) :: starEach es X.env := by rfl) (hpl : (backTo pos (starEach es X.env)).any (·.1) = false := by rfl) :
    SO hox X W (.Call (.Name x p) (.Name y py :: es) [] pos) (mCallL i F n ml) :=
  PE.imp (pe_callS FK hr hg hm hk hb (fun σ => L2N.passAt tk σ) (pa_cons (pe_var hN hv hd hcd) ha he) hdb he hpl) fun σ H Q ⟨c, s, st, q⟩ => by
    unfold mCallL at q
    cases e0 : mutAt s i with
    | none => simp only [e0] at q; exact q.elim
    | some w0 =>
      simp only [e0] at q
      obtain ⟨w0, o0⟩ := w0
      obtain ⟨e1, e2⟩ := mutAt_some e0
      obtain ⟨p, hp, _, _⟩ := st.mut e1 e2
      refine ⟨.ref p, hp, c, s, st, q.split.imp fun ds s1 H1 g1 q1 vs rs => ?_⟩
      cases e3 : mutAt s1 i with
      | none => simp only [e3] at q1; exact q1.elim
      | some wo =>
        obtain ⟨w, o⟩ := wo
        simp only [e3] at q1
        obtain ⟨e4, e5⟩ := mutAt_some e3
        obtain ⟨p', hp', hh, ro⟩ := g1.1.mutF e4 e5
        rw [hp] at hp'; cases hp'
        by_cases hl : ds.length + 1 = n
        · rw [if_pos hl] at q1
          refine ⟨hs c s1 σ, p, o, vs, ds, rfl, fun p h => g1.1.hidden h, hh, hl, ro, rs, ?_⟩
          unfold lentOut at q1
          have go : ∀ {H' : Hp} {o' : O}, w.sub = o'.sub → Keep (foot p o) H1 H' → RepO X.K X.mg (hid (hs c s1 σ) H') H' p o' → Go hox X.K X.mg c s1 σ H1 (s1.set i (some (w.re o'))) σ H' := fun {H' o'} hz kp r => g1.1.writeF e4 e5 hp (fun b nb u e => kp b u nb e) (hz.symm.trans (sub_mu e5)) r
          have sub : ∀ (o' : O), w.sub = o'.sub → ∀ b, hs c (s1.set i (some (w.re o'))) σ b → hs c s1 σ b := fun o' hz b z => by
            rcases z with z | z | ⟨j, o2, p2, e2, e3, f⟩
            · exact .inl z
            · exact .inr (.inl z)
            · rcases set_at e2 with ⟨rfl, _, z⟩ | ⟨ne, e2⟩
              · rw [hp] at e3; cases e3
                refine hh b ?_
                have ez : o2.sub = o.sub := by
                  cases w with
                  | val d => cases e5
                  | own ow =>
                    cases z
                    exact hz.symm.trans (sub_mu e5)
                  | bor ow => cases z
                unfold foot at f ⊢
                rw [ez] at f
                exact f
              · exact .inr (.inr ⟨j, o2, p2, e2, e3, f⟩)
          cases e6 : F o ds with
          | ok r s' =>
            cases r with
            | val d =>
              simp only [e6] at q1
              intro v H' kp lr rv
              split at q1
              · rename_i d' o' heq1 heq2
                cases heq1
                by_cases hz : w.sub = o'.sub
                · rw [if_pos hz] at q1
                  have g := go hz kp (lr o' heq2)
                  exact q1 v H' ⟨g, rv.mono (Le.hsub (sub o' hz))⟩
                · rw [if_neg hz] at q1
                  exact q1.elim
              · exact q1.elim
            | own u => simp only [e6] at q1; exact q1.elim
            | bor u => simp only [e6] at q1; exact q1.elim
          | exc z s' =>
            simp only [e6] at q1
            intro cls dd H' kp lr r
            split at q1
            · rename_i o' heq2
              by_cases hz : w.sub = o'.sub
              · rw [if_pos hz] at q1
                have g := go hz kp (lr o' heq2)
                exact q1 cls dd H' g (r.mono (Le.hsub (sub o' hz)))
              · rw [if_neg hz] at q1
                exact q1.elim
            · exact q1.elim
          | bad => simp only [e6] at q1; exact q1.elim
        · rw [if_neg hl] at q1; exact q1.elim
end
end Den

set_option Elab.async false
set_option linter.all false
set_option maxRecDepth 100000
set_option maxHeartbeats 4000000
/-! tuples: repeated once or not at all, turned about -/
namespace L2
open PySem PySem.Spec PyProof.Rows
theorem den_mul1 (l : Addr) (items : Array Value) (n : Nat) (dd : Option Addr) (sl : Array (Option Value)) (x : Int) (u : Tok) (c0 : (decide (x < -(2 ^ 63)) || decide (x ≥ 2 ^ 63)) = false) (c1 : (items.isEmpty || x == 1) = true) :
    Meets (Builtin.«tuple.__mul__» ⟨[.ref l, .int x u], []⟩) (fun _ R s => s.heap.get? l = some { cls := .type "tuple", dict := dd, data := .seq items n, slots := sl } ∧ R (.ok (.ret (Value.ref l))) s) :=
  .of_wp fun prog w A R s h => by
    obtain ⟨hp, g, d, tk, os⟩ := s
    obtain ⟨hl, h⟩ := h
    have f1 := AutoSeq1.idx_int
    wp_walk using wpAny_loadPart' hl
    repeat (first
      | (refine wpAny_ite_false (decide_eq_false (by rw [c0]; exact Bool.false_ne_true)) ?_; wp_walk using wpAny_loadPart' hl)
      | (refine wpAny_ite_true (decide_eq_true c1) ?_; wp_walk using wpAny_loadPart' hl))
    all_goals first | exact ⟨_, rfl, h⟩ | exact h
theorem den_mul0 (l : Addr) (items : Array Value) (n : Nat) (dd : Option Addr) (sl : Array (Option Value)) (x : Int) (u : Tok) (c0 : (decide (x < -(2 ^ 63)) || decide (x ≥ 2 ^ 63)) = false) (c1 : (items.isEmpty || x == 1) = false) (c2 : (decide (x ≤ 0) || items.isEmpty) = true) :
    Meets (Builtin.«tuple.__mul__» ⟨[.ref l, .int x u], []⟩) (fun _ R s => s.heap.get? l = some { cls := .type "tuple", dict := dd, data := .seq items n, slots := sl } ∧
      R (.ok (.ret (Value.ref s.heap.objs.size))) { s with heap := s.heap.push { cls := Value.type "tuple", data := Data.seq #[] }, toks := s.toks }) :=
  .of_wp fun prog w A R s h => by
    obtain ⟨hp, g, d, tk, os⟩ := s
    obtain ⟨hl, h⟩ := h
    have f1 := AutoSeq1.idx_int
    wp_walk using wpAny_loadPart' hl
    repeat (first
      | (refine wpAny_ite_false (decide_eq_false (by rw [c0]; exact Bool.false_ne_true)) ?_; wp_walk using wpAny_loadPart' hl)
      | (refine wpAny_ite_false (decide_eq_false (by rw [c1]; exact Bool.false_ne_true)) ?_; wp_walk using wpAny_loadPart' hl)
      | (refine wpAny_ite_true (decide_eq_true c2) ?_; wp_walk using wpAny_loadPart' hl))
    all_goals first | exact ⟨_, rfl, h⟩ | exact h
end L2
namespace L2
open PySem PySem.Spec PyProof.Rows
section
variable {X : Cx}
/-- t * k, any k -/
def repT (xs : List V) (k : Int) : List V := (List.replicate k.toNat xs).flatten
def rRepA (K : PySem.W.Frag) : R2 := fun x y H Q => ∃ l k xs, x = .ref l ∧ y = .int k ∧ SqT K H l xs ∧ xs ≠ [] ∧ -1000 ≤ k ∧ k ≤ 1000 ∧ xs.length ≤ 1000 ∧
  (k = 1 → Q (.ref l) H) ∧ (k ≠ 1 → ∀ p, H p = none → Q (.ref p) (upd H p (.tup (List.replicate k.toNat xs).flatten)))
theorem op_repA : OpR X (binaryOp .Mult) (rRepA X.K) := by
  intro pins s σ H x y v u Q I rx ry h
  obtain ⟨l, k, xs, rfl, rfl, hT, hne, h1, h2, hz, q1, q2⟩ := h
  by_cases hk : 2 ≤ k
  · exact op_repT pins s σ H _ _ v u Q I rx ry ⟨l, k, xs, rfl, rfl, hT, hne, hk, h2, hz, q2 (by omega)⟩
  cases rx
  obtain ⟨t, rfl⟩ := ry
  obtain ⟨its, r, ⟨⟨cls, dd, data, sl⟩, ho, hc, n, hd⟩, hs⟩ := I.tuple hT
  simp only at hc hd
  subst hc hd
  have hle : its.length = xs.length := r.length.symm
  have hn : its ≠ [] := fun e => hne (by
    rw [e] at hle
    exact List.eq_nil_of_length_eq_zero hle.symm)
  have hi : its.toArray.isEmpty = false := by
    cases its with
    | nil => exact absurd rfl hn
    | cons a b => rfl
  have c0 : (decide (k < -(2 ^ 63)) || decide (k ≥ 2 ^ 63)) = false := by
    rw [decide_eq_false (by omega), decide_eq_false (by omega)] <;> rfl
  by_cases h1k : k = 1
  · subst h1k
    have c1 : (its.toArray.isEmpty || (1 : Int) == 1) = true := by rw [hi]; rfl
    refine wpAny_binaryOp_repeat_ref (T := "tuple") (U := "int") (by decide) ⟨_, ho, rfl⟩ (fun s' => typeIs_int s' 1 t) noFill_tuple_mul F.fills_int_mul F.slot_int_rmul repeat_tuple F.slot_int_index.lookup
      (call_meets F.slot_int_rmul (typeIs_int s 1 t) F.entry_int_rmul (F.args_int_rmul_2 _ _) (int_rmul_tuple 1 t l its.toArray n dd sl)
        ⟨ho, rfl, ⟨_, ho, rfl⟩, call_meets F.slot_tuple_mul ⟨_, ho, rfl⟩ F.entry_tuple_mul (F.args_tuple_mul_2 _ _) (den_mul1 l its.toArray n dd sl 1 t c0 c1) ⟨ho, ?_⟩⟩)
    exact ⟨.ref l, H, I, rfl, q1 rfl⟩
  · have c1 : (its.toArray.isEmpty || k == 1) = false := by
      rw [hi, Bool.false_or]
      exact beq_eq_false_iff_ne.mpr h1k
    have c2 : (decide (k ≤ 0) || its.toArray.isEmpty) = true := by
      rw [decide_eq_true (by omega)]; rfl
    refine wpAny_binaryOp_repeat_ref (T := "tuple") (U := "int") (by decide) ⟨_, ho, rfl⟩ (fun s' => typeIs_int s' k t) noFill_tuple_mul F.fills_int_mul F.slot_int_rmul repeat_tuple F.slot_int_index.lookup
      (call_meets F.slot_int_rmul (typeIs_int s k t) F.entry_int_rmul (F.args_int_rmul_2 _ _) (int_rmul_tuple k t l its.toArray n dd sl)
        ⟨ho, rfl, ⟨_, ho, rfl⟩, call_meets F.slot_tuple_mul ⟨_, ho, rfl⟩ F.entry_tuple_mul (F.args_tuple_mul_2 _ _) (den_mul0 l its.toArray n dd sl k t c0 c1 c2) ⟨ho, ?_⟩⟩)
    have e0 : (List.replicate k.toNat xs).flatten = [] := by rw [show k.toNat = 0 by omega]; rfl
    have q3 := q2 h1k
    rw [e0] at q3
    refine ⟨.ref s.heap.objs.size, _, I.laid (t' := s.toks) (o := .tup []) (fun b ob q => Heap.get?_push_of_some _ q) (Nat.le_refl _) ?_, rfl, q3 _ (I.hok.fresh (Nat.le_refl _))⟩
    exact ⟨Nat.zero_le _, [], .nil, IsTup.new _ _⟩
/-- t[::-1] -/
theorem places_rev (n : Nat) : Builtin.Slice.slicePlaces ((n : Int) - 1) (-1) (-1) = n := by
  unfold Builtin.Slice.slicePlaces
  rw [if_neg (by decide)]
  by_cases h : n = 0
  · subst h; rfl
  · rw [if_pos (by omega), show -(-1 : Int) = 1 from rfl, Int.ediv_one]
    omega
theorem filterMap_map {α β : Type} {f : α → Option β} {g : α → β} : ∀ {l : List α}, (∀ m ∈ l, f m = some (g m)) → l.filterMap f = l.map g
  | [], _ => rfl
  | a :: l, h => by
    rw [List.filterMap_cons_some (h a List.mem_cons_self), List.map_cons, filterMap_map fun m hm => h m (List.mem_cons_of_mem _ hm)]
theorem pick_rev (xs : Array Value) : ((List.range xs.size).filterMap fun (m : Nat) => xs[(((xs.size : Int) - 1) + (m : Int) * (-1)).toNat]?) = xs.toList.reverse := by
  apply List.ext_getElem?
  intro i
  have e : (List.range xs.size).filterMap (fun (m : Nat) => xs[(((xs.size : Int) - 1) + (m : Int) * (-1)).toNat]?) = (List.range xs.size).map fun m => xs.toList.getD (xs.size - 1 - m) .none := by
    apply filterMap_map
    intro m hm
    have hm : m < xs.size := by simpa using hm
    have : (((xs.size : Int) - 1) + (m : Int) * (-1)).toNat = xs.size - 1 - m := by omega
    rw [this]
    have lt : xs.size - 1 - m < xs.size := by omega
    simp [List.getD_eq_getElem?_getD, lt]
  rw [e]
  by_cases h : i < xs.size
  · rw [List.getElem?_map, List.getElem?_range h, List.getElem?_reverse (by simpa using h)]
    have lt : xs.size - 1 - i < xs.size := by omega
    simp [List.getD_eq_getElem?_getD, lt]
  · rw [List.getElem?_eq_none (by simpa using h), List.getElem?_eq_none (by simpa using h)]
def tRevT (K : PySem.W.Frag) (te : TE) : TE := fun σ H Q => te σ H fun x H1 => ∃ a xs, x = .ref a ∧ SqT K H1 a xs ∧ ((xs.length ≤ 0 → False) → ∀ p, H1 p = none → Q (.ref p) (upd H1 p (.tup xs.reverse))) ∧ (xs = [] → ∀ p, H1 p = none → Q (.ref p) (upd H1 p (.tup [])))
theorem sliceApplied_rev {A : Around} {prog : Program} {w : World} {s : Shared} {E : Value → Shared → Prop} {sl : Addr} {vs : Value} {n : Nat} {Q : Int × Int × Nat → Shared → Prop} (hs : s.heap.IsSliceOf sl .none .none vs) (pv : IsPart vs (some (-1)))
    (h : Q ((n : Int) - 1, -1, n) s) : wpAny (model prog w) A (Builtin.Slice.sliceApplied (.ref sl) (pure (n : Int))) Q E s := by
  obtain ⟨os, hos, hcs, hds⟩ := id hs
  unfold Builtin.Slice.sliceApplied Builtin.Slice.sliceFields
  refine wpAny_bind (wpAny_bind (wpAny_field hos hds (x := .none) rfl (wpAny_bind (wpAny_field hos hds (x := .none) rfl (wpAny_bind (wpAny_field hos hds (x := vs) rfl (wpAny_pure ?_)))))))
  refine wpAny_bind (HT.slicePart_ pv ?_)
  show wpAny _ _ (if ((-1 : Int) == 0) = true then _ else _) _ _ s
  rw [if_neg (by decide)]
  refine wpAny_bind (slicePart_none (wpAny_bind (slicePart_none (wpAny_bind (wpAny_pure ?_)))))
  show wpAny _ _ (pure ((n : Int) - 1, (-1 : Int), Builtin.Slice.slicePlaces ((n : Int) - 1) (-1) (-1))) _ _ s
  rw [places_rev]
  exact wpAny_pure h
theorem getItem_tuple_rev {A : Around} {prog : Program} {w : World} {s : Shared} {E : Value → Shared → Prop} {t sl : Addr} {items : Array Value} {vs : Value} {Q : Value → Shared → Prop} (ht : IsTup s.heap t items) (hs : s.heap.IsSliceOf sl .none .none vs) (pv : IsPart vs (some (-1)))
    (h : Q (.ref s.heap.objs.size) { s with heap := s.heap.push { cls := .type "tuple", data := .seq items.toList.reverse.toArray } }) (hsz : items.size ≤ sizeLine) : wpAny (model prog w) A (getItem (.ref t) (.ref sl)) Q E s := by
  have htake : sizeOk (.seq items.toList.reverse.toArray) := by
    show items.toList.reverse.toArray.size ≤ sizeLine
    rw [List.size_toArray, List.length_reverse, Array.length_toList]
    exact hsz
  obtain ⟨os, hos, hcs, hds⟩ := id hs
  have hTs : s.TypeIs (.ref sl) "slice" := ⟨os, hos, hcs⟩
  unfold getItem
  try with_reducible refine wpAny_holding ?_
  first | refine wpAny_bind (wpAny_pure ?_) | skip
  refine wpAny_bind (wpAny_sequenceKey ht.typeIs (by decide) ?_)
  refine wpAny_bind (wpAny_callSpecial?_slot (name := Str.ofString "__getitem__") ht.typeIs PyProof.Rows.slot_tuple_getitem
    (wpAny_call_entry PyProof.Rows.slot_tuple_getitem ht.typeIs entry_tuple_getitem ?_ (args_tuple_getitem _ _)))
  show wpAny _ _ (Builtin.Tuple.tupleItemsOf (.ref t) >>= _) _ _ s
  refine wpAny_bind (tupleItemsOf_ ht ?_)
  refine wpAny_bind (wpAny_typeOf hTs ?_)
  rw [if_pos (by decide)]
  refine wpAny_bind (sliceApplied_rev hs pv ?_)
  have hno : ¬ ((((items.size : Int) - 1 == 0 && (-1 : Int) == 1 && items.size == items.size)) = true) := by
    rw [show ((-1 : Int) == 1) = false from rfl, Bool.and_false, Bool.false_and]
    exact Bool.false_ne_true
  show wpAny _ _ (if ((items.size : Int) - 1 == 0 && (-1 : Int) == 1 && items.size == items.size) = true then _ else _) _ _ s
  rw [if_neg hno, pick_rev]
  first
    | exact wpAny_bind (m := Builtin.Tuple.tupleExact _) (wpAny_newObj_type (wpAny_pure ⟨_, rfl, wpAny_pure h⟩) htake)
    | exact wpAny_bind (m := Builtin.Tuple.tupleExact _) (wpAny_newObj_type (wpAny_bind (wpAny_pure (wpAny_pure ⟨_, rfl, wpAny_pure h⟩))) htake)
    | exact wpAny_bind (wpAny_bind (m := Builtin.Tuple.tupleExact _) (wpAny_newObj_type (wpAny_pure (wpAny_pure ⟨_, rfl, wpAny_pure h⟩)) htake))
    | exact wpAny_bind (wpAny_bind (m := Builtin.Tuple.tupleExact _) (wpAny_newObj_type (wpAny_pure ⟨_, rfl, wpAny_pure h⟩) htake))
def tRevA (K : PySem.W.Frag) (te : TE) : TE := fun σ H Q => te σ H fun x H1 => ∃ a xs, x = .ref a ∧ SqT K H1 a xs ∧ ∀ p, H1 p = none → Q (.ref p) (upd H1 p (.tup xs.reverse))
theorem pe_revT {e : Expr} {te : TE} {k : Nat} {p1 p2 p3 pos : Pos} (he : PE X e te) : PE X (.Subscript e (.Slice none none (some (.UnaryOp .USub (.Constant (.int 1) k p1) p2)) p3) pos) (tRevA X.K te) := by
  refine ⟨fun pins s σ H Q I h => ?_⟩
  refine Subscript_ (thn (he.run pins s σ H _ I h) fun v s1 ⟨x, H1, I1, r1, q1⟩ => ?_)
  obtain ⟨a, xs, ex, hx, q⟩ := q1
  subst ex
  cases r1
  have hst : PO X (some (.UnaryOp .USub (.Constant (.int 1) k p1) p2)) (tPart (tUn (rU fun i => .int (-i)) (tC (.int 1)))) := po_some (pe_un un_neg pe_int)
  refine wpAny_Slice (thn (po_none.run pins s1 σ H1 (fun o H2 => o = none ∧ H2 = H1) I1 ⟨rfl, rfl⟩) fun vl s2 ⟨l, H2, I2, pl, el, e2⟩ => ?_)
  subst el e2
  refine thn (po_none.run pins s2 σ H2 (fun o H3 => o = none ∧ H3 = H2) I2 ⟨rfl, rfl⟩) fun vu s3 ⟨u, H3, I3, pu, eu, e3⟩ => ?_
  subst eu e3
  refine thn (hst.run pins s3 σ H3 (fun o H4 => o = some (-1) ∧ H4 = H3) I3 ⟨1, rfl, -1, rfl, rfl, rfl⟩) fun vs s4 ⟨o, H4, I4, ps, eo, e4⟩ => ?_
  subst eo e4
  cases pl
  cases pu
  have I5 : Inv X pins σ H4 { s4 with heap := s4.heap.push { cls := .type "slice", data := .fields #[.none, .none, vs] } } := I4.kept (t' := s4.toks) fun b ob q => Heap.get?_push_of_some _ q
  obtain ⟨its, r, ht, hz⟩ := I5.tuple hx
  have hlen := r.length
  show wpAny (model X.prog X.w) X.A (subscriptTail e (.Slice none none (some (.UnaryOp .USub (.Constant (.int 1) k p1) p2)) p3) (.ref a) (.ref s4.heap.objs.size)) (EP X pins σ Q) X.xe { s4 with heap := s4.heap.push { cls := .type "slice", data := .fields #[.none, .none, vs] } }
  refine tail_any (ops := [.ref a, .ref s4.heap.objs.size]) ht.typeIs (PyProof.Rows.slot_tuple_getitem.lookup) ?_ (by with_unfolding_all rfl)
  refine getItem_tuple_rev ht (Heap.IsSliceOf.new _ .none .none vs) ps ?_ (by rw [List.size_toArray]; omega)
  refine ⟨.ref _, _, I5.laid (t' := s4.toks) (o := .tup xs.reverse) (fun b ob q => Heap.get?_push_of_some _ q) (Nat.le_refl _) ?_, rfl, q _ (I5.hok.fresh (Nat.le_refl _))⟩
  exact ⟨by rw [List.length_reverse]; exact hz, _, r.reverse, IsTup.new _ _⟩
end
end L2

set_option Elab.async false
set_option linter.all false
set_option maxRecDepth 100000
set_option maxHeartbeats 4000000
namespace Den
variable {hox : Option Addr}
open PySem PySem.Spec PyProof.Rows L2

/-! ### operators on data -/
section
variable {K : PySem.W.Frag} {mg : Str → Option Value} {h : Addr → Prop} {H : Hp}
theorem new_lst {p : Addr} {ws : List V} {zs : List D} (nh : ∀ p, h p → ∃ o, H p = some o) (n : H p = none) (r : RepL K mg (hid h H) ws zs) : Rep K mg (hid h (upd H p (.lst ws))) (.ref p) (.lst zs) := by
  have np : ¬ h p := fun z => by
    obtain ⟨o, e⟩ := nh p z
    rw [n] at e; cases e
  exact .lst ((hid_no np).trans upd_same) (r.mono (hid_le fun b o nb e => ⟨nb, same_new n b o e⟩))
theorem new_tup {p : Addr} {ws : List V} {zs : List D} (nh : ∀ p, h p → ∃ o, H p = some o) (n : H p = none) (r : RepL K mg (hid h H) ws zs) : Rep K mg (hid h (upd H p (.tup ws))) (.ref p) (.tup zs) := by
  have np : ¬ h p := fun z => by
    obtain ⟨o, e⟩ := nh p z
    rw [n] at e; cases e
  exact .tup ((hid_no np).trans upd_same) (r.mono (hid_le fun b o nb e => ⟨nb, same_new n b o e⟩))
end
def gAdd : D → D → Option D
  | .int i, .int j => some (.int (i + j))
  | .str x, .str y => if fits (x.length + y.length) = true then some (.str (x ++ y)) else none
  | .tup xs, .tup ys => if fits (xs.length + ys.length) = true then some (.tup (xs ++ ys)) else none
  | .lst xs, .lst ys => if fits (xs.length + ys.length) = true then some (.lst (xs ++ ys)) else none
  | _, _ => none
def rAdds (K : PySem.W.Frag) : R2 := fun x y H Q => rI0 (fun i j => .int (i + j)) x y H Q ∨ (∃ i j, x = .str i ∧ y = .str j ∧ i.length + j.length ≤ sizeLine ∧ Q (.str (i ++ j)) H) ∨ rCatA K x y H Q ∨ rCat x y H Q
theorem op_adds {X : Cx} : OpR X (binaryOp .Add) (rAdds X.K) := op_add.or (op_add_str.or (op_catA.or op_cat))
theorem r2_add {K : PySem.W.Frag} {mg : Str → Option Value} : R2S K mg (rAdds K) gAdd := by
  intro h H x y dx dy dz Q nh rx ry e q
  unfold gAdd at e
  split at e
  · cases rx; cases ry; cases e
    exact .inl ⟨_, _, rfl, rfl, q _ H (Same.refl _) (.int _)⟩
  · split at e
    · rename_i f
      cases rx; cases ry; cases e
      exact .inr (.inl ⟨_, _, rfl, rfl, fits_le f, q _ H (Same.refl _) (.str _)⟩)
    · cases e
  · split at e
    · rename_i xs ys f
      cases e
      obtain ⟨a, vs, rfl, ht, rl⟩ : ∃ a vs, x = .ref a ∧ (hid h H) a = some (.tup vs) ∧ RepL K mg (hid h H) vs xs := by cases rx with | tup a b => exact ⟨_, _, rfl, a, b⟩
      obtain ⟨b, ws, rfl, ht', rl'⟩ : ∃ a vs, y = .ref a ∧ (hid h H) a = some (.tup vs) ∧ RepL K mg (hid h H) vs ys := by cases ry with | tup a b => exact ⟨_, _, rfl, a, b⟩
      refine .inr (.inr (.inl ⟨a, b, vs, ws, rfl, rfl, .inl (.inl (hid_some ht).2), .inl (.inl (hid_some ht').2), by rw [rl.length, rl'.length]; exact fits_le f, fun z => ?_, fun _ z => ?_, fun _ _ p n => ?_⟩))
      · subst z
        cases rl
        exact q _ H (Same.refl _) (.tup ht' rl')
      · subst z
        cases rl'
        rw [List.append_nil] at q
        exact q _ H (Same.refl _) (.tup ht rl)
      · exact q _ _ (same_new n) (new_tup nh n (rl.append rl'))
    · cases e
  · split at e
    · rename_i xs ys f
      cases e
      obtain ⟨a, vs, rfl, ht, rl⟩ : ∃ a vs, x = .ref a ∧ (hid h H) a = some (.lst vs) ∧ RepL K mg (hid h H) vs xs := by cases rx with | lst a b => exact ⟨_, _, rfl, a, b⟩
      obtain ⟨b, ws, rfl, ht', rl'⟩ : ∃ a vs, y = .ref a ∧ (hid h H) a = some (.lst vs) ∧ RepL K mg (hid h H) vs ys := by cases ry with | lst a b => exact ⟨_, _, rfl, a, b⟩
      exact .inr (.inr (.inr ⟨a, b, vs, ws, rfl, rfl, (hid_some ht).2, (hid_some ht').2, by rw [rl.length, rl'.length]; exact fits_le f, fun p n => q _ _ (same_new n) (new_lst nh n (rl.append rl'))⟩))
    · cases e
  · cases e
def gSub : D → D → Option D
  | .int i, .int j => some (.int (i - j))
  | _, _ => none
theorem r2_sub {K : PySem.W.Frag} {mg : Str → Option Value} : R2S K mg (rI0 fun i j => .int (i - j)) gSub := by
  intro h H x y dx dy dz Q nh rx ry e q
  unfold gSub at e
  split at e
  · cases rx; cases ry; cases e
    exact ⟨_, _, rfl, rfl, q _ H (Same.refl _) (.int _)⟩
  · cases e
def i64 (i : Int) : Bool := decide (-(2 ^ 64) < i) && decide (i < 2 ^ 64)
theorem i64_iff {j : Int} (h : i64 j = true) : -(2 ^ 64) < j ∧ j < 2 ^ 64 := by
  unfold i64 at h
  rw [Bool.and_eq_true] at h
  exact ⟨of_decide_eq_true h.1, of_decide_eq_true h.2⟩
def gMul : D → D → Option D
  | .int i, .int j => if (i64 i || i64 j) = true then some (.int (i * j)) else none
  | .tup xs, .int k => if (!xs.isEmpty && decide (-1000 ≤ k) && decide (k ≤ 1000) && decide (xs.length ≤ 1000)) = true then some (.tup (List.replicate k.toNat xs).flatten) else none
  | .lst xs, .int k => if (decide (-1000 ≤ k) && decide (k ≤ 1000) && decide (xs.length ≤ 1000)) = true then some (.lst (List.replicate k.toNat xs).flatten) else none
  | _, _ => none
def rMuls (K : PySem.W.Frag) : R2 := fun x y H Q => rI CMul (fun i j => .int (i * j)) x y H Q ∨ rRepA K x y H Q ∨ rRep x y H Q
theorem op_muls {X : Cx} : OpR X (binaryOp .Mult) (rMuls X.K) := op_mul.or (op_repA.or op_rep)
theorem repL_rep {K : PySem.W.Frag} {mg : Str → Option Value} {G : Hp} {vs : List V} {ds : List D} (r : RepL K mg G vs ds) : ∀ k : Nat, RepL K mg G (List.replicate k vs).flatten (List.replicate k ds).flatten
  | 0 => .nil
  | k + 1 => by
    rw [List.replicate_succ, List.replicate_succ, List.flatten_cons, List.flatten_cons]
    exact r.append (repL_rep r k)
theorem r2_mul {K : PySem.W.Frag} {mg : Str → Option Value} : R2S K mg (rMuls K) gMul := by
  intro h H x y dx dy dz Q nh rx ry e q
  unfold gMul at e
  split at e
  · split at e
    · rename_i f
      cases rx; cases ry; cases e
      refine .inl ⟨_, _, rfl, rfl, ?_, q _ H (Same.refl _) (.int _)⟩
      rw [Bool.or_eq_true] at f
      rcases f with f | f
      · exact .inl (i64_iff f)
      · exact .inr (i64_iff f)
    · cases e
  · split at e
    · rename_i xs k f
      cases e
      simp only [Bool.and_eq_true, decide_eq_true_eq, Bool.not_eq_true'] at f
      obtain ⟨⟨⟨f1, f2⟩, f3⟩, f4⟩ := f
      cases ry
      obtain ⟨a, vs, rfl, ht, rl⟩ : ∃ a vs, x = .ref a ∧ (hid h H) a = some (.tup vs) ∧ RepL K mg (hid h H) vs xs := by cases rx with | tup a b => exact ⟨_, _, rfl, a, b⟩
      refine .inr (.inl ⟨a, k, vs, rfl, rfl, .inl (.inl (hid_some ht).2), fun z => ?_, f2, f3, by rw [rl.length]; exact f4, fun z => ?_, fun _ p n => ?_⟩)
      · subst z
        cases rl
        cases f1
      · subst z
        rw [show (List.replicate (1 : Int).toNat xs).flatten = xs by simp [List.replicate]] at q
        exact q _ H (Same.refl _) (.tup ht rl)
      · exact q _ _ (same_new n) (new_tup nh n (repL_rep rl k.toNat))
    · cases e
  · split at e
    · rename_i xs k f
      cases e
      simp only [Bool.and_eq_true, decide_eq_true_eq] at f
      obtain ⟨⟨f2, f3⟩, f4⟩ := f
      cases ry
      obtain ⟨a, vs, rfl, ht, rl⟩ : ∃ a vs, x = .ref a ∧ (hid h H) a = some (.lst vs) ∧ RepL K mg (hid h H) vs xs := by cases rx with | lst a b => exact ⟨_, _, rfl, a, b⟩
      refine .inr (.inr ⟨a, k, vs, rfl, rfl, (hid_some ht).2, by omega, by omega, ?_, fun p n => q _ _ (same_new n) (new_lst nh n (repL_rep rl k.toNat))⟩)
      rw [rl.length, sizeLine_eq]
      have : xs.length * k.toNat ≤ 1000 * 1000 := Nat.mul_le_mul f4 (by omega)
      omega
    · cases e
  · cases e
def gFDiv : D → D → Option D
  | .int i, .int j => if (decide (0 < j) && decide (j.natAbs.log2 < 9000)) = true then some (.int (i / j)) else none
  | _, _ => none
theorem r2_fdiv {K : PySem.W.Frag} {mg : Str → Option Value} : R2S K mg (rI CDivW fun i j => .int (i / j)) gFDiv := by
  intro h H x y dx dy dz Q nh rx ry e q
  unfold gFDiv at e
  split at e
  · split at e
    · rename_i f
      rw [Bool.and_eq_true] at f
      cases rx; cases ry; cases e
      exact ⟨_, _, rfl, rfl, ⟨of_decide_eq_true f.1, of_decide_eq_true f.2⟩, q _ H (Same.refl _) (.int _)⟩
    · cases e
  · cases e
def gMod : D → D → Option D
  | .int i, .int j => if 0 < j then some (.int (i % j)) else none
  | _, _ => none
theorem r2_mod {K : PySem.W.Frag} {mg : Str → Option Value} : R2S K mg (rI (fun _ j => 0 < j) fun i j => .int (i % j)) gMod := by
  intro h H x y dx dy dz Q nh rx ry e q
  unfold gMod at e
  split at e
  · split at e
    · rename_i f
      cases rx; cases ry; cases e
      exact ⟨_, _, rfl, rfl, f, q _ H (Same.refl _) (.int _)⟩
    · cases e
  · cases e
def gPow : D → D → Option D
  | .int i, .int j => if (decide (0 ≤ j) && decide (j ≤ 1000000) && decide (i.natAbs < 2 ^ 64)) = true then some (.int (i ^ j.toNat)) else none
  | _, _ => none
theorem r2_pow {K : PySem.W.Frag} {mg : Str → Option Value} : R2S K mg (rI CPow fun i j => .int (i ^ j.toNat)) gPow := by
  intro h H x y dx dy dz Q nh rx ry e q
  unfold gPow at e
  split at e
  · split at e
    · rename_i f
      simp only [Bool.and_eq_true, decide_eq_true_eq] at f
      cases rx; cases ry; cases e
      exact ⟨_, _, rfl, rfl, ⟨f.1.1, f.1.2, f.2⟩, q _ H (Same.refl _) (.int _)⟩
    · cases e
  · cases e
def gNeg : D → Option D
  | .int i => some (.int (-i))
  | _ => none
theorem r1_neg {K : PySem.W.Frag} {mg : Str → Option Value} : R1S K mg (rU fun i => .int (-i)) gNeg := by
  intro h H x dx dz Q nh rx e q
  unfold gNeg at e
  split at e
  · cases rx; cases e
    exact ⟨_, rfl, q _ H (Same.refl _) (.int _)⟩
  · cases e
/-! comparisons -/
mutual
def D.py : D → Option PyData
  | .non => some .none
  | .bl b => some (.bool b)
  | .int i => some (.int i)
  | .str x => some (.str x)
  | .tup xs => (D.pyL xs).map .tuple
  | .lst xs => (D.pyL xs).map .list
  | _ => none
def D.pyL : List D → Option (List PyData)
  | [] => some []
  | d :: ds => match D.py d, D.pyL ds with
    | some a, some as => some (a :: as)
    | _, _ => none
end
section
variable {K : PySem.W.Frag} {mg : Str → Option Value} {G G' : Hp} (l : Le G G')
mutual
theorem py_dp : ∀ {v : V} {d : D} {p : PyData}, Rep K mg G v d → d.py = some p → Dp K G v p
  | _, _, _, .non, e => by simp only [D.py, Option.some.injEq] at e; subst e; exact .non
  | _, _, _, .bl b, e => by simp only [D.py, Option.some.injEq] at e; subst e; exact .bl b
  | _, _, _, .int b, e => by simp only [D.py, Option.some.injEq] at e; subst e; exact .int b
  | _, _, _, .str b, e => by simp only [D.py, Option.some.injEq] at e; subst e; exact .str b
  | _, .tup xs, p, .tup h r, e => by
    simp only [D.py] at e
    cases z : D.pyL xs with
    | none => rw [z] at e; cases e
    | some ps => rw [z] at e; cases e; exact .tup (.inl (.inl h)) (pyL_dp r z)
  | _, .lst xs, p, .lst h r, e => by
    simp only [D.py] at e
    cases z : D.pyL xs with
    | none => rw [z] at e; cases e
    | some ps => rw [z] at e; cases e; exact .lst (.of h) (pyL_dp r z)
  | _, _, _, .dic _ _, e => by simp only [D.py] at e; cases e
  | _, _, _, .obj _ _ _, e => by simp only [D.py] at e; cases e
  | _, _, _, .scr _, e => by simp only [D.py] at e; cases e
  | _, _, _, .ktup _ _, e => by simp only [D.py] at e; cases e
  | _, _, _, .exn0 _ _ _, e => by simp only [D.py] at e; cases e
  | _, _, _, .exnD _ _ _ _ _, e => by simp only [D.py] at e; cases e
theorem pyL_dp : ∀ {vs : List V} {ds : List D} {ps : List PyData}, RepL K mg G vs ds → D.pyL ds = some ps → DpAll K G vs ps
  | _, _, _, .nil, e => by simp only [D.pyL, Option.some.injEq] at e; subst e; exact .nil
  | _, d :: ds, ps, .cons r rs, e => by
    simp only [D.pyL] at e
    cases z1 : d.py with
    | none => rw [z1] at e; cases e
    | some a =>
      cases z2 : D.pyL ds with
      | none => rw [z1, z2] at e; cases e
      | some as => rw [z1, z2] at e; cases e; exact .cons (py_dp r z1) (pyL_dp rs z2)
end
end
theorem dp_le {K : PySem.W.Frag} {G G' : Hp} (l : Le G G') : ∀ (p : PyData) (v : V), Dp K G v p → Dp K G' v p := by
  intro p v h
  exact Dp.rec (K := K) (H := G) (motive_1 := fun v p _ => Dp K G' v p) (motive_2 := fun vs ps _ => DpAll K G' vs ps) .non (fun b => .bl b) (fun b => .int b) (fun b => .str b)
    (fun h _ ih => .lst (l.sqL h) ih) (fun h _ ih => .tup (l.sqT h) ih) .nil (fun _ _ a b => .cons a b) h
/-- == of data -/
def eqD (x y : D) : Option Bool := match x.py, y.py with
  | some a, some b => if (SeqAt.shaped a && SeqAt.shaped b) = true then some (PyData.eqv a b) else none
  | _, _ => none
def gEq (x y : D) : Option D := (eqD x y).map .bl
def gNe (x y : D) : Option D := (eqD x y).map fun b => .bl (!b)
theorem eqD_dp {K : PySem.W.Frag} {mg : Str → Option Value} {G G' : Hp} {x y : V} {dx dy : D} {b : Bool} (l : Le G G') (rx : Rep K mg G x dx) (ry : Rep K mg G y dy) (e : eqD dx dy = some b) : ∃ p q, Dp K G' x p ∧ Dp K G' y q ∧ SeqAt.shaped p = true ∧ SeqAt.shaped q = true ∧ PyData.eqv p q = b := by
  unfold eqD at e
  split at e
  · rename_i p q e1 e2
    split at e
    · rename_i f
      cases e
      rw [Bool.and_eq_true] at f
      exact ⟨p, q, dp_le l _ _ (py_dp rx e1), dp_le l _ _ (py_dp ry e2), f.1, f.2, rfl⟩
    · cases e
  · cases e
theorem r2_eq {K : PySem.W.Frag} {mg : Str → Option Value} : R2S K mg (rEqD K) gEq := by
  intro h H x y dx dy dz Q nh rx ry e q
  unfold gEq at e
  cases z : eqD dx dy with
  | none => rw [z] at e; cases e
  | some b =>
    rw [z] at e; cases e
    obtain ⟨p, p', a1, a2, a3, a4, a5⟩ := eqD_dp hid_base rx ry z
    exact ⟨p, p', a1, a2, a3, a4, by rw [a5]; exact q _ H (Same.refl _) (.bl _)⟩
theorem r2_ne {K : PySem.W.Frag} {mg : Str → Option Value} : R2S K mg (rNeD K) gNe := by
  intro h H x y dx dy dz Q nh rx ry e q
  unfold gNe at e
  cases z : eqD dx dy with
  | none => rw [z] at e; cases e
  | some b =>
    rw [z] at e; cases e
    obtain ⟨p, p', a1, a2, a3, a4, a5⟩ := eqD_dp hid_base rx ry z
    exact ⟨p, p', a1, a2, a3, a4, by rw [a5]; exact q _ H (Same.refl _) (.bl _)⟩
def gCmp (f : Int → Int → Bool) : D → D → Option D
  | .int i, .int j => some (.bl (f i j))
  | _, _ => none
theorem r2_cmp {K : PySem.W.Frag} {mg : Str → Option Value} {f : Int → Int → Bool} : R2S K mg (rI0 fun i j => .bl (f i j)) (gCmp f) := by
  intro h H x y dx dy dz Q nh rx ry e q
  unfold gCmp at e
  split at e
  · cases rx; cases ry; cases e
    exact ⟨_, _, rfl, rfl, q _ H (Same.refl _) (.bl _)⟩
  · cases e
def lt' (i j : Int) : Bool := decide (i < j)
def le' (i j : Int) : Bool := decide (i ≤ j)
def gt' (i j : Int) : Bool := decide (j < i)
def ge' (i j : Int) : Bool := decide (j ≤ i)
def D.isN : D → Bool
  | .non => true
  | _ => false
theorem rep_isN {K : PySem.W.Frag} {mg : Str → Option Value} {G : Hp} {v : V} {d : D} (r : Rep K mg G v d) : decide (v = .non) = d.isN := by
  cases r <;> rfl
def gIsN (x y : D) : Option D := if y.isN = true then some (.bl x.isN) else none
def gNotN (x y : D) : Option D := if y.isN = true then some (.bl (!x.isN)) else none
theorem isN_non {K : PySem.W.Frag} {mg : Str → Option Value} {G : Hp} {v : V} {d : D} (r : Rep K mg G v d) (h : d.isN = true) : v = .non := of_decide_eq_true ((rep_isN r).trans h)
theorem r2_isN {K : PySem.W.Frag} {mg : Str → Option Value} : R2S K mg (fun x y H Q => y = .non ∧ Q (.bl (decide (x = .non))) H) gIsN := by
  intro h H x y dx dy dz Q nh rx ry e q
  unfold gIsN at e
  split at e
  · rename_i f
    cases e
    exact ⟨isN_non ry f, by rw [rep_isN rx]; exact q _ H (Same.refl _) (.bl _)⟩
  · cases e
theorem r2_notN {K : PySem.W.Frag} {mg : Str → Option Value} : R2S K mg (fun x y H Q => y = .non ∧ Q (.bl (!decide (x = .non))) H) gNotN := by
  intro h H x y dx dy dz Q nh rx ry e q
  unfold gNotN at e
  split at e
  · rename_i f
    cases e
    exact ⟨isN_non ry f, by rw [rep_isN rx]; exact q _ H (Same.refl _) (.bl _)⟩
  · cases e
/-! in -/
def flatD : D → Bool
  | .non => true
  | .bl _ => true
  | .int _ => true
  | .str _ => true
  | _ => false
def eqF : D → D → Bool
  | .non, .non => true
  | .bl a, .bl b => a == b
  | .bl a, .int b => (if a then 1 else 0) == b
  | .int a, .bl b => a == (if b then 1 else 0)
  | .int a, .int b => a == b
  | .str a, .str b => a == b
  | _, _ => false
def gIn (x y : D) : Option D := match y.items with
  | some ds => if (flatD x && ds.all flatD) = true then some (.bl (ds.any fun d => eqF d x)) else none
  | none => none
def gNotIn (x y : D) : Option D := match y.items with
  | some ds => if (flatD x && ds.all flatD) = true then some (.bl (!(ds.any fun d => eqF d x))) else none
  | none => none
theorem rep_flat {K : PySem.W.Frag} {mg : Str → Option Value} {G : Hp} {v : V} {d : D} (r : Rep K mg G v d) (h : flatD d = true) : flatV v = true := by
  cases r <;> first | rfl | cases h
theorem rep_eqF {K : PySem.W.Frag} {mg : Str → Option Value} {G : Hp} {v w : V} {d e : D} (r : Rep K mg G v d) (r' : Rep K mg G w e) (h : flatD d = true) (h' : flatD e = true) : eqV v w = eqF d e := by
  cases r <;> first | (cases h; done) | (cases r' <;> first | rfl | (cases h'; done))
theorem rep_inV {K : PySem.W.Frag} {mg : Str → Option Value} {G : Hp} {v : V} {d : D} (r : Rep K mg G v d) (hd : flatD d = true) : ∀ {vs : List V} {ds : List D}, RepL K mg G vs ds → ds.all flatD = true → vs.all flatV = true ∧ inV v vs = ds.any fun e => eqF e d
  | _, [], .nil, _ => ⟨rfl, rfl⟩
  | _, e :: ds, .cons r1 r2, h => by
    rw [List.all_cons, Bool.and_eq_true] at h
    obtain ⟨a, b⟩ := rep_inV r hd r2 h.2
    refine ⟨by rw [List.all_cons, rep_flat r1 h.1, a]; rfl, ?_⟩
    unfold inV at b ⊢
    rw [List.any_cons, List.any_cons, rep_eqF r1 r h.1 hd, b]
theorem items_sq {K : PySem.W.Frag} {mg : Str → Option Value} {h : Addr → Prop} {H : Hp} {y : V} {dy : D} {ds : List D} (ry : Rep K mg (hid h H) y dy) (e : dy.items = some ds) : ∃ p xs, y = .ref p ∧ (SqL K H p xs ∨ SqT K H p xs) ∧ RepL K mg (hid h H) xs ds := by
  cases ry with
  | tup a b => cases e; exact ⟨_, _, rfl, .inr (.inl (.inl (hid_some a).2)), b⟩
  | ktup a b => cases e; exact ⟨_, _, rfl, .inr (Le.sqT hid_base a), b⟩
  | lst a b => cases e; exact ⟨_, _, rfl, .inl (.of (hid_some a).2), b⟩
  | scr a => cases e; exact ⟨_, _, rfl, .inl (Le.sqL hid_base a), repL_ints _⟩
  | _ => cases e
theorem r2_in {K : PySem.W.Frag} {mg : Str → Option Value} : R2S K mg (rIn K false) gIn := by
  intro h H x y dx dy dz Q nh rx ry e q
  unfold gIn at e
  split at e
  · rename_i ds ei
    split at e
    · rename_i f
      cases e
      rw [Bool.and_eq_true] at f
      obtain ⟨p, xs, rfl, hs, rl⟩ := items_sq ry ei
      obtain ⟨a, b⟩ := rep_inV rx f.1 rl f.2
      exact ⟨p, xs, rfl, hs, rep_flat rx f.1, a, by rw [if_neg Bool.false_ne_true, b]; exact q _ H (Same.refl _) (.bl _)⟩
    · cases e
  · cases e
theorem r2_notIn {K : PySem.W.Frag} {mg : Str → Option Value} : R2S K mg (rIn K true) gNotIn := by
  intro h H x y dx dy dz Q nh rx ry e q
  unfold gNotIn at e
  split at e
  · rename_i ds ei
    split at e
    · rename_i f
      cases e
      rw [Bool.and_eq_true] at f
      obtain ⟨p, xs, rfl, hs, rl⟩ := items_sq ry ei
      obtain ⟨a, b⟩ := rep_inV rx f.1 rl f.2
      exact ⟨p, xs, rfl, hs, rep_flat rx f.1, a, by rw [if_pos rfl, b]; exact q _ H (Same.refl _) (.bl _)⟩
    · cases e
  · cases e
/-! subscripts -/
def gIx : D → D → Option D
  | .str x, .int i => if fits x.length = true then (atI x.cps.toList i).map fun c => .str ⟨#[c]⟩ else none
  | d, .int i => match d.items with
    | some ds => atI ds i
    | none => none
  | _, _ => none
theorem repL_atI {K : PySem.W.Frag} {mg : Str → Option Value} {G : Hp} {vs : List V} {ds : List D} {i : Int} {d : D} (r : RepL K mg G vs ds) (e : atI ds i = some d) : ∃ v, atI vs i = some v ∧ Rep K mg G v d := by
  unfold atI at e ⊢
  rw [r.length]
  cases z : ixN ds.length i with
  | none => rw [z] at e; cases e
  | some j =>
    rw [z] at e
    exact r.get e
theorem r2_ix {K : PySem.W.Frag} {mg : Str → Option Value} : R2S K mg (rIx K) gIx := by
  intro h H x y dx dy dz Q nh rx ry e q
  unfold gIx at e
  split at e
  · split at e
    · rename_i z i f
      cases rx; cases ry
      cases hz : atI z.cps.toList i with
      | none => rw [hz] at e; cases e
      | some c =>
        rw [hz] at e; cases e
        exact .inr (.inr ⟨_, _, c, rfl, rfl, fits_le f, hz, q _ H (Same.refl _) (.str _)⟩)
    · cases e
  · rename_i i _
    cases ry
    split at e
    · rename_i ds ei
      obtain ⟨p, xs, rfl, hs, rl⟩ := items_sq rx ei
      obtain ⟨v, e1, rv⟩ := repL_atI rl e
      rcases hs with hs | hs
      · exact .inl ⟨p, xs, _, v, rfl, rfl, hs, e1, q _ H (Same.refl _) rv⟩
      · exact .inr (.inl ⟨p, xs, _, v, rfl, rfl, hs, e1, q _ H (Same.refl _) rv⟩)
    · cases e
  · cases e
end Den

set_option Elab.async false
set_option linter.all false
set_option maxRecDepth 100000
set_option maxHeartbeats 4000000
namespace Den
variable {hox : Option Addr}
open PySem PySem.Spec PyProof.Rows L2

/-! ### slices -/
def cutD (xs : List D) (lo hi : Option Int) : List D := (xs.drop (HT.sIx xs.length 0 lo)).take (HT.sIx xs.length xs.length hi - HT.sIx xs.length 0 lo)
theorem repL_drop {K : PySem.W.Frag} {mg : Str → Option Value} {G : Hp} : ∀ {n : Nat} {vs : List V} {ds : List D}, RepL K mg G vs ds → RepL K mg G (vs.drop n) (ds.drop n)
  | 0, _, _, r => r
  | n + 1, _, [], .nil => .nil
  | n + 1, _, _ :: _, .cons _ r => repL_drop (n := n) r
theorem repL_take {K : PySem.W.Frag} {mg : Str → Option Value} {G : Hp} : ∀ {n : Nat} {vs : List V} {ds : List D}, RepL K mg G vs ds → RepL K mg G (vs.take n) (ds.take n)
  | 0, _, _, r => .nil
  | n + 1, _, [], .nil => .nil
  | n + 1, _, _ :: _, .cons a r => .cons a (repL_take (n := n) r)
theorem repL_cut {K : PySem.W.Frag} {mg : Str → Option Value} {G : Hp} {vs : List V} {ds : List D} (r : RepL K mg G vs ds) (lo hi : Option Int) : RepL K mg G (cutV vs lo hi) (cutD ds lo hi) := by
  unfold cutV cutD
  rw [r.length]
  exact repL_take (repL_drop r)
def gSl (d : D) (lo hi : Option Int) : Option D := match d with
  | .tup xs => some (.tup (cutD xs lo hi))
  | .lst xs => some (.lst (cutD xs lo hi))
  | .str z => if fits z.length = true then some (.str (cutS z lo hi)) else none
  | _ => none
def rSls (K : PySem.W.Frag) : V → Option Int → Option Int → Hp → VK → Prop := fun x lo hi H Q => rSlL K x lo hi H Q ∨ rSlA K x lo hi H Q ∨ rSlS x lo hi H Q
theorem sl_all {X : Cx} : SlR X (rSls X.K) := sl_list.or (sl_tupA.or sl_str)
theorem cut_whole {xs : List D} {lo hi : Option Int} (h : HT.sIx xs.length 0 lo = 0 ∧ HT.sIx xs.length xs.length hi = xs.length) : cutD xs lo hi = xs := by
  unfold cutD
  rw [h.1, h.2, List.drop_zero, Nat.sub_zero, List.take_length]
abbrev MP := S → Out (Option Int)
def pNo : MP := fun s => .ok none s
def pSo (m : MD) : MP := fun s => (m s).bind fun d s1 => match d with
  | .int i => .ok (some i) s1
  | _ => .bad
def tPo (hox : Option Addr) (K : PySem.W.Frag) (mg : Str → Option Value) (W : WX) (m : MP) : TO := fun σ H Q => ∃ c s, StR hox K mg c s σ H ∧ Res hox K mg c s σ H W (fun o s' H' => Q o H') (m s)
abbrev SP (hox : Option Addr) (X : Cx) (W : WX) (e : Option Expr) (m : MP) : Prop := PO X e (tPo hox X.K X.mg W m)
theorem PO.imp {X : Cx} {e : Option Expr} {t t' : TO} (h : PO X e t) (i : ∀ σ H Q, t' σ H Q → t σ H Q) : PO X e t' := ⟨fun pins s σ H Q I q => h.run pins s σ H Q I (i σ H Q q)⟩
def mSl (m : MD) (lo hi : MP) : MD := fun s => (m s).bind fun d s1 => (lo s1).bind fun a s2 => (hi s2).bind fun b s3 => o2 (gSl d a b) s3
section
variable {X : Cx} {W : WX} {a b e : Expr} {es : List Expr} {ma mb m : MD} {mo : MO} {ml : ML} {pos p p2 : Pos} {x : Str} {lo hi : Option Expr} {ml' mh : MP}
theorem sp_none : SP hox X W none pNo := PO.imp po_none fun σ H Q ⟨c, s, st, q⟩ => q H (.refl st)
theorem sp_some (h : SD hox X W e m) : SP hox X W (some e) (pSo m) := PO.imp (po_some h) fun σ H Q ⟨c, s, st, q⟩ => ⟨c, s, st, q.split.imp fun d s1 H1 g1 q1 v r => by
  cases r with
  | int i => exact ⟨i, rfl, q1 H1 (.refl g1.1)⟩
  | _ => exact q1.elim⟩
theorem sd_slice (ha : SD hox X W e m) (hl : SP hox X W lo ml') (hh : SP hox X W hi mh) : SD hox X W (.Subscript e (.Slice lo hi none p2) pos) (mSl m ml' mh) :=
  PE.imp (pe_slice sl_all ha hl hh) fun σ H Q ⟨c, s, st, q⟩ => ⟨c, s, st, q.split.imp fun d s1 H1 g1 q1 v r => ⟨c, s1, g1.1, q1.split.imp fun lo s2 H2 g2 q2 => ⟨c, s2, g2.1, q2.split.imp fun hi s3 H3 g3 q3 => by
    have rv := r.mono (g2.2.trans g3.2)
    have nh := st_hid g3.1
    cases d with
    | tup xs =>
      obtain ⟨a, vs, rfl, ht, rl⟩ : ∃ a vs, v = .ref a ∧ (vis c s3 σ H3) a = some (.tup vs) ∧ RepL X.K X.mg (vis c s3 σ H3) vs xs := by cases rv with | tup a b => exact ⟨_, _, rfl, a, b⟩
      refine .inr (.inl ⟨a, vs, rfl, .inl (.inl (hid_some ht).2), fun z => ?_, fun _ p n => ?_⟩)
      · rw [rl.length] at z
        refine q3 H3 (.refl g3.1) _ ?_
        rw [cut_whole z]
        exact .tup ht rl
      · exact q3 _ (.grow g3.1 (same_new n)) _ (new_tup nh n (repL_cut rl lo hi))
    | lst xs =>
      obtain ⟨a, vs, rfl, ht, rl⟩ : ∃ a vs, v = .ref a ∧ (vis c s3 σ H3) a = some (.lst vs) ∧ RepL X.K X.mg (vis c s3 σ H3) vs xs := by cases rv with | lst a b => exact ⟨_, _, rfl, a, b⟩
      exact .inl ⟨a, vs, rfl, .of (hid_some ht).2, fun p n => q3 _ (.grow g3.1 (same_new n)) _ (new_lst nh n (repL_cut rl lo hi))⟩
    | str z =>
      cases rv
      unfold o2 gSl at q3
      by_cases f : fits z.length = true
      · simp only [if_pos f] at q3
        exact .inr (.inr ⟨z, rfl, fits_le f, q3 H3 (.refl g3.1) _ (.str _)⟩)
      · simp only [if_neg f] at q3; exact q3.elim
    | _ => exact q3.elim⟩⟩⟩
/-- t[::-1], t a tuple -/
def mRev (m : MD) : MD := fun s => (m s).bind fun d s1 => match d with
  | .tup xs => .ok (.tup xs.reverse) s1
  | _ => .bad
theorem repL_rev {K : PySem.W.Frag} {mg : Str → Option Value} {G : Hp} : ∀ {vs : List V} {ds : List D}, RepL K mg G vs ds → RepL K mg G vs.reverse ds.reverse
  | _, [], .nil => .nil
  | v :: vs, d :: ds, .cons a r => by
    rw [List.reverse_cons, List.reverse_cons]
    exact (repL_rev r).append (.cons a .nil)
theorem sd_rev {k : Nat} {p1 p3 : Pos} (he : SD hox X W e m) : SD hox X W (.Subscript e (.Slice none none (some (.UnaryOp .USub (.Constant (.int 1) k p1) p2)) p3) pos) (mRev m) :=
  PE.imp (pe_revT he) fun σ H Q ⟨c, s, st, q⟩ => ⟨c, s, st, q.split.imp fun d s1 H1 g1 q1 v r => by
    cases d with
    | tup xs =>
      obtain ⟨a, vs, rfl, ht, rl⟩ : ∃ a vs, v = .ref a ∧ (vis c s1 σ H1) a = some (.tup vs) ∧ RepL X.K X.mg (vis c s1 σ H1) vs xs := by cases r with | tup a b => exact ⟨_, _, rfl, a, b⟩
      exact ⟨a, vs, rfl, .inl (.inl (hid_some ht).2), fun p n => q1 _ (.grow g1.1 (same_new n)) _ (new_tup (st_hid g1.1) n (repL_rev rl))⟩
    | _ => exact q1.elim⟩
/-! ### calls of built-ins -/
section
variable {K : PySem.W.Frag} {mg : Str → Option Value}
def gLen : List D → Option D
  | [.str z] => if fits z.length = true then some (.int (z.length : Nat)) else none
  | [d] => d.items.map fun ds => .int (ds.length : Nat)
  | _ => none
def rLens (K : PySem.W.Frag) : List V → Hp → VK → Prop := fun xs H Q => (∃ p ys, xs = [.ref p] ∧ (SqL K H p ys ∨ SqT K H p ys) ∧ Q (.int ys.length) H) ∨ ∃ z, xs = [.str z] ∧ z.length ≤ sizeLine ∧ Q (.int z.length) H
theorem call_lens {X : Cx} : CallR X (.builtin "len") (rLens X.K) := call_len_seq.or call_len_str
theorem rc_len : RCS K mg (rLens K) gLen := by
  intro h H xs ds dz Q nh r e q
  unfold gLen at e
  split at e
  · split at e
    · rename_i z f
      cases e
      match xs, r with
      | _, .cons (.str _) .nil => exact .inr ⟨z, rfl, fits_le f, q _ H (Same.refl _) (.int _)⟩
    · cases e
  · rename_i d _
    cases z : d.items with
    | none => rw [z] at e; cases e
    | some es =>
      rw [z] at e; cases e
      match xs, r with
      | _, .cons r1 .nil =>
        obtain ⟨p, ys, rfl, hs, rl⟩ := items_sq r1 z
        exact .inl ⟨p, ys, rfl, hs, by rw [rl.length]; exact q _ H (Same.refl _) (.int _)⟩
  · cases e
def gTuple : List D → Option D
  | [.ktup _] => none
  | [d] => d.items.map .tup
  | _ => none
theorem rc_tuple : RCS K mg (fun xs H Q => ∃ p ys, xs = [.ref p] ∧ ((SqL K H p ys ∧ ∀ l, H l = none → Q (.ref l) (upd H l (.tup ys))) ∨ (SqT K H p ys ∧ Q (.ref p) H))) gTuple := by
  intro h H xs ds dz Q nh r e q
  unfold gTuple at e
  split at e
  · cases e
  · rename_i d hk
    match xs, r with
    | _, .cons r1 .nil =>
      cases r1 with
      | tup a b => cases e; exact ⟨_, _, rfl, .inr ⟨.inl (.inl (hid_some a).2), q _ H (Same.refl _) (.tup a b)⟩⟩
      | ktup a b => exact (hk _ rfl).elim
      | lst a b => cases e; exact ⟨_, _, rfl, .inl ⟨.of (hid_some a).2, fun l n => q _ _ (same_new n) (new_tup nh n b)⟩⟩
      | scr a => cases e; exact ⟨_, _, rfl, .inl ⟨Le.sqL hid_base a, fun l n => q _ _ (same_new n) (new_tup nh n (repL_ints _))⟩⟩
      | _ => cases e
  · cases e
def gList : List D → Option (List D)
  | [d] => d.items
  | _ => none
def gAbs : List D → Option D
  | [.int i] => some (.int (if i < 0 then -i else i))
  | _ => none
theorem rc_abs : RCS K mg (fun xs H Q => ∃ i, xs = [.int i] ∧ Q (.int (if i < 0 then -i else i)) H) gAbs := by
  intro h H xs ds dz Q nh r e q
  unfold gAbs at e
  split at e
  · cases e
    match xs, r with
    | _, .cons (.int _) .nil => exact ⟨_, rfl, q _ H (Same.refl _) (.int _)⟩
  · cases e
def gInt : List D → Option D
  | [.int i] => some (.int i)
  | [.bl k] => some (.int (if k then 1 else 0))
  | _ => none
theorem rc_int : RCS K mg (fun xs H Q => (∃ i, xs = [.int i] ∧ Q (.int i) H) ∨ ∃ k, xs = [.bl k] ∧ Q (.int (if k then 1 else 0)) H) gInt := by
  intro h H xs ds dz Q nh r e q
  unfold gInt at e
  split at e
  · cases e
    match xs, r with
    | _, .cons (.int _) .nil => exact .inl ⟨_, rfl, q _ H (Same.refl _) (.int _)⟩
  · cases e
    match xs, r with
    | _, .cons (.bl _) .nil => exact .inr ⟨_, rfl, q _ H (Same.refl _) (.int _)⟩
  · cases e
def D.ints : List D → Option (List Int)
  | [] => some []
  | .int i :: r => (D.ints r).map (i :: ·)
  | _ => none
def D.bools : List D → Option (List Bool)
  | [] => some []
  | .bl i :: r => (D.bools r).map (i :: ·)
  | _ => none
theorem rep_ints {G : Hp} : ∀ {vs : List V} {ds : List D} {ns : List Int}, RepL K mg G vs ds → D.ints ds = some ns → vs = ns.map V.int
  | _, [], _, .nil, e => by cases e; rfl
  | _, d :: ds, ns, .cons r rs, e => by
    unfold D.ints at e
    split at e
    · rename_i h; cases h
    · rename_i i t heq
      cases heq
      cases z : D.ints ds with
      | none => rw [z] at e; cases e
      | some ms =>
        rw [z] at e; cases e
        cases r
        rw [rep_ints rs z, List.map_cons]
    · cases e
theorem rep_bools {G : Hp} : ∀ {vs : List V} {ds : List D} {ns : List Bool}, RepL K mg G vs ds → D.bools ds = some ns → vs = ns.map V.bl
  | _, [], _, .nil, e => by cases e; rfl
  | _, d :: ds, ns, .cons r rs, e => by
    unfold D.bools at e
    split at e
    · rename_i h; cases h
    · rename_i i t heq
      cases heq
      cases z : D.bools ds with
      | none => rw [z] at e; cases e
      | some ms =>
        rw [z] at e; cases e
        cases r
        rw [rep_bools rs z, List.map_cons]
    · cases e
def bAllD : List D → Option (List Bool)
  | [.lst ds] => D.bools ds
  | _ => none
def gAll (ds : List D) : Option D := (bAllD ds).map fun bs => .bl (bs.all id)
def gAny (ds : List D) : Option D := (bAllD ds).map fun bs => .bl (bs.any id)
theorem bAll_rep {h : Addr → Prop} {H : Hp} {xs : List V} {ds : List D} {bs : List Bool} (r : RepL K mg (hid h H) xs ds) (e : bAllD ds = some bs) : ∃ a, xs = [.ref a] ∧ SqL K H a (bs.map V.bl) := by
  unfold bAllD at e
  split at e
  · match xs, r with
    | _, .cons (.lst a b) .nil => exact ⟨_, rfl, by rw [← rep_bools b e]; exact .of (hid_some a).2⟩
  · cases e
theorem rc_all : RCS K mg (rAll K) gAll := by
  intro h H xs ds dz Q nh r e q
  unfold gAll at e
  cases z : bAllD ds with
  | none => rw [z] at e; cases e
  | some bs =>
    rw [z] at e; cases e
    obtain ⟨a, ex, hs⟩ := bAll_rep r z
    exact ⟨a, bs, ex, hs, q _ H (Same.refl _) (.bl _)⟩
theorem rc_any : RCS K mg (rAny K) gAny := by
  intro h H xs ds dz Q nh r e q
  unfold gAny at e
  cases z : bAllD ds with
  | none => rw [z] at e; cases e
  | some bs =>
    rw [z] at e; cases e
    obtain ⟨a, ex, hs⟩ := bAll_rep r z
    exact ⟨a, bs, ex, hs, q _ H (Same.refl _) (.bl _)⟩
def iArg : List D → Option (List Int)
  | [.lst ds] => D.ints ds
  | _ => none
theorem iArg_rep {h : Addr → Prop} {H : Hp} {xs : List V} {ds : List D} {bs : List Int} (r : RepL K mg (hid h H) xs ds) (e : iArg ds = some bs) : ∃ a, xs = [.ref a] ∧ SqL K H a (bs.map V.int) := by
  unfold iArg at e
  split at e
  · match xs, r with
    | _, .cons (.lst a b) .nil => exact ⟨_, rfl, by rw [← rep_ints b e]; exact .of (hid_some a).2⟩
  · cases e
def gSum (ds : List D) : Option D := (iArg ds).map fun ns => .int ns.sum
def maxI : List Int → Int
  | [] => 0
  | [x] => x
  | x :: r => if maxI r < x then x else maxI r
def minI : List Int → Int
  | [] => 0
  | [x] => x
  | x :: r => if x < minI r then x else minI r
theorem maxI_mem : ∀ {ns : List Int}, ns ≠ [] → maxI ns ∈ ns ∧ ∀ y ∈ ns, y ≤ maxI ns
  | [], h => absurd rfl h
  | [x], _ => ⟨List.mem_singleton_self _, fun y hy => by rw [List.mem_singleton.mp hy]; exact Int.le_refl _⟩
  | x :: y :: r, _ => by
    obtain ⟨a, b⟩ := maxI_mem (ns := y :: r) (by simp)
    unfold maxI
    by_cases h : maxI (y :: r) < x
    · rw [if_pos h]
      refine ⟨List.mem_cons_self, fun z hz => ?_⟩
      rcases List.mem_cons.mp hz with rfl | hz
      · exact Int.le_refl _
      · have := b z hz; omega
    · rw [if_neg h]
      refine ⟨List.mem_cons_of_mem _ a, fun z hz => ?_⟩
      rcases List.mem_cons.mp hz with rfl | hz
      · omega
      · exact b z hz
theorem minI_mem : ∀ {ns : List Int}, ns ≠ [] → minI ns ∈ ns ∧ ∀ y ∈ ns, minI ns ≤ y
  | [], h => absurd rfl h
  | [x], _ => ⟨List.mem_singleton_self _, fun y hy => by rw [List.mem_singleton.mp hy]; exact Int.le_refl _⟩
  | x :: y :: r, _ => by
    obtain ⟨a, b⟩ := minI_mem (ns := y :: r) (by simp)
    unfold minI
    by_cases h : x < minI (y :: r)
    · rw [if_pos h]
      refine ⟨List.mem_cons_self, fun z hz => ?_⟩
      rcases List.mem_cons.mp hz with rfl | hz
      · exact Int.le_refl _
      · have := b z hz; omega
    · rw [if_neg h]
      refine ⟨List.mem_cons_of_mem _ a, fun z hz => ?_⟩
      rcases List.mem_cons.mp hz with rfl | hz
      · omega
      · exact b z hz
def gMax (ds : List D) : Option D := match ds with
  | [.int i, .int j] => some (.int (if j > i then j else i))
  | ds => match iArg ds with
    | some (n :: ns) => some (.int (maxI (n :: ns)))
    | _ => none
def gMin (ds : List D) : Option D := match ds with
  | [.int i, .int j] => some (.int (if j < i then j else i))
  | ds => match iArg ds with
    | some (n :: ns) => some (.int (minI (n :: ns)))
    | _ => none
def rMaxs (K : PySem.W.Frag) : List V → Hp → VK → Prop := fun xs H Q => (∃ i j, xs = [.int i, .int j] ∧ Q (.int (if j > i then j else i)) H) ∨ rMax K xs H Q
def rMins (K : PySem.W.Frag) : List V → Hp → VK → Prop := fun xs H Q => (∃ i j, xs = [.int i, .int j] ∧ Q (.int (if j < i then j else i)) H) ∨ rMin K xs H Q
theorem call_maxs {X : Cx} (hc : X.calm = true) : CallR X (.builtin "max") (rMaxs X.K) := (call_max2 hc).or (cr_max hc)
theorem call_mins {X : Cx} (hc : X.calm = true) : CallR X (.builtin "min") (rMins X.K) := (call_min2 hc).or (cr_min hc)
theorem rc_max : RCS K mg (rMaxs K) gMax := by
  intro h H xs ds dz Q nh r e q
  unfold gMax at e
  split at e
  · cases e
    match xs, r with
    | _, .cons (.int _) (.cons (.int _) .nil) => exact .inl ⟨_, _, rfl, q _ H (Same.refl _) (.int _)⟩
  · split at e
    · rename_i n ns z
      cases e
      obtain ⟨a, ex, hs⟩ := iArg_rep r z
      obtain ⟨m1, m2⟩ := maxI_mem (ns := n :: ns) (by simp)
      refine .inr ⟨a, n :: ns, ex, hs, by simp, fun m h1 h2 => ?_⟩
      have : m = maxI (n :: ns) := by
        have := m2 m h1
        have := h2 _ m1
        omega
      rw [this]
      exact q _ H (Same.refl _) (.int _)
    · cases e
theorem rc_min : RCS K mg (rMins K) gMin := by
  intro h H xs ds dz Q nh r e q
  unfold gMin at e
  split at e
  · cases e
    match xs, r with
    | _, .cons (.int _) (.cons (.int _) .nil) => exact .inl ⟨_, _, rfl, q _ H (Same.refl _) (.int _)⟩
  · split at e
    · rename_i n ns z
      cases e
      obtain ⟨a, ex, hs⟩ := iArg_rep r z
      obtain ⟨m1, m2⟩ := minI_mem (ns := n :: ns) (by simp)
      refine .inr ⟨a, n :: ns, ex, hs, by simp, fun m h1 h2 => ?_⟩
      have : m = minI (n :: ns) := by
        have := m2 m h1
        have := h2 _ m1
        omega
      rw [this]
      exact q _ H (Same.refl _) (.int _)
    · cases e
end
/-! ### isinstance -/
def D.ty : D → String
  | .non => "NoneType"
  | .bl _ => "bool"
  | .int _ => "int"
  | .str _ => "str"
  | .tup _ => "tuple"
  | .ktup _ => "tuple"
  | .lst _ => "list"
  | .scr _ => "list"
  | .dic _ => "dict"
  | .obj _ _ => ""
  | .exn _ _ => ""
def gIsi (T : String) (d : D) : Option D := match kitB d.ty T with
  | some b => match d with
    | .obj _ _ => none
    | .exn _ _ => none
    | _ => some (.bl b)
  | none => none
def mIsi (T : String) (m : MD) : MD := mUn (gIsi T) m
theorem rep_ty {K : PySem.W.Frag} {mg : Str → Option Value} {h : Addr → Prop} {H : Hp} {v : V} {d : D} (r : Rep K mg (hid h H) v d) (hd : ∀ c fs, d ≠ .obj c fs) (hx : ∀ c fs, d ≠ .exn c fs) : TyX K H v (.type d.ty) := by
  cases r with
  | non => exact .base .non
  | bl b => exact .base (.bl b)
  | int b => exact .base (.int b)
  | str b => exact .base (.str b)
  | tup a b => exact .base (.tup (hid_some a).2)
  | ktup a b =>
    rcases Le.sqT hid_base a with (z | ⟨o, z⟩) | ⟨o, its, n, z, c, _⟩
    · exact .base (.tup z)
    · exact .fTuple z
    · exact .kTuple z c
  | lst a b => exact .base (.lst (hid_some a).2)
  | scr a =>
    rcases Le.sqL hid_base a with (z | ⟨o, z⟩) | ⟨o, its, n, z, c, _⟩
    · exact .base (.lst z)
    · exact .base (.frz z)
    · exact .kList z c
  | dic a b =>
    rcases Le.rd hid_base _ _ (.inr ⟨_, a⟩) with z | ⟨o, z⟩
    · exact .base (.dK z)
    · exact .fDict z
  | obj _ _ _ => exact absurd rfl (hd _ _)
  | exn0 _ _ _ => exact absurd rfl (hx _ _)
  | exnD _ _ _ _ _ => exact absurd rfl (hx _ _)
theorem sd_isi (T : String) {y : Str} {py : Pos} (ha : SD hox X W e m) (hm : X.mg "isinstance" = none) (hmT : X.mg y = none) (hT : bootBuiltins y = some (.type T)) (hg : Gl X "isinstance" := by rfl) (hgT : Gl X y := by rfl) (hn : y ≠ "__name__" := by decide) (hd : (y == ("__debug__" : Str)) = false := by decide)
    (he : starEach [e, .Name y py] X.env = (false, eval e X.env) :: starEach [.Name y py] X.env := by rfl) (he2 : starEach [.Name y py] X.env = (false, eval (.Name y py) X.env) :: starEach [] X.env := by rfl) (hpl : (backTo pos (starEach [.Name y py] X.env)).any (·.1) = false := by rfl)
    (hv : bootBuiltins "isinstance" = some (.builtin "isinstance") := by decide +kernel) : SD hox X W (.Call (.Name "isinstance" p) [e, .Name y py] [] pos) (mIsi T m) :=
  PE.imp (pe_callB call_isi hg hm hv (pa_cons ha (pa_cons (pe_bltn (v := .ty T) hgT hmT hT rfl hn hd) pa_nil he2) he) (by decide) (by decide) he hpl) fun σ H Q ⟨c, s, st, q⟩ => ⟨c, s, st, q.split.imp fun d s1 H1 g1 q1 v r => by
    unfold o2 gIsi at q1
    cases z : kitB d.ty T with
    | none => simp only [z] at q1; exact q1.elim
    | some b =>
      simp only [z] at q1
      have no : ∀ c fs, d ≠ .obj c fs := fun c fs z => by subst z; exact q1.elim
      have nx : ∀ c fs, d ≠ .exn c fs := fun c fs z => by subst z; exact q1.elim
      have q2 : Q (.bl b) H1 := by
        cases d with
        | obj c fs => exact absurd rfl (no c fs)
        | exn c fs => exact absurd rfl (nx c fs)
        | _ => exact q1 H1 (.refl g1.1) _ (.bl b)
      exact ⟨v, .ty T, .type d.ty, .type T, b, rfl, .ty T, rep_ty r no nx, kit_ty z, q2⟩⟩
end
end Den

set_option Elab.async false
set_option linter.all false
set_option maxRecDepth 100000
set_option maxHeartbeats 4000000
namespace Den
variable {hox : Option Addr}
open PySem PySem.Spec PyProof.Rows L2

/-! ### a slot's own list, read and written in its place -/
def mutL (s : S) (i : Nat) : Option (Sl × List D) := match mutAt s i with
  | some (w, .lst xs) => some (w, xs)
  | _ => none
theorem mutL_at {s : S} {i : Nat} {w : Sl} {ds : List D} (h : mutL s i = some (w, ds)) : mutAt s i = some (w, .lst ds) := by
  unfold mutL at h
  split at h
  · rename_i w' xs e
    cases h; exact e
  · cases h
section
variable {K : PySem.W.Frag} {mg : Str → Option Value} {c : Ct} {s : S} {σ : St} {H : Hp} {i : Nat} {w : Sl} {ds es : List D} {p : Addr}
theorem StR.mutL (x : StR hox K mg c s σ H) (h : mutL s i = some (w, ds)) : ∃ p xs, σ[i]? = some (some (.ref p)) ∧ hs c s σ p ∧ H p = some (.lst xs) ∧ RepL K mg (vis c s σ H) xs ds := by
  obtain ⟨e1, e2⟩ := mutAt_some (mutL_at h)
  obtain ⟨p, e3, e4, xs, e5, e6⟩ := x.mut e1 e2
  exact ⟨p, xs, e3, e4, e5, e6⟩
theorem StR.writeL {ys : List V} (x : StR hox K mg c s σ H) (h : Den.mutL s i = some (w, ds)) (hp : σ[i]? = some (some (.ref p))) (r : RepL K mg (vis c s σ H) ys es) : Go hox K mg c s σ H (s.set i (some (w.re (.lst es)))) σ (upd H p (.lst ys)) := by
  obtain ⟨e1, e2⟩ := mutAt_some (mutL_at h)
  obtain ⟨p', xs, e3, e4, e5, e6⟩ := x.mutL h
  rw [hp] at e3; cases e3
  exact x.write e1 e2 hp (fun b o n e => by rw [upd_ne n]; exact e) ⟨ys, upd_same, r.mono (hid_le fun b o n e => ⟨n, by rw [upd_ne (fun z => n (by rw [z]; exact e4))]; exact e⟩)⟩
end
/-- x[e], x the def's own list or one lent -/
def mIxO (i : Nat) (m : MD) : MD := fun s => match mutL s i with
  | none => .bad
  | some _ => (m s).bind fun d s1 => match mutL s1 i, d with
    | some (_, xs), .int j => o2 (atI xs j) s1
    | _, _ => .bad
def mLenO (i : Nat) : MD := fun s => match mutL s i with
  | none => .bad
  | some (_, xs) => .ok (.int (xs.length : Nat)) s
def mAppend (i : Nat) (m : MD) : MO := fun s => match mutL s i with
  | none => .bad
  | some _ => (m s).bind fun d s1 => match mutL s1 i with
    | none => .bad
    | some (w, xs) => if fits (xs.length + 1) = true then .ok (.val .non) (s1.set i (some (w.re (.lst (xs ++ [d]))))) else .bad
def mPop (i : Nat) (m : MD) : MD := fun s => match mutL s i with
  | none => .bad
  | some _ => (m s).bind fun d s1 => match mutL s1 i, d with
    | some (w, xs), .int j => match ixN xs.length j with
      | some k => match xs[k]? with
        | some y => if i62 j = true then .ok y (s1.set i (some (w.re (.lst (xs.eraseIdx k))))) else .bad
        | none => .bad
      | none => .bad
    | _, _ => .bad
def mSetIx (i : Nat) (mi m : MD) : MS := fun s => (m s).bind fun d s1 => match mutL s1 i with
  | none => .bad
  | some _ => (mi s1).bind fun k s2 => match mutL s2 i, k with
    | some (w, xs), .int j => match ixN xs.length j with
      | some n => .ok .nx (s2.set i (some (w.re (.lst (xs.set n d)))))
      | none => .bad
    | _, _ => .bad
theorem repL_erase {K : PySem.W.Frag} {mg : Str → Option Value} {G : Hp} : ∀ {k : Nat} {vs : List V} {ds : List D}, RepL K mg G vs ds → RepL K mg G (vs.eraseIdx k) (ds.eraseIdx k)
  | 0, _, [], .nil => .nil
  | 0, _, _ :: _, .cons _ r => r
  | k + 1, _, [], .nil => .nil
  | k + 1, _, _ :: _, .cons a r => .cons a (repL_erase (k := k) r)
theorem repL_set {K : PySem.W.Frag} {mg : Str → Option Value} {G : Hp} {v : V} {d : D} (rv : Rep K mg G v d) : ∀ {k : Nat} {vs : List V} {ds : List D}, RepL K mg G vs ds → RepL K mg G (vs.set k v) (ds.set k d)
  | 0, _, [], .nil => .nil
  | 0, _, _ :: _, .cons _ r => .cons rv r
  | k + 1, _, [], .nil => .nil
  | k + 1, _, _ :: _, .cons a r => .cons a (repL_set rv (k := k) r)
section
variable {X : Cx} {W : WX} {a b e : Expr} {es : List Expr} {ma mb m mi : MD} {mo : MO} {ml : ML} {pos p p2 py apos : Pos} {x y : Str}
theorem sd_ixO (i : Nat) (hb : SD hox X W b m) (hN : X.N[i]? = some y := by rfl) (hv : Vis X.env.scope y := by first | exact Or.inl rfl | exact Or.inr (Or.inl rfl) | exact Or.inr (Or.inr rfl)) (hd : (y == ("__debug__" : Str)) = false := by decide)
    (hcd : (y == ("__classdict__" : Str)) = false := by decide) (hs : PlainIx b := by exact fun _ _ => rfl) : SD hox X W (.Subscript (.Name y py) b pos) (mIxO i m) :=
  PE.imp (pe_ix ix_list (pe_var hN hv hd hcd) hb hs) fun σ H Q ⟨c, s, st, q⟩ => by
    unfold mIxO at q
    cases e0 : Den.mutL s i with
    | none => simp only [e0] at q; exact q.elim
    | some wo =>
      simp only [e0] at q
      obtain ⟨w, ds⟩ := wo
      obtain ⟨p, xs, hp, _, _, _⟩ := st.mutL e0
      refine ⟨.ref p, hp, c, s, st, q.split.imp fun d s1 H1 g1 q1 v r => ?_⟩
      cases e1 : Den.mutL s1 i with
      | none => simp only [e1] at q1; exact q1.elim
      | some wo =>
        obtain ⟨w1, es⟩ := wo
        obtain ⟨p', ys, hp', _, hy, ry⟩ := g1.1.mutL e1
        rw [hp] at hp'; cases hp'
        cases r with
        | int j =>
          simp only [e1] at q1
          cases e2 : atI es j with
          | none => rw [e2] at q1; exact q1.elim
          | some d =>
            rw [e2] at q1
            obtain ⟨v, e3, rv⟩ := repL_atI ry e2
            exact ⟨p, ys, j, v, rfl, rfl, .of hy, e3, q1 H1 (.refl g1.1) v rv⟩
        | _ => simp only [e1] at q1; exact q1.elim
theorem sd_lenO (i : Nat) (hG : Gl X "len") (hm : X.mg "len" = none) (hN : X.N[i]? = some y := by rfl) (hv : Vis X.env.scope y := by first | exact Or.inl rfl | exact Or.inr (Or.inl rfl) | exact Or.inr (Or.inr rfl)) (hd : (y == ("__debug__" : Str)) = false := by decide)
    (hcd : (y == ("__classdict__" : Str)) = false := by decide) (he : starEach [.Name y py] X.env = (false, eval (.Name y py) X.env) :: starEach [] X.env := by rfl) (hpl : (backTo pos (starEach [] X.env)).any (·.1) = false := by rfl)
    (hb : bootBuiltins "len" = some (.builtin "len") := by decide +kernel) : SD hox X W (.Call (.Name "len" p) [.Name y py] [] pos) (mLenO i) :=
  PE.imp (pe_callB call_len_seq hG hm hb (pa_cons (pe_var hN hv hd hcd) pa_nil he) (by decide) (by decide) he hpl) fun σ H Q ⟨c, s, st, q⟩ => by
    unfold mLenO at q
    cases e0 : Den.mutL s i with
    | none => simp only [e0] at q; exact q.elim
    | some wo =>
      simp only [e0] at q
      obtain ⟨w, ds⟩ := wo
      obtain ⟨p, xs, hp, _, hx, rx⟩ := st.mutL e0
      exact ⟨.ref p, hp, p, xs, rfl, .inl (.of hx), by rw [rx.length]; exact q H (.refl st) _ (.int _)⟩
theorem so_append (i : Nat) (hb : SD hox X W b m) (hN : X.N[i]? = some y := by rfl) (hv : Vis X.env.scope y := by first | exact Or.inl rfl | exact Or.inr (Or.inl rfl) | exact Or.inr (Or.inr rfl)) (hd : (y == ("__debug__" : Str)) = false := by decide)
    (hcd : (y == ("__classdict__" : Str)) = false := by decide)
    (hbase : attributeBase (.Name y py) "append" X.env (eval (.Name y py) X.env) = eval (.Name y py) X.env := by rfl)
    (hfew : ((backTo pos (starEach [b] X.env)).all (fun x => !x.1) && (backToKw pos (keywordEach [] X.env)).all (fun x => x.1.isSome)
      && decide (([b] : List Expr).length + ([] : List Keyword).length + (if ([] : List Keyword).isEmpty then 0 else 1) < 30)) = true := by rfl)
    (hline : (apos.endLine == pos.line) = true := by rfl) (hs : starEach [b] X.env = (false, eval b X.env) :: starEach [] X.env := by rfl) (hplain : (backTo pos (starEach [] X.env)).any (·.1) = false := by rfl) :
    SO hox X W (.Call (.Attribute (.Name y py) "append" apos) [b] [] pos) (mAppend i m) :=
  PE.imp (pe_bm PySem.F.plainAttrs_list PySem.F.slot_list_append PySem.F.type_list_append (mt_append : MtR X "list.append" rAppend) (pe_var hN hv hd hcd) (pa_cons hb pa_nil hs) hbase hfew hline hs hplain) fun σ H Q ⟨c, s, st, q⟩ => by
    unfold mAppend at q
    cases e0 : Den.mutL s i with
    | none => simp only [e0] at q; exact q.elim
    | some wo =>
      simp only [e0] at q
      obtain ⟨w, ds⟩ := wo
      obtain ⟨p, xs, hp, _, hx, _⟩ := st.mutL e0
      refine ⟨.ref p, hp, .inl ⟨rfl, xs, .of hx⟩, c, s, st, q.split.imp fun d s1 H1 g1 q1 v r => ?_⟩
      cases e1 : Den.mutL s1 i with
      | none => simp only [e1] at q1; exact q1.elim
      | some wo =>
        obtain ⟨w1, es⟩ := wo
        simp only [e1] at q1
        obtain ⟨p', ys, hp', _, hy, ry⟩ := g1.1.mutL e1
        rw [hp] at hp'; cases hp'
        by_cases f : fits (es.length + 1) = true
        · rw [if_pos f] at q1
          refine ⟨p, ys, v, rfl, rfl, hy, by rw [ry.length]; exact fits_le f, q1 _ _ ⟨g1.1.writeL e1 hp (ry.append (.cons r .nil)), .non⟩⟩
        · rw [if_neg f] at q1; exact q1.elim
theorem sd_pop (i : Nat) (hb : SD hox X W b m) (hN : X.N[i]? = some y := by rfl) (hv : Vis X.env.scope y := by first | exact Or.inl rfl | exact Or.inr (Or.inl rfl) | exact Or.inr (Or.inr rfl)) (hd : (y == ("__debug__" : Str)) = false := by decide)
    (hcd : (y == ("__classdict__" : Str)) = false := by decide)
    (hbase : attributeBase (.Name y py) "pop" X.env (eval (.Name y py) X.env) = eval (.Name y py) X.env := by rfl)
    (hfew : ((backTo pos (starEach [b] X.env)).all (fun x => !x.1) && (backToKw pos (keywordEach [] X.env)).all (fun x => x.1.isSome)
      && decide (([b] : List Expr).length + ([] : List Keyword).length + (if ([] : List Keyword).isEmpty then 0 else 1) < 30)) = true := by rfl)
    (hline : (apos.endLine == pos.line) = true := by rfl) (hs : starEach [b] X.env = (false, eval b X.env) :: starEach [] X.env := by rfl) (hplain : (backTo pos (starEach [] X.env)).any (·.1) = false := by rfl) :
    SD hox X W (.Call (.Attribute (.Name y py) "pop" apos) [b] [] pos) (mPop i m) :=
  PE.imp (pe_bm PySem.F.plainAttrs_list PySem.F.slot_list_pop PySem.F.type_list_pop (mt_popAt : MtR X "list.pop" rPopAt) (pe_var hN hv hd hcd) (pa_cons hb pa_nil hs) hbase hfew hline hs hplain) fun σ H Q ⟨c, s, st, q⟩ => by
    unfold mPop at q
    cases e0 : Den.mutL s i with
    | none => simp only [e0] at q; exact q.elim
    | some wo =>
      simp only [e0] at q
      obtain ⟨w, ds⟩ := wo
      obtain ⟨p, xs, hp, _, hx, _⟩ := st.mutL e0
      refine ⟨.ref p, hp, .inl ⟨rfl, xs, .of hx⟩, c, s, st, q.split.imp fun d s1 H1 g1 q1 v r => ?_⟩
      cases e1 : Den.mutL s1 i with
      | none => simp only [e1] at q1; exact q1.elim
      | some wo =>
        obtain ⟨w1, es⟩ := wo
        obtain ⟨p', ys, hp', _, hy, ry⟩ := g1.1.mutL e1
        rw [hp] at hp'; cases hp'
        cases r with
        | int j =>
          simp only [e1] at q1
          cases e2 : ixN es.length j with
          | none => simp only [e2] at q1; exact q1.elim
          | some k =>
            simp only [e2] at q1
            cases e3 : es[k]? with
            | none => simp only [e3] at q1; exact q1.elim
            | some z =>
              simp only [e3] at q1
              by_cases f : i62 j = true
              · rw [if_pos f] at q1
                obtain ⟨v, ev, rv⟩ := ry.get e3
                have g := g1.1.writeL e1 hp (repL_erase (k := k) ry)
                obtain ⟨f1, f2⟩ := i62_iff f
                refine ⟨p, ys, j, k, v, rfl, rfl, hy, by omega, by omega, by rw [ry.length]; exact (ixN_seq e2).1, ev, q1 _ g v (rv.mono g.2)⟩
              · rw [if_neg f] at q1; exact q1.elim
        | _ => simp only [e1] at q1; exact q1.elim
theorem ss_setIx (i : Nat) {k0 : Nat} (he : SD hox X W e m) (hb : SD hox X W b mi) (hN : X.N[i]? = some y := by rfl) (hv : Vis X.env.scope y := by first | exact Or.inl rfl | exact Or.inr (Or.inl rfl) | exact Or.inr (Or.inr rfl)) (hd : (y == ("__debug__" : Str)) = false := by decide)
    (hcd : (y == ("__classdict__" : Str)) = false := by decide) (ha : ∀ v, assign (.Subscript (.Name y py) b p2) X.env v = (do
      let ov ← holding [v] (eval (.Name y py) X.env)
      let iv ← holding [v, ov] (eval b X.env)
      standAt p2
      holding [v, ov, iv] (setItem ov iv v)
      release [v, ov, iv] []) := by intro _; rfl)
    (hs : swapsWithSole [.Subscript (.Name y py) b p2] e pos.line X.env = pure false := by rfl) (hw : swappedStores [.Subscript (.Name y py) b p2] e X.env = pure none := by rfl)
    (h1 : (assignEach [.Subscript (.Name y py) b p2] X.env).map (·.2) = [assign (.Subscript (.Name y py) b p2) X.env] := by rfl) :
    SS hox X W (.Assign [.Subscript (.Name y py) b p2] e pos) (mSetIx i mi m) :=
  PS.imp (ps_asg he (pg_sub (pe_var hN hv hd hcd) hb set_list ha) hs hw h1) fun E σ H ⟨c, s, st, q⟩ => ⟨c, s, st, (ResS.split q).imp fun d s1 H1 g1 q1 v r => by
    cases e0 : Den.mutL s1 i with
    | none => simp only [e0] at q1; exact q1.elim
    | some wo =>
      simp only [e0] at q1
      obtain ⟨w, ds⟩ := wo
      obtain ⟨p, xs, hp, _, hx, _⟩ := g1.1.mutL e0
      refine ⟨.ref p, hp, c, s1, g1.1, (ResS.split q1).imp fun k s2 H2 g2 q2 u ru => ?_⟩
      cases e1 : Den.mutL s2 i with
      | none => simp only [e1] at q2; exact q2.elim
      | some wo =>
        obtain ⟨w1, es⟩ := wo
        obtain ⟨p', ys, hp', _, hy, ry⟩ := g2.1.mutL e1
        rw [hp] at hp'; cases hp'
        cases ru with
        | int j =>
          simp only [e1] at q2
          cases e2 : ixN es.length j with
          | none => simp only [e2] at q2; exact q2.elim
          | some n =>
            simp only [e2] at q2
            exact ⟨p, ys, j, n, rfl, rfl, hy, by rw [ry.length]; exact e2, q2 σ _ (g2.1.writeL e1 hp (repL_set (r.mono g2.2) ry))⟩
        | _ => simp only [e1] at q2; exact q2.elim⟩
/-- an operator whose result is a new list -/
def RL2S (K : PySem.W.Frag) (mg : Str → Option Value) (r : R2) (g : D → D → Option (List D)) : Prop := ∀ (h : Addr → Prop) (H : Hp) (x y : V) (dx dy : D) (zs : List D) (Q : VK), (∀ p, h p → ∃ o, H p = some o) → Rep K mg (hid h H) x dx → Rep K mg (hid h H) y dy → g dx dy = some zs →
  (∀ p ws, H p = none → RepL K mg (hid h H) ws zs → Q (.ref p) (upd H p (.lst ws))) → r x y H Q
def mBinL (g : D → D → Option (List D)) (a b : MD) : MO := fun s => (a s).bind fun x s1 => (b s1).bind fun y s2 => match g x y with
  | some xs => .ok (.own (.lst xs)) s2
  | none => .bad
theorem so_bin {op : Operator} {r : R2} {g : D → D → Option (List D)} (hg : RL2S X.K X.mg r g) (ho : OpR X (binaryOp op) r) (ha : SD hox X W a ma) (hb : SD hox X W b mb) : SO hox X W (.BinOp a op b pos) (mBinL g ma mb) :=
  PE.imp (pe_op ho ha hb) fun σ H Q ⟨c, s, st, q⟩ => ⟨c, s, st, (ResO.split q).imp fun dx s1 H1 g1 q1 vx rx => ⟨c, s1, g1.1, (ResO.split q1).imp fun dy s2 H2 g2 q2 vy ry => by
    cases e : g dx dy with
    | none => simp only [e] at q2; exact q2.elim
    | some zs =>
      simp only [e] at q2
      refine hg _ H2 _ _ dx dy zs Q (st_hid g2.1) (rx.mono g2.2) ry e fun p ws n rw1 => ?_
      obtain ⟨a1, a2, a3⟩ := g2.1.alloc (ho := .lst ws) n
      exact q2 _ _ ⟨p, _, rfl, rfl, a3, a1, a2, ws, upd_same, rw1.mono a2⟩⟩⟩
def gCatL : D → D → Option (List D)
  | .lst xs, .lst ys => if fits (xs.length + ys.length) = true then some (xs ++ ys) else none
  | _, _ => none
theorem rl2_cat {K : PySem.W.Frag} {mg : Str → Option Value} : RL2S K mg rCat gCatL := by
  intro h H x y dx dy zs Q nh rx ry e q
  unfold gCatL at e
  split at e
  · split at e
    · rename_i xs ys f
      cases e
      obtain ⟨a, vs, rfl, ht, rl⟩ : ∃ a vs, x = .ref a ∧ (hid h H) a = some (.lst vs) ∧ RepL K mg (hid h H) vs xs := by cases rx with | lst a b => exact ⟨_, _, rfl, a, b⟩
      obtain ⟨b, ws, rfl, ht', rl'⟩ : ∃ a vs, y = .ref a ∧ (hid h H) a = some (.lst vs) ∧ RepL K mg (hid h H) vs ys := by cases ry with | lst a b => exact ⟨_, _, rfl, a, b⟩
      exact ⟨a, b, vs, ws, rfl, rfl, (hid_some ht).2, (hid_some ht').2, by rw [rl.length, rl'.length]; exact fits_le f, fun p n => q p _ n (rl.append rl')⟩
    · cases e
  · cases e
def gRepL : D → D → Option (List D)
  | .lst xs, .int k => if (decide (-1000 ≤ k) && decide (k ≤ 1000) && decide (xs.length ≤ 1000)) = true then some (List.replicate k.toNat xs).flatten else none
  | _, _ => none
/-- what is not reached -/
def mBad {α : Type} : S → Out α := fun _ => .bad
/-- *e in a display -/
theorem sl_star (ha : SD hox X W e m) (hr : SL hox X W es ml) (hs : starEach (.Starred e p :: es) X.env = (true, eval e X.env) :: starEach es X.env := by rfl) : SL hox X W (.Starred e p :: es) (lStar m ml) :=
  PA.imp (StX.pa_star ha hr hs) fun σ H Q ⟨c, s, st, q⟩ => ⟨c, s, st, by
    unfold lStar at q
    refine q.split.imp fun d s1 H1 g1 q1 v r => ?_
    cases z : d.items with
    | none => simp only [z] at q1; exact q1.elim
    | some ds =>
      simp only [z] at q1
      obtain ⟨p, ys, rfl, hsq, rl⟩ := items_sq r z
      refine ⟨p, ys, rfl, hsq.symm, c, s1, g1.1, q1.split.imp fun es s2 H2 g2 q2 vs rs => ?_⟩
      exact q2 H2 (.refl g2.1) _ ((rl.mono g2.2).append rs)⟩
end
end Den

set_option Elab.async false
set_option linter.all false
set_option maxRecDepth 100000
set_option maxHeartbeats 4000000
namespace Den
variable {hox : Option Addr}
open PySem PySem.Spec PyProof.Rows L2

/-! ### exceptions -/
def mRaise0 (c : Str) : MS := fun s => .exc ⟨c, []⟩ s
section
variable {X : Cx} {W : WX} {a b e : Expr} {es : List Expr} {ma mb m mi : MD} {mo : MO} {ml : ML} {pos p p2 py apos : Pos} {x y : Str} {C : Addr}
/-- X(), X an own exception class without own __init__ -/
theorem pmk_own0 {bmB : List Value} {B newId initId : String} (F : ExcBaseFacts B newId initId bmB) (q : PySem.W.excIn X.K C bmB newId = true) (gC : X.mg x = some (.ref C)) (kC : PySem.W.keepIn X.K (.ref C) = true) (r : Raises X (.ref C)) (hg : Gl X x)
    (hdb : (x == ("__debug__" : Str)) = false := by decide) : L2N.PMk X (.Call (.Name x p) [] [] pos) (fun _ H Q => Q (.ref C) none H) := by
  intro pins s σ H Q I h
  refine wpAny_Call_Name_kw (ld_glob I hg gC ?_ hdb)
  refine PySem.W.callWith_K0 I.kIn kC ?_
  show wpAny _ _ (call (.ref C) []) _ _ _
  obtain ⟨bm, N, nm, qn, bs, hdct, sn, sub, ab, col, dd, k0, k1, k2, k3, k5, mN, hC, hN, hni, T⟩ := exc_obj I.kIn q
  refine wpAny_call_exc_subT F T hC hN hni (fun h' e hm => ?_) (Nat.zero_le _)
  exact L2N.mk_of I hm r h (I.hok.gone hm.new)
/-- raise X() -/
theorem ss_raise0 {bmB : List Value} {B newId initId : String} {rpos : Pos} (hc : X.calm = true) (tk : L2N.Takes X W) (F : ExcBaseFacts B newId initId bmB) (q : PySem.W.excIn X.K C bmB newId = true) (gC : X.mg x = some (.ref C)) (kC : PySem.W.keepIn X.K (.ref C) = true)
    (h1 : PySem.W.subIn X.K (.ref C) (.type "BaseException") = some true) (h2 : PySem.W.typeIn X.K (.ref C) = some (.type "type")) (hg : Gl X x := by rfl) (hdb : (x == ("__debug__" : Str)) = false := by decide) :
    SS hox X W (.Raise (some (.Call (.Name x p) [] [] pos)) none rpos) (mRaise0 x) :=
  PS.imp (L2N.ps_raise hc tk (pmk_own0 F q gC kC (raises_own h1 h2) hg hdb)) fun D σ H ⟨c, s, st, q⟩ => q (.ref C) none σ H (.refl st) ⟨⟨C, rfl, gC⟩, .inl ⟨rfl, rfl⟩⟩
end
/-- the clauses, one after the other: what each takes, its suite -/
def mHds : List ((Str → Option Bool) × MS) → Exc → MS
  | [], x => fun s => .exc x s
  | (t, m) :: r, x => fun s => match t x.c with
    | some true => match m s with
      | .exc _ _ => .bad
      | o => o
    | some false => mHds r x s
    | none => .bad
def mTry (b : MS) (h : List ((Str → Option Bool) × MS)) : MS := fun s => match b s with
  | .exc x s1 => mHds h x s1
  | o => o
/-- the clauses held to the code -/
inductive SH (hox : Option Addr) (X : Cx) : List ExceptHandler → List ((Str → Option Bool) × MS) → List (Value × (Addr → Value → Option Addr → TS)) → Prop
  | nil : SH hox X [] [] []
  | cons {x : Str} {c : Value} {b₀ : Stmt} {suite : List Stmt} {np pos' : Pos} {hds : List ExceptHandler} {t : Str → Option Bool} {m : MS} {l : List ((Str → Option Bool) × MS)} {ts} (hc : Names X x c)
      (ht : ∀ n b, t n = some b → ∃ C, X.mg n = some (.ref C) ∧ PySem.W.exmOne X.K (.ref C) c = some b)
      (hsu : ∀ (a : Addr) (oe : Obj) (pn : List (Addr × Obj)), SSs hox (X.suite a ((a, oe) :: pn)) W0 (b₀ :: suite) m) (r : SH hox X hds l ts) :
      SH hox X (.ExceptHandler (some (.Name x np)) none (b₀ :: suite) pos' :: hds) ((t, m) :: l) ((c, fun _ _ _ => tS hox X.K X.mg W0 m) :: ts)
theorem SH.ok {X : Cx} {hds : List ExceptHandler} {l : List ((Str → Option Bool) × MS)} {ts} (h : SH hox X hds l ts) : L2N.HdsOk X hds ts := by
  induction h with
  | nil => exact .nil
  | cons hc ht hsu r ih => exact .cons hc (fun a oe cls d pn _ _ => hsu a oe pn) ih
theorem SH.wish {X : Cx} {hds : List ExceptHandler} {l : List ((Str → Option Bool) × MS)} {ts} (h : SH hox X hds l ts) {Wout : WX} {D : Ends} {x : Exc} {c : Ct} {s : S} {σ : St} {H : Hp} {cls : Value} {dd : Option Addr} (st : StR hox X.K X.mg c s σ H)
    (r : ExcR X.K X.mg (vis c s σ H) cls dd x) (q : ResS hox X.K X.mg Wout c s σ H D (mHds l x s)) : wMany X.K Wout D ts cls dd σ H := by
  induction h with
  | nil => exact q cls dd σ H (.refl st) r
  | @cons x0 c0 b₀ suite np pos' hds t m l ts hc ht hsu r0 ih =>
    unfold mHds at q
    obtain ⟨⟨C, rfl, hC⟩, _⟩ := id r
    cases e : t x.c with
    | none => simp only [e] at q; exact q.elim
    | some b =>
      obtain ⟨C', hC', hx⟩ := ht _ _ e
      rw [hC] at hC'; cases hC'
      refine ⟨b, hx, fun hb a na => ?_, fun hb => ?_⟩
      · subst hb
        simp only [e] at q
        refine ⟨c, s, st, ?_⟩
        cases e2 : m s with
        | ok f s' =>
          simp only [e2] at q
          cases f <;> exact q
        | exc y s' => simp only [e2] at q; exact q.elim
        | bad => simp only [e2] at q; exact q.elim
      · subst hb
        simp only [e] at q
        exact ih q
section
variable {X : Cx} {W : WX} {pos : Pos} {C f : Addr} {x y : Str} {p py p2 : Pos} {e : Expr} {es : List Expr} {m : MD} {ml : ML}
/-! ### instances -/
def mMake (cn : Str) (F : FL) (n : Nat) (ml : ML) : MO := fun s => (ml s).bind fun ds s1 => if ds.length + 1 = n then match F (.ins cn []) ds with
  | .ok r s' => match r, s'[0]? with
    | .val .non, some (some (Sl.bor o')) => if o'.sub.isEmpty = true then .ok (.own o') s1 else .bad
    | _, _ => .bad
  | .exc x _ => .exc x s1
  | .bad => .bad
  else .bad
theorem run_makeS {k : Nat} {fd : FuncData} {ps : List Str} {sp : Sp} {E : XK} {CX : CXT} {pins : List (Addr × Obj)} {σ : St} {H : Hp} {s : Shared} {Q : VK} {us : List Value} {vs : List V} (M : Mk X.K C f) (F : FnOk X.prog X.w X.K X.mg X.base CX k f fd ps sp) (hr : Room (k + 1) X.A) (hb : Binds X.K fd ps [])
    (hx : PassesAt CX X σ E) (I : Inv X pins σ H s) (r : Vals vs us)
    (h : ∀ x dx, H x = none → H dx = none → dx ≠ x → sp (.ref x :: vs) (upd (upd H dx (.own x)) x (.ins C dx [])) (fun v H2 => v = .non ∧ Q (.ref x) H2) E) :
    wpAny (model X.prog X.w) X.A (call (.ref C) us) (EP X pins σ Q) X.xe s := by
  have hq := h (s.heap.objs.size + 1) s.heap.objs.size (I.hok.fresh (Nat.le_succ _)) (I.hok.fresh (Nat.le_refl _)) (Nat.ne_of_lt (Nat.lt_succ_self _))
  have I2 := Inv.made (C := C) I
  have r2 : Vals (V.ref (s.heap.objs.size + 1) :: vs) (Value.ref (s.heap.objs.size + 1) :: us) := .cons rfl r
  have hl : (Value.ref (s.heap.objs.size + 1) :: us).length = ps.length := by
    have e := r2.length
    rw [F.len _ _ _ _ hq] at e
    exact e.symm
  have hbb := hb _ (Value.ref (s.heap.objs.size + 1) :: us) I2.kIn (by rw [List.append_nil]; exact hl)
  rw [List.append_nil] at hbb
  refine wpAny_call (make_map (f := f) I.kIn M.makes M.init (beq_iff_eq.mp M.fn) (codeAny_mono (F.run _ X.stack _ _ ⟨Value.ref (s.heap.objs.size + 1) :: us, []⟩ (Value.ref (s.heap.objs.size + 1) :: us) _ _ E (hr.make C us [])
    (I2.env0.make C us []) hbb r2 hq) fun r s' hq' => ?_))
  cases r with
  | error e => exact hx pins _ _ e s' I2 hq'
  | ok fl =>
    cases fl with
    | ret u =>
      obtain ⟨v, H', I3, rv, ev, q3⟩ := I2.after hq'
      subst ev
      exact ⟨rv, ⟨V.ref (s.heap.objs.size + 1), H', I3, rfl, q3⟩⟩
    | next => exact False.elim hq'
    | brk => exact False.elim hq'
    | cont => exact False.elim hq'
def tMakeS (C : Addr) (sp : Sp) (E : St → XK) (t : TA) : TE := fun σ H Q => t σ H fun vs H1 => ∀ x dx, H1 x = none → H1 dx = none → dx ≠ x →
  sp (.ref x :: vs) (upd (upd H1 dx (.own x)) x (.ins C dx [])) (fun v H2 => v = .non ∧ Q (.ref x) H2) (E σ)
theorem pe_makeS {k : Nat} {fd : FuncData} {ps : List Str} {sp : Sp} {E : St → XK} {CX : CXT} {t : TA} (M : Mk X.K C f) (F : FnOk X.prog X.w X.K X.mg X.base CX k f fd ps sp) (hr : Room (k + 1) X.A) (hg : Gl X x) (hm : X.mg x = some (.ref C)) (hb : Binds X.K fd ps []) (hx : ∀ σ, PassesAt CX X σ (E σ))
    (ha : PA X (e :: es) t) (hdb : (x == ("__debug__" : Str)) = false := by decide) (he : starEach (e :: es) X.env = (false, eval e X.env) :: starEach es X.env := by rfl) (hpl : (backTo pos (starEach es X.env)).any (·.1) = false := by rfl) :
    PE X (.Call (.Name x p) (e :: es) [] pos) (tMakeS C sp E t) := by
  refine ⟨fun pins s σ H Q I h => ?_⟩
  refine wpAny_Call_Name_kw (ld_glob I hg hm ?_ hdb)
  refine PySem.W.callWith_K (h₀ := X.base) I.ok.mod.kin M.kp (thn (ha.run pos pins s σ H _ I h) fun us s1 ⟨vs, H1, I1, r, q⟩ => ⟨I1.kIn, ?_⟩) he hpl
  exact run_makeS M F hr hb (hx σ) I1 r q
theorem so_make {k n : Nat} {fd : FuncData} {ps : List Str} {F : FL} (M : Mk X.K C f) (FK : FnOk X.prog X.w X.K X.mg X.base (L2N.CX X.prog X.w) k f fd ps (spL X.K X.mg n F)) (hr : Room (k + 1) X.A) (hm : X.mg x = some (.ref C)) (hb : Binds X.K fd ps []) (tk : L2N.Takes X W)
    (ha : SL hox X W (e :: es) ml) (hg : Gl X x := by rfl) (hdb : (x == ("__debug__" : Str)) = false := by decide) (he : starEach (e :: es) X.env = (false, eval e X.env) :: starEach es X.env := by rfl) (hpl : (backTo pos (starEach es X.env)).any (·.1) = false := by rfl) :
    SO hox X W (.Call (.Name x p) (e :: es) [] pos) (mMake x F n ml) :=
  PE.imp (pe_makeS M FK hr hg hm hb (fun σ => L2N.passAt tk σ) ha hdb he hpl) fun σ H Q ⟨c, s, st, q⟩ => ⟨c, s, st, (ResO.split q).imp fun ds s1 H1 g1 q1 vs rs a dx n1 n2 ne => by
    by_cases hl : ds.length + 1 = n
    · rw [if_pos hl] at q1
      have h2 : ∀ b o, H1 b = some o → (upd (upd H1 dx (.own a)) a (.ins C dx [])) b = some o := fun b o eb => by
        rw [upd_ne (ne_of_none eb n1), upd_ne (ne_of_none eb n2)]; exact eb
      have ea : (upd (upd H1 dx (.own a)) a (.ins C dx [])) a = some (.ins C dx []) := upd_same
      have l : Le (vis c s1 σ H1) (hid (fun b => hs c s1 σ b ∨ b = a) (upd (upd H1 dx (.own a)) a (.ins C dx []))) := hid_le fun b o nb eb => ⟨fun z => by
        rcases z with z | z
        · exact nb z
        · exact ne_of_none eb n1 z, h2 b o eb⟩
      refine ⟨fun b => hs c s1 σ b ∨ b = a, a, .ins x [], vs, ds, rfl, fun b hb' => ?_, fun b f => .inr (foot_one rfl f), hl, ⟨C, dx, [], ea, hm, .nil⟩, rs.mono l, ?_⟩
      · rcases hb' with z | z
        · obtain ⟨o, eo⟩ := g1.1.hidden z
          exact ⟨o, h2 b o eo⟩
        · rw [z]; exact ⟨_, ea⟩
      · have sm : ∀ {H' : Hp}, Keep (foot a (.ins x [])) (upd (upd H1 dx (.own a)) a (.ins C dx [])) H' → Same H1 H' := fun {H'} kp b o eb => kp b o (fun f => ne_of_none eb n1 (foot_one rfl f)) (h2 b o eb)
        cases e1 : F (.ins x []) ds with
        | ok r s' =>
          simp only [e1] at q1
          cases r with
          | val d =>
            intro v H' kp lr rv
            split at q1
            · rename_i o' h1 h2'
              cases h1
              by_cases hz : o'.sub.isEmpty = true
              · rw [if_pos hz] at q1
                obtain ⟨ho, hp⟩ := (lr o' h2').there
                obtain ⟨a1, a2, a3⟩ := g1.1.allocG n1 (sm kp) hp
                cases rv
                exact ⟨rfl, q1 _ H' ⟨a, ho, rfl, List.isEmpty_iff.mp hz, a3, a1, a2, (lr o' h2').mono (Le.hsub fun b z => hs_ext.mp z) fun _ _ _ h => h⟩⟩
              · rw [if_neg hz] at q1
                exact q1.elim
            · exact q1.elim
          | own o => exact q1.elim
          | bor o => exact q1.elim
        | exc y s' =>
          simp only [e1] at q1
          intro cls dd H' kp _ r
          refine q1 cls dd H' (.grow g1.1 (sm kp)) (r.mono ?_)
          exact Le.hsub fun b z => .inl z
        | bad => simp only [e1] at q1; exact q1.elim
    · rw [if_neg hl] at q1; exact q1.elim⟩
/-- e.f of a datum -/
def mFld (cn f : Str) (m : MD) : MD := fun s => (m s).bind fun d s1 => match d with
  | .obj c fs => if c = cn then o2 (fs.lookup f) s1 else .bad
  | _ => .bad
theorem repF_lookup {K : PySem.W.Frag} {mg : Str → Option Value} {G : Hp} {f : Str} {d : D} : ∀ {xs : List (Str × V)} {ds : List (Str × D)}, RepF K mg G xs ds → ds.lookup f = some d → ∃ v, xs.lookup f = some v ∧ Rep K mg G v d
  | _, [], .nil, e => by cases e
  | (k, v) :: xs, (_, d') :: ds, .cons r rs, e => by
    rw [List.lookup_cons] at e ⊢
    cases z : f == k with
    | true => rw [z] at e; cases e; exact ⟨v, rfl, r⟩
    | false => rw [z] at e; exact repF_lookup rs e
theorem repF_len {K : PySem.W.Frag} {mg : Str → Option Value} {G : Hp} : ∀ {xs : List (Str × V)} {ds : List (Str × D)}, RepF K mg G xs ds → xs.length = ds.length
  | _, [], .nil => rfl
  | _ :: xs, _ :: ds, .cons _ rs => by rw [List.length_cons, List.length_cons, repF_len rs]
theorem sd_fld {cn fl : Str} (he : SD hox X W e m) (hm : X.mg cn = some (.ref C)) (hc : Cls X.K C) (hn : NoAttr X.K C fl) (hb : attributeBase e fl X.env (eval e X.env) = eval e X.env := by rfl) : SD hox X W (.Attribute e fl pos) (mFld cn fl m) :=
  PE.imp (pe_fld he hb) fun σ H Q ⟨c, s, st, q⟩ => ⟨c, s, st, q.split.imp fun d s1 H1 g1 q1 v r => by
    cases r with
    | @obj a C' dx cn' xs ds h1 h2 h3 =>
      by_cases f : cn' = cn
      · simp only [if_pos f] at q1
        subst f
        rw [hm] at h1; cases h1
        cases e2 : ds.lookup fl with
        | none => rw [e2] at q1; exact q1.elim
        | some z =>
          rw [e2] at q1
          obtain ⟨v, e3, rv⟩ := repF_lookup h3 e2
          exact ⟨a, _, dx, xs, v, rfl, (hid_some h2).2, hc, hn, e3, q1 H1 (.refl g1.1) v rv⟩
      · simp only [if_neg f] at q1; exact q1.elim
    | _ => exact q1.elim⟩
def putFD (f : Str) (y : D) : List (Str × D) → List (Str × D)
  | [] => [(f, y)]
  | (g, x) :: r => if g = f then (g, y) :: r else (g, x) :: putFD f y r
theorem repF_put {K : PySem.W.Frag} {mg : Str → Option Value} {G : Hp} {f : Str} {v : V} {d : D} (rv : Rep K mg G v d) : ∀ {xs : List (Str × V)} {ds : List (Str × D)}, RepF K mg G xs ds → RepF K mg G (putF f v xs) (putFD f d ds)
  | _, [], .nil => .cons rv .nil
  | (k, u) :: xs, (_, d') :: ds, .cons r rs => by
    unfold putF putFD
    by_cases z : k = f
    · rw [if_pos z, if_pos z]; exact .cons rv rs
    · rw [if_neg z, if_neg z]; exact .cons r (repF_put rv rs)
def mutI (s : S) (i : Nat) : Option (Sl × Str × List (Str × D)) := match mutAt s i with
  | some (w, .ins c fs) => some (w, c, fs)
  | _ => none
theorem mutI_at {s : S} {i : Nat} {w : Sl} {c : Str} {fs : List (Str × D)} (h : mutI s i = some (w, c, fs)) : mutAt s i = some (w, .ins c fs) := by
  unfold mutI at h
  split at h
  · rename_i w' c' fs' e
    cases h; exact e
  · cases h
/-- self.f -/
def mFldO (i : Nat) (cn f : Str) : MD := fun s => match mutI s i with
  | some (_, c, fs) => if c = cn then o2 (fs.lookup f) s else .bad
  | none => .bad
/-- self.f = e -/
def mSetF (i : Nat) (cn f : Str) (m : MD) : MS := fun s => (m s).bind fun d s1 => match mutI s1 i with
  | some (w, c, fs) => if c = cn ∧ fs.length < 1000 then .ok .nx (s1.set i (some (w.re (.ins c (putFD f d fs))))) else .bad
  | none => .bad
theorem ss_setF (i : Nat) {cn fl : Str} {pos' : Pos} (he : SD hox X W e m) (hm : X.mg cn = some (.ref C)) (hc : Cls X.K C) (hn : NoAttr X.K C fl) (hN : X.N[i]? = some y := by rfl) (hv : Vis X.env.scope y := by first | exact Or.inl rfl | exact Or.inr (Or.inl rfl) | exact Or.inr (Or.inr rfl)) (hd : (y == ("__debug__" : Str)) = false := by decide)
    (hcd : (y == ("__classdict__" : Str)) = false := by decide) (hs : swapsWith e (some (.Attribute (.Name y py) fl pos')) pos.line X.env = pure false := by rfl) : SS hox X W (.Assign [.Attribute (.Name y py) fl pos'] e pos) (mSetF i cn fl m) :=
  PS.imp (ps_fld (pe_var hN hv hd hcd) he hs) fun E σ H ⟨c, s, st, q⟩ => ⟨c, s, st, (ResS.split q).imp fun d s1 H1 g1 q1 v r => by
    cases e0 : mutI s1 i with
    | none => simp only [e0] at q1; exact q1.elim
    | some wo =>
      obtain ⟨w, cn', fs⟩ := wo
      simp only [e0] at q1
      obtain ⟨e1, e2⟩ := mutAt_some (mutI_at e0)
      obtain ⟨p, hp, hh, C', dx, xs, h1, h2, h3⟩ := g1.1.mut e1 e2
      by_cases f : cn' = cn ∧ fs.length < 1000
      · rw [if_pos f] at q1
        obtain ⟨f1, f2⟩ := f
        subst f1
        rw [hm] at h2; cases h2
        refine ⟨.ref p, hp, p, _, dx, xs, rfl, h1, hc, hn, by rw [repF_len h3]; exact f2, q1 σ _ ?_⟩
        refine g1.1.write e1 e2 hp (fun b o n e => by rw [upd_ne n]; exact e) ⟨_, dx, _, upd_same, hm, (repF_put r h3).mono (hid_le fun b o n e => ⟨n, by rw [upd_ne (fun z => n (by rw [z]; exact hh))]; exact e⟩)⟩
      · rw [if_neg f] at q1; exact q1.elim⟩
end
end Den

set_option Elab.async false
set_option linter.all false
set_option maxRecDepth 100000
set_option maxHeartbeats 4000000
namespace Den
variable {hox : Option Addr}
open PySem PySem.Spec PyProof.Rows L2

/-! ### what the top has written: tuples and dicts of flat things -/
def flatIs : Value → D → Bool
  | .none, .non => true
  | .bool a, .bl b => a == b
  | .int i _, .int j => decide (i = j)
  | .str x _, .str y => decide (x = y)
  | _, _ => false
def flatIsL : List Value → List D → Bool
  | [], [] => true
  | v :: vs, d :: ds => flatIs v d && flatIsL vs ds
  | _, _ => false
section
variable {K : PySem.W.Frag} {mg : Str → Option Value}
theorem flatIs_ok {v : Value} {d : D} (h : flatIs v d = true) : ∃ x, RelV x v ∧ ∀ G, Rep K mg G x d := by
  unfold flatIs at h
  split at h
  · exact ⟨.non, rfl, fun _ => .non⟩
  · rw [beq_iff_eq] at h; subst h; exact ⟨.bl _, rfl, fun _ => .bl _⟩
  · have := of_decide_eq_true h; subst this; exact ⟨.int _, ⟨_, rfl⟩, fun _ => .int _⟩
  · have := of_decide_eq_true h; subst this; exact ⟨.str _, ⟨_, rfl⟩, fun _ => .str _⟩
  · cases h
theorem flatIsL_ok : ∀ {vs : List Value} {ds : List D}, flatIsL vs ds = true → ∃ xs, Vals xs vs ∧ ∀ G, RepL K mg G xs ds
  | [], [], _ => ⟨[], .nil, fun _ => .nil⟩
  | v :: vs, d :: ds, h => by
    unfold flatIsL at h
    rw [Bool.and_eq_true] at h
    obtain ⟨x, r, q⟩ := flatIs_ok (K := K) (mg := mg) h.1
    obtain ⟨xs, rs, qs⟩ := flatIsL_ok h.2
    exact ⟨x :: xs, .cons r rs, fun G => .cons (q G) (qs G)⟩
  | [], _ :: _, h => by cases h
  | _ :: _, [], h => by cases h
def tupIs (K : PySem.W.Frag) (a : Addr) (ds : List D) : Bool := match K.lookup a with
  | some ⟨.type c, _, .seq its _, _⟩ => decide (c = "tuple") && decide (its.size ≤ 1000) && flatIsL its.toList ds
  | _ => false
theorem tupIs_ok {a : Addr} {ds : List D} (h : tupIs K a ds = true) : ∀ G, Rep K mg G (.ref a) (.ktup ds) := by
  unfold tupIs at h
  split at h
  · rename_i c od its n sl e
    simp only [Bool.and_eq_true, decide_eq_true_eq] at h
    obtain ⟨⟨h1, h2⟩, h3⟩ := h
    subst h1
    obtain ⟨xs, r, q⟩ := flatIsL_ok (K := K) (mg := mg) h3
    exact fun G => .ktup (.inr ⟨_, its, n, e, rfl, rfl, Nat.le_trans h2 (by decide), r⟩) (q G)
  · cases h
/-- a written value: flat, or a tuple of flat things -/
def wrIs (K : PySem.W.Frag) (v : Value) (d : D) : Bool := match v, d with
  | .ref a, .ktup ds => tupIs K a ds
  | v, d => flatIs v d
theorem wrIs_ok {v : Value} {d : D} (h : wrIs K v d = true) : ∃ x, RelV x v ∧ ∀ G, Rep K mg G x d := by
  unfold wrIs at h
  split at h
  · exact ⟨.ref _, rfl, tupIs_ok h⟩
  · exact flatIs_ok h
end
abbrev Tb := List (Str × Option D)
def tbIs (K : PySem.W.Frag) (a : Addr) (tb : Tb) : Bool := tb.all fun p => match PySem.W.nsIn K a p.1, p.2 with
  | some none, none => true
  | some (some v), some d => wrIs K v d
  | _, _ => false
structure TbOk (K : PySem.W.Frag) (w : World) (a : Addr) (tb : Tb) : Prop where
  kd : ∃ es n, KDict K w a es n
  vals : tbIs K a tb = true
theorem TbOk.get {K : PySem.W.Frag} {mg : Str → Option Value} {w : World} {a : Addr} {tb : Tb} (T : TbOk K w a tb) {z : Str} {r : Option D} (h : tb.lookup z = some r) :
    ∃ u, PySem.W.nsIn K a z = some u ∧ u.isSome = r.isSome ∧ ∀ d, r = some d → ∃ u0 v0, u = some u0 ∧ RelV v0 u0 ∧ ∀ G, Rep K mg G v0 d := by
  have hm : (z, r) ∈ tb := by
    have hl : ∀ {l : Tb}, l.lookup z = some r → (z, r) ∈ l := by
      intro l
      induction l with
      | nil => intro h; cases h
      | cons p l ih =>
        intro h
        rw [List.lookup_cons] at h
        cases e : z == p.1 with
        | true =>
          rw [e] at h
          cases h
          rw [eq_of_beq e]
          exact List.mem_cons_self
        | false => rw [e] at h; exact List.mem_cons_of_mem _ (ih h)
    exact hl h
  have h2 := List.all_eq_true.mp T.vals _ hm
  cases e1 : PySem.W.nsIn K a z with
  | none => simp only [e1] at h2; cases h2
  | some u =>
    refine ⟨u, rfl, ?_⟩
    cases u with
    | none =>
      cases r with
      | none => exact ⟨rfl, fun d e => by cases e⟩
      | some d => simp only [e1] at h2; cases h2
    | some v =>
      cases r with
      | none => simp only [e1] at h2; cases h2
      | some d =>
        simp only [e1] at h2
        obtain ⟨x, rx, q⟩ := wrIs_ok (mg := mg) h2
        exact ⟨rfl, fun d' e => by cases e; exact ⟨v, x, rfl, rx, q⟩⟩
def mKIn (neg : Bool) (tb : Tb) (m : MD) : MD := fun s => (m s).bind fun d s1 => match d with
  | .str z => match tb.lookup z with
    | some r => .ok (.bl (if neg = true then !r.isSome else r.isSome)) s1
    | none => .bad
  | _ => .bad
def mKIx (tb : Tb) (m : MD) : MD := fun s => (m s).bind fun d s1 => match d with
  | .str z => match tb.lookup z with
    | some (some r) => .ok r s1
    | _ => .bad
  | _ => .bad
section
variable {X : Cx} {W : WX} {a : Addr} {tb : Tb} {e : Expr} {m : MD} {x : Str} {p pos : Pos}
theorem sd_kix (T : TbOk X.K X.w a tb) (ha : SD hox X W e m) (hm : X.mg x = some (.ref a)) (hg : Gl X x := by rfl) (hd : (x == ("__debug__" : Str)) = false := by decide) (hs : PlainIx e := by exact fun _ _ => rfl) : SD hox X W (.Subscript (.Name x p) e pos) (mKIx tb m) := by
  obtain ⟨es, n, kd⟩ := T.kd
  refine PE.imp (pe_ix ix_kdict (pe_glob (v := .ref a) hg hm rfl hd) ha hs) fun σ H Q ⟨c, s, st, q⟩ => ⟨c, s, st, q.split.imp fun d s1 H1 g1 q1 v r => ?_⟩
  cases r with
  | str z =>
    simp only at q1
    cases e1 : tb.lookup z with
    | none => rw [e1] at q1; exact q1.elim
    | some r =>
      cases r with
      | none => rw [e1] at q1; exact q1.elim
      | some r =>
        rw [e1] at q1
        obtain ⟨u, h1, h2, h3⟩ := T.get (mg := X.mg) e1
        obtain ⟨u0, v0, rfl, rv, rr⟩ := h3 r rfl
        exact ⟨a, z, v0, rfl, rfl, ⟨es, n, u0, kd.at_, kd.lit, h1, rv⟩, q1 H1 (.refl g1.1) _ (rr _)⟩
  | _ => exact q1.elim
/-- a constant of the module: a tuple of flat things -/
theorem sd_globT {ds : List D} (hm : X.mg x = some (.ref a)) (h : tupIs X.K a ds = true) (hg : Gl X x := by rfl) (hd : (x == ("__debug__" : Str)) = false := by decide) : SD hox X W (.Name x p) (mK (.ktup ds)) := sd_glob hg hm (v := .ref a) rfl (tupIs_ok h) hd
theorem sd_globI {i : Int} {t : Tok} (hm : X.mg x = some (.int i t)) (hg : Gl X x := by rfl) (hd : (x == ("__debug__" : Str)) = false := by decide) : SD hox X W (.Name x p) (mK (.int i)) := sd_glob hg hm (v := .int i) ⟨t, rfl⟩ (fun _ => .int i) hd
end
/-- a def inside a class -/
def clsBody (s : Stmt) : List Stmt := match s with
  | .ClassDef _ _ _ b _ _ _ _ _ _ _ => b
  | _ => []
theorem never_P {P : Program} {w : World} {K : PySem.W.Frag} {mg : Str → Option Value} {base : Heap} {f : Addr} {fd : FuncData} {ps : List Str} {k n : Nat} (hn : ps.length = n) : FnOk P w K mg base (L2N.CX P w) k f fd ps (spP K mg n fun _ => .bad) :=
  ⟨fun vs H Q E ⟨A, ds, _, hl, r, q⟩ => q.elim, fun A outer s H args us vs Q E hr e0 hb hv ⟨A', ds, _, hl, r, q⟩ => q.elim⟩
theorem cx_none {P : Program} {w : World} {H : Hp} {s : Shared} {e : Value} {s' : Shared} (h : L2N.CX P w [] H s (fun _ _ _ => False) e s') : False := by
  obtain ⟨a, B, H', cls, d, _, _, _, _, _, _, _, q⟩ := h
  exact q
end Den

set_option Elab.async false
set_option linter.all false
set_option maxRecDepth 100000
set_option maxHeartbeats 4000000
namespace Den
variable {hox : Option Addr}
open PySem PySem.Spec PyProof.Rows L2
section
variable {X : Cx} {W : WX} {a : Addr} {tb : Tb} {e : Expr} {m : MD} {x : Str} {p pos : Pos}
theorem sb_kin (T : TbOk X.K X.w a tb) (ha : SD hox X W e m) (hm : X.mg x = some (.ref a)) (hg : Gl X x := by rfl) (hd : (x == ("__debug__" : Str)) = false := by decide) : SB hox X W (.Compare e [.In] [.Name x p] pos) (mTest (mKIn false tb m)) := by
  obtain ⟨es, n, kd⟩ := T.kd
  refine PT.imp (pt_cmpR (op_in_kd kd) ha (pe_glob (v := .ref a) hg hm rfl hd) (by rfl)) fun σ H Q ⟨c, s, st, q⟩ => ⟨c, s, st, ?_⟩
  have q : Res hox X.K X.mg c s σ H W (fun b s' H' => Q b H') ((m s).bind fun d s1 => ((match d with
    | .str z => match tb.lookup z with
      | some r => Out.ok (D.bl (if false = true then !r.isSome else r.isSome)) s1
      | none => .bad
    | _ => .bad) : Out D).bind fun d s1 => match d with | .bl b => .ok b s1 | _ => .bad) := by
    have : mTest (mKIn false tb m) s = ((m s).bind fun d s1 => ((match d with
      | .str z => match tb.lookup z with
        | some r => Out.ok (D.bl (if false = true then !r.isSome else r.isSome)) s1
        | none => .bad
      | _ => .bad) : Out D).bind fun d s1 => match d with | .bl b => .ok b s1 | _ => .bad) := by
      unfold mTest mKIn
      cases m s <;> rfl
    rw [this] at q; exact q
  refine q.split.imp fun d s1 H1 g1 q1 v r => ?_
  cases r with
  | str z =>
    simp only at q1
    cases e1 : tb.lookup z with
    | none => rw [e1] at q1; exact q1.elim
    | some r =>
      rw [e1] at q1
      obtain ⟨u, h1, h2, _⟩ := T.get (mg := X.mg) e1
      refine ⟨z, u, rfl, rfl, h1, ?_⟩
      rw [h2]
      exact ⟨_, rfl, q1 H1 (.refl g1.1)⟩
  | _ => exact q1.elim
theorem sb_knotin (T : TbOk X.K X.w a tb) (ha : SD hox X W e m) (hm : X.mg x = some (.ref a)) (hg : Gl X x := by rfl) (hd : (x == ("__debug__" : Str)) = false := by decide) : SB hox X W (.Compare e [.NotIn] [.Name x p] pos) (mTest (mKIn true tb m)) := by
  obtain ⟨es, n, kd⟩ := T.kd
  refine PT.imp (pt_cmpR (op_notIn_kd kd) ha (pe_glob (v := .ref a) hg hm rfl hd) (by rfl)) fun σ H Q ⟨c, s, st, q⟩ => ⟨c, s, st, ?_⟩
  have q : Res hox X.K X.mg c s σ H W (fun b s' H' => Q b H') ((m s).bind fun d s1 => ((match d with
    | .str z => match tb.lookup z with
      | some r => Out.ok (D.bl (if true = true then !r.isSome else r.isSome)) s1
      | none => .bad
    | _ => .bad) : Out D).bind fun d s1 => match d with | .bl b => .ok b s1 | _ => .bad) := by
    have : mTest (mKIn true tb m) s = ((m s).bind fun d s1 => ((match d with
      | .str z => match tb.lookup z with
        | some r => Out.ok (D.bl (if true = true then !r.isSome else r.isSome)) s1
        | none => .bad
      | _ => .bad) : Out D).bind fun d s1 => match d with | .bl b => .ok b s1 | _ => .bad) := by
      unfold mTest mKIn
      cases m s <;> rfl
    rw [this] at q; exact q
  refine q.split.imp fun d s1 H1 g1 q1 v r => ?_
  cases r with
  | str z =>
    simp only at q1
    cases e1 : tb.lookup z with
    | none => rw [e1] at q1; exact q1.elim
    | some r =>
      rw [e1] at q1
      obtain ⟨u, h1, h2, _⟩ := T.get (mg := X.mg) e1
      refine ⟨z, u, rfl, rfl, h1, ?_⟩
      rw [h2]
      exact ⟨_, rfl, q1 H1 (.refl g1.1)⟩
  | _ => exact q1.elim
/-- {} -/
def mDict0 : MO := fun s => .ok (.own (.dK [])) s
theorem so_dict0 : SO hox X W (.Dict [] [] pos) mDict0 := PE.imp pe_dnewK fun σ H Q ⟨c, s, st, q⟩ => fun p n => by
  obtain ⟨a1, a2, a3⟩ := st.alloc (ho := .dK []) n
  exact q _ _ ⟨p, _, rfl, rfl, a3, a1, a2, [], upd_same, .nil⟩
end
def spW (K : PySem.W.Frag) : Sp := fun vs H Q _ => ∃ (a : Addr) (ns : List Int), vs = [.ref a] ∧ ns.length ≤ 63 ∧ SqL K H a (ns.map V.int) ∧ ∀ H', Q (.bl true) H'
theorem spW_imp {K : PySem.W.Frag} {mg : Str → Option Value} {F : FP} (hF : ∀ ns : List Int, ns.length ≤ 63 → ∃ s, F [.scr ns] = .ok (.val (.bl true)) s) {vs : List V} {H : Hp} {Q : VK} {E : XK} (h : spW K vs H Q E) : spP K mg 1 F vs H Q E := by
  obtain ⟨a, ns, rfl, hl, hS, q⟩ := h
  have l : ∀ b u, Rd H b u → Rd (hid (fun _ => False) H) b u := fun b u r => by
    rcases r with r | ⟨o, r⟩
    · exact .inl ((hid_no (fun z => z)).trans r)
    · exact .inr ⟨o, (hid_no (fun z => z)).trans r⟩
  refine ⟨fun _ => False, [.scr ns], fun p z => z.elim, rfl, .cons (.scr ?_) .nil, ?_⟩
  · rcases hS with h | h
    · exact .inl (l _ _ h)
    · exact .inr h
  · obtain ⟨s, e⟩ := hF ns hl
    rw [e]
    intro v H' _ _ r
    cases r
    exact q H'
end Den

set_option Elab.async false
set_option linter.all false
set_option maxRecDepth 100000
set_option maxHeartbeats 4000000
namespace Den
variable {hox : Option Addr}
open PySem PySem.Spec PyProof.Rows L2
/-! ### plain evaluation of mirrors -/
section
variable {α β : Type} {s s1 : S} {a b : MS} {i n : Nat}
@[simp] theorem bind_ok {x : α} {k : α → S → Out β} : (Out.ok x s).bind k = k x s := rfl
@[simp] theorem bind_exc {x : Exc} {k : α → S → Out β} : (Out.exc x s).bind k = .exc x s := rfl
@[simp] theorem bind_bad {k : α → S → Out β} : (Out.bad : Out α).bind k = .bad := rfl
@[simp] theorem o2_some {x : α} : o2 (some x) s = .ok x s := rfl
@[simp] theorem o2_none : o2 (none : Option α) s = .bad := rfl
@[simp] theorem gEq_int {i j : Int} : gEq (.int i) (.int j) = some (.bl (decide (i = j))) := rfl
@[simp] theorem gNe_int {i j : Int} : gNe (.int i) (.int j) = some (.bl (!decide (i = j))) := rfl
@[simp] theorem gNe_bl {i j : Bool} : gNe (.bl i) (.bl j) = some (.bl (!(i == j))) := by cases i <;> cases j <;> rfl
end
theorem fits_of {n : Nat} (h : n ≤ 1000000) : fits n = true := decide_eq_true (by rw [sizeLine_eq]; omega)
section
variable {d : D} {m ma mb : MD} {mo : MO} {g g' : D → D → Option D} {g1 : D → Option D} {t ta tb : MB} {a b : MS} {ml : ML} {s : S} {i j n : Nat} {gg : List D → Option D} {gl : List D → Option (List D)} {tg : MG} {tgs : MGs} {mi : MI} {x y : D}
@[simp] theorem mK_ap : mK d s = .ok d s := rfl
@[simp] theorem mVar_ap : mVar i s = match s[i]? with
  | some (some (.val d)) => .ok d s
  | some (some (.own o)) => match o.frz with
    | some d => .ok d (s.set i (some (.val d)))
    | none => .bad
  | _ => .bad := rfl
@[simp] theorem mBin_ap : mBin g ma mb s = (ma s).bind fun x s1 => (mb s1).bind fun y s2 => o2 (g x y) s2 := rfl
@[simp] theorem mUn_ap : mUn g1 ma s = (ma s).bind fun x s1 => o2 (g1 x) s1 := rfl
@[simp] theorem mVal_ap : mVal m s = (m s).bind fun d s1 => .ok (.val d) s1 := rfl
@[simp] theorem mFrz_ap : mFrz mo s = (mo s).bind fun r s1 => o2 r.frz s1 := rfl
@[simp] theorem frz_val : (Sl.val d).frz = some d := rfl
@[simp] theorem frz_own {xs : List D} : (Sl.own (.lst xs)).frz = some (.lst xs) := rfl
@[simp] theorem frz_dk {xs : List (Key × D)} : (Sl.own (.dK xs)).frz = some (.dic xs) := rfl
@[simp] theorem frz_ins {c : Str} {xs : List (Str × D)} : (Sl.own (.ins c xs)).frz = some (.obj c xs) := rfl
@[simp] theorem mTest_ap : mTest m s = (m s).bind fun d s1 => match d with
  | .bl b => .ok b s1
  | _ => .bad := rfl
@[simp] theorem mIf_ap {α : Type} {p q : S → Out α} : mIf t p q s = (t s).bind fun c s1 => if c = true then p s1 else q s1 := rfl
@[simp] theorem bAnd_ap : bAnd ta tb s = (ta s).bind fun c s1 => if c = true then tb s1 else .ok false s1 := rfl
@[simp] theorem bOr_ap : bOr ta tb s = (ta s).bind fun c s1 => if c = true then .ok true s1 else tb s1 := rfl
@[simp] theorem bNot_ap : bNot ta s = (ta s).bind fun c s1 => .ok (!c) s1 := rfl
@[simp] theorem mAnd_ap : mAnd ma mb s = (ma s).bind fun x s1 => match x with
  | .bl true => mb s1
  | .bl false => .ok (.bl false) s1
  | _ => .bad := rfl
@[simp] theorem mOr_ap : mOr ma mb s = (ma s).bind fun x s1 => match x with
  | .bl true => .ok (.bl true) s1
  | .bl false => mb s1
  | _ => .bad := rfl
@[simp] theorem mNot_ap : mNot ma s = (ma s).bind fun x s1 => match x with
  | .bl c => .ok (.bl (!c)) s1
  | _ => .bad := rfl
@[simp] theorem lNil_ap : lNil s = .ok [] s := rfl
@[simp] theorem lCons_ap : lCons m ml s = (m s).bind fun d s1 => (ml s1).bind fun ds s2 => .ok (d :: ds) s2 := rfl
@[simp] theorem lStar_ap : lStar m ml s = (m s).bind fun d s1 => match d.items with
  | some ds => (ml s1).bind fun es s2 => .ok (ds ++ es) s2
  | none => .bad := rfl
@[simp] theorem mTup_ap : mTup ml s = (ml s).bind fun ds s1 => if fits ds.length = true then .ok (.tup ds) s1 else .bad := rfl
@[simp] theorem mLst_ap : mLst ml s = (ml s).bind fun ds s1 => if fits ds.length = true then .ok (.own (.lst ds)) s1 else .bad := rfl
@[simp] theorem mApp_ap : mApp gg ml s = (ml s).bind fun ds s1 => o2 (gg ds) s1 := rfl
@[simp] theorem mAppL_ap : mAppL gl ml s = (ml s).bind fun ds s1 => match gl ds with
  | some xs => .ok (.own (.lst xs)) s1
  | none => .bad := rfl
@[simp] theorem mChain_ap {mc : MD} : mChain g g' ma mb mc s = (ma s).bind fun x s1 => (mb s1).bind fun y s2 => match g x y with
  | some (.bl true) => (mc s2).bind fun z s3 => o2 (g' y z) s3
  | some (.bl false) => .ok (.bl false) s2
  | _ => .bad := rfl
@[simp] theorem mSeq_ap : mSeq a b s = (a s).bind fun f s1 => match f with
  | .nx => b s1
  | .rt r => .ok (.rt r) s1
  | .bk => .ok .bk s1
  | .ct => .ok .ct s1 := rfl
@[simp] theorem mNx_ap : mNx s = .ok .nx s := rfl
@[simp] theorem mDrop_ap : mDrop mo s = (mo s).bind fun _ s1 => .ok .nx s1 := rfl
@[simp] theorem mRet_ap : mRet mo s = (mo s).bind fun r s1 => .ok (.rt r) s1 := rfl
@[simp] theorem mTake_ap : mTake i s = match s[i]? with
  | some (some (.val d)) => .ok (.val d) s
  | some (some (.own o)) => if o.sub.isEmpty = true then .ok (.own o) (s.set i none) else .bad
  | _ => .bad := rfl
@[simp] theorem mRetN_ap : mRetN s = .ok (.rt (.val .non)) s := rfl
@[simp] theorem mIfS_ap : mIfS t a b s = (t s).bind fun k s1 => if k = true then a s1 else b s1 := rfl
@[simp] theorem mSet_ap : mSet i mo s = (mo s).bind fun r s1 => put i r s1 := rfl
@[simp] theorem put_val : put i (.val d) s = if free s i = true then .ok .nx (s.set i (some (.val d))) else .bad := rfl
@[simp] theorem put_own {o : O} : put i (.own o) s = if free s i = true then .ok .nx (s.set i (some (.own o))) else .bad := rfl
@[simp] theorem free_ap : free s i = match s[i]? with
  | some (some (.bor _)) => false
  | some _ => true
  | none => false := rfl
@[simp] theorem gN_ap : gN i d s = if free s i = true then some (s.set i (some (.val d))) else none := rfl
@[simp] theorem gsNil_ap : gsNil [] s = some s := rfl
@[simp] theorem gsCons_ap {ds : List D} : gsCons tg tgs (d :: ds) s = (tg d s).bind fun s1 => tgs ds s1 := rfl
@[simp] theorem gT_ap {ds : List D} : gT n tgs (.tup ds) s = if ds.length = n then tgs ds s else none := rfl
@[simp] theorem mAsg_ap : mAsg m tg s = (m s).bind fun d s1 => match tg d s1 with
  | some s2 => .ok .nx s2
  | none => .bad := rfl
@[simp] theorem mFor_ap : mFor mi tg b s = (mi s).bind fun ds s1 => loop tg b ds s1 := rfl
@[simp] theorem iSeq_ap : iSeq m s = (m s).bind fun d s1 => match d.items with
  | some ds => .ok ds s1
  | none => .bad := rfl
@[simp] theorem items_tup {ds : List D} : (D.tup ds).items = some ds := rfl
@[simp] theorem items_ktup {ds : List D} : (D.ktup ds).items = some ds := rfl
@[simp] theorem items_lst {ds : List D} : (D.lst ds).items = some ds := rfl
@[simp] theorem items_scr {ns : List Int} : (D.scr ns).items = some (ns.map .int) := rfl
@[simp] theorem mComp_ap {vs : List Nat} : mComp vs mi tg t m s = (mi s).bind fun ds s1 => compOut vs tg t m ds s1 := rfl
@[simp] theorem mIxO_ap : mIxO i m s = match mutL s i with
  | none => .bad
  | some _ => (m s).bind fun d s1 => match mutL s1 i, d with
    | some (_, xs), .int j => o2 (atI xs j) s1
    | _, _ => .bad := rfl
@[simp] theorem mLenO_ap : mLenO i s = match mutL s i with
  | none => .bad
  | some (_, xs) => .ok (.int (xs.length : Nat)) s := rfl
@[simp] theorem mutL_ap : mutL s i = match mutAt s i with
  | some (w, .lst xs) => some (w, xs)
  | _ => none := rfl
@[simp] theorem mutAt_ap : mutAt s i = match s[i]? with
  | some (some (.own o)) => some (.own o, o)
  | some (some (.bor o)) => some (.bor o, o)
  | _ => none := rfl
@[simp] theorem re_own {o o' : O} : (Sl.own o).re o' = .own o' := rfl
@[simp] theorem re_bor {o o' : O} : (Sl.bor o).re o' = .bor o' := rfl
@[simp] theorem mAppend_ap : mAppend i m s = match mutL s i with
  | none => .bad
  | some _ => (m s).bind fun d s1 => match mutL s1 i with
    | none => .bad
    | some (w, xs) => if fits (xs.length + 1) = true then .ok (.val .non) (s1.set i (some (w.re (.lst (xs ++ [d]))))) else .bad := rfl
@[simp] theorem mPop_ap : mPop i m s = match mutL s i with
  | none => .bad
  | some _ => (m s).bind fun d s1 => match mutL s1 i, d with
    | some (w, xs), .int j => match ixN xs.length j with
      | some k => match xs[k]? with
        | some y => if i62 j = true then .ok y (s1.set i (some (w.re (.lst (xs.eraseIdx k))))) else .bad
        | none => .bad
      | none => .bad
    | _, _ => .bad := rfl
@[simp] theorem mSetIx_ap {mk : MD} : mSetIx i mk m s = (m s).bind fun d s1 => match mutL s1 i with
  | none => .bad
  | some _ => (mk s1).bind fun k s2 => match mutL s2 i, k with
    | some (w, xs), .int j => match ixN xs.length j with
      | some n => .ok .nx (s2.set i (some (w.re (.lst (xs.set n d)))))
      | none => .bad
    | _, _ => .bad := rfl
@[simp] theorem mBinL_ap {g : D → D → Option (List D)} : mBinL g ma mb s = (ma s).bind fun x s1 => (mb s1).bind fun y s2 => match g x y with
  | some xs => .ok (.own (.lst xs)) s2
  | none => .bad := rfl
@[simp] theorem mIsi_ap {T : String} : mIsi T m s = (m s).bind fun x s1 => o2 (gIsi T x) s1 := rfl
@[simp] theorem mRev_ap : mRev m s = (m s).bind fun d s1 => match d with
  | .tup xs => .ok (.tup xs.reverse) s1
  | _ => .bad := rfl
@[simp] theorem mSl_ap {lo hi : MP} : mSl m lo hi s = (m s).bind fun d s1 => (lo s1).bind fun a s2 => (hi s2).bind fun b s3 => o2 (gSl d a b) s3 := rfl
@[simp] theorem pNo_ap : pNo s = .ok none s := rfl
@[simp] theorem pSo_ap : pSo m s = (m s).bind fun d s1 => match d with
  | .int i => .ok (some i) s1
  | _ => .bad := rfl
@[simp] theorem iR1_ap : iR1 ml s = (ml s).bind fun ds s1 => match ds with
  | [.int j] => if i62 j = true then .ok (rngD 0 j.toNat) s1 else .bad
  | _ => .bad := rfl
@[simp] theorem iEn_ap : iEn ml s = (ml s).bind fun ds s1 => match ds with
  | [d] => match d.items with
    | some xs => .ok (enumD 0 xs) s1
    | none => .bad
  | _ => .bad := rfl
@[simp] theorem iZp_ap : iZp ml s = (ml s).bind fun ds s1 => match ds with
  | [.tup xs, .tup ys] => .ok (zipD xs ys) s1
  | [.lst xs, .lst ys] => .ok (zipD xs ys) s1
  | _ => .bad := rfl
@[simp] theorem mFld_ap {cn f : Str} : mFld cn f m s = (m s).bind fun d s1 => match d with
  | .obj c fs => if c = cn then o2 (fs.lookup f) s1 else .bad
  | _ => .bad := rfl
@[simp] theorem mSetF_ap {cn f : Str} : mSetF i cn f m s = (m s).bind fun d s1 => match mutI s1 i with
  | some (w, c, fs) => if c = cn ∧ fs.length < 1000 then .ok .nx (s1.set i (some (w.re (.ins c (putFD f d fs))))) else .bad
  | none => .bad := rfl
@[simp] theorem mutI_ap : mutI s i = match mutAt s i with
  | some (w, .ins c fs) => some (w, c, fs)
  | _ => none := rfl
@[simp] theorem mRaise0_ap {c : Str} : mRaise0 c s = .exc ⟨c, []⟩ s := rfl
@[simp] theorem mDict0_ap : mDict0 s = .ok (.own (.dK [])) s := rfl
@[simp] theorem gCmp_ap {f : Int → Int → Bool} {i j : Int} : gCmp f (.int i) (.int j) = some (.bl (f i j)) := rfl
@[simp] theorem gAdd_int {i j : Int} : gAdd (.int i) (.int j) = some (.int (i + j)) := rfl
@[simp] theorem gSub_int {i j : Int} : gSub (.int i) (.int j) = some (.int (i - j)) := rfl
@[simp] theorem gNeg_int {i : Int} : gNeg (.int i) = some (.int (-i)) := rfl
@[simp] theorem gMul_int {i j : Int} : gMul (.int i) (.int j) = if (i64 i || i64 j) = true then some (.int (i * j)) else none := rfl
@[simp] theorem gMod_int {i j : Int} : gMod (.int i) (.int j) = if 0 < j then some (.int (i % j)) else none := rfl
@[simp] theorem gFDiv_int {i j : Int} : gFDiv (.int i) (.int j) = if (decide (0 < j) && decide (j.natAbs.log2 < 9000)) = true then some (.int (i / j)) else none := rfl
@[simp] theorem gPow_int {i j : Int} : gPow (.int i) (.int j) = if (decide (0 ≤ j) && decide (j ≤ 1000000) && decide (i.natAbs < 2 ^ 64)) = true then some (.int (i ^ j.toNat)) else none := rfl
@[simp] theorem gAbs_int {i : Int} : gAbs [.int i] = some (.int (if i < 0 then -i else i)) := rfl
@[simp] theorem gInt_int {i : Int} : gInt [.int i] = some (.int i) := rfl
@[simp] theorem gLen_tup {ds : List D} : gLen [.tup ds] = some (.int (ds.length : Nat)) := rfl
@[simp] theorem gLen_lst {ds : List D} : gLen [.lst ds] = some (.int (ds.length : Nat)) := rfl
@[simp] theorem gTuple_lst {ds : List D} : gTuple [.lst ds] = some (.tup ds) := rfl
@[simp] theorem gTuple_tup {ds : List D} : gTuple [.tup ds] = some (.tup ds) := rfl
@[simp] theorem gIx_tup {ds : List D} {i : Int} : gIx (.tup ds) (.int i) = atI ds i := rfl
@[simp] theorem gIx_lst {ds : List D} {i : Int} : gIx (.lst ds) (.int i) = atI ds i := rfl
@[simp] theorem gCatL_ap {xs ys : List D} : gCatL (.lst xs) (.lst ys) = if fits (xs.length + ys.length) = true then some (xs ++ ys) else none := rfl
@[simp] theorem gAll_ap {ds : List D} : gAll [.lst ds] = (D.bools ds).map fun bs => .bl (bs.all id) := rfl
@[simp] theorem fin_nx : fin (.ok .nx s) = .ok (.val .non) s := rfl
@[simp] theorem fin_rt {r : Sl} : fin (.ok (.rt r) s) = .ok r s := rfl
@[simp] theorem fin_exc {x : Exc} : fin (.exc x s) = .exc x s := rfl
@[simp] theorem loop_nil : loop tg b [] s = .ok .nx s := rfl
theorem atI0 {α : Type} {x : α} {l : List α} : atI (x :: l) 0 = some x := atI_nat (j := 0) rfl
theorem atI1 {α : Type} {x y : α} {l : List α} : atI (x :: y :: l) 1 = some y := atI_nat (j := 1) rfl
theorem ixN_nat {n j : Nat} (h : j < n) : ixN n (j : Int) = some j := by
  unfold ixN
  rw [if_pos (by omega), if_pos (by omega)]
  simp
end
/-! the source of numbers -/
def DOk (o : O) : Prop := ∃ (a b : Int) (r : List Int), o = .lst (.int a :: .int b :: r.map .int) ∧ 0 ≤ a ∧ 0 ≤ b ∧ (∀ x ∈ r, 0 ≤ x) ∧ r.length ≤ 63
/-- a call of a def whose first argument is the source, lent -/
@[irreducible] def LOk (F : FL) (ds : List D) (P : D → Prop) : Prop := ∀ o, DOk o → ∃ d o' s, F o ds = .ok (.val d) s ∧ s[0]? = some (some (.bor o')) ∧ DOk o' ∧ P d
theorem DOk.sub {o : O} (h : DOk o) : o.sub = [] := by
  obtain ⟨a, b, r, rfl, _⟩ := h
  rfl
theorem mutAt_sub {s : S} {i : Nat} {w : Sl} {o : O} (h : mutAt s i = some (w, o)) : w.sub = o.sub := sub_mu (mutAt_some h).2
end Den

set_option Elab.async false
set_option linter.all false
set_option maxRecDepth 100000
set_option maxHeartbeats 4000000
namespace Den
variable {hox : Option Addr}
open PySem PySem.Spec PyProof.Rows L2
/-! ### what a mirror gives: rules of wishes -/
@[irreducible] def W {α : Type} (o : Out α) (P : α → S → Prop) (E : Exc → S → Prop) : Prop := match o with
  | .ok a s => P a s
  | .exc x s => E x s
  | .bad => False
def Sm {α : Type} (o : Option α) (P : α → Prop) : Prop := ∃ z, o = some z ∧ P z
abbrev E9 : Exc → S → Prop := fun _ _ => False
section
variable {α β : Type} {P P' : α → S → Prop} {Q : β → S → Prop} {E : Exc → S → Prop} {o : Out α} {a : α} {s s1 : S} {x : Exc}
theorem w_ok (h : P a s) : W (.ok a s) P E := by with_unfolding_all exact (
    h)
theorem W.ok (h : W (.ok a s) P E) : P a s := by with_unfolding_all exact h
theorem W.bad' (h : W (.bad : Out α) P E) : False := by with_unfolding_all exact h
theorem W.exc (h : W (.exc x s : Out α) P E) : E x s := by with_unfolding_all exact h
theorem W.imp (h : W o P E) (q : ∀ a s, P a s → P' a s) : W o P' E := by
  with_unfolding_all
    cases o with
    | ok a s => exact q a s h
    | exc x s => exact h
    | bad => exact h
theorem w_bind {k : α → S → Out β} (h : W o (fun a s => W (k a s) Q E) E) : W (o.bind k) Q E := by
  with_unfolding_all
    cases o with
    | ok a s => exact h
    | exc x s => exact h
    | bad => exact h
theorem W.get (h : W o P E9) : ∃ a s, o = .ok a s ∧ P a s := by
  with_unfolding_all
    cases o with
    | ok a s => exact ⟨a, s, rfl, h⟩
    | exc x s => exact h.elim
    | bad => exact h.elim
theorem w_of (e : o = .ok a s) (h : P a s) : W o P E := by with_unfolding_all
    rw [e]; exact h
theorem w_o2 {z : Option α} (h : Sm z fun a => P a s) : W (o2 z s) P E := by
  with_unfolding_all
    obtain ⟨z, rfl, h⟩ := h
    exact h
end
theorem Sm.of {α : Type} {o : Option α} {z : α} {P : α → Prop} (e : o = some z) (h : P z) : Sm o P := by with_unfolding_all exact (
    ⟨z, e, h⟩)
def kq (b : MS) (P : Fl → S → Prop) (E : Exc → S → Prop) : Fl → S → Prop
  | .nx, s => W (b s) P E
  | .rt r, s => P (.rt r) s
  | .bk, s => P .bk s
  | .ct, s => P .ct s
def kb (P Q : Prop) (b : Bool) : Prop := (b = true → P) ∧ (b = false → Q)
def kt (P : Bool → S → Prop) : D → S → Prop := fun d s => ∃ b, d = .bl b ∧ P b s
section
variable {d : D} {m ma mb : MD} {mo : MO} {g g' : D → D → Option D} {g1 : D → Option D} {t ta tb : MB} {a b : MS} {ml : ML} {s : S} {i j n : Nat} {gg : List D → Option D} {gl : List D → Option (List D)} {tg : MG} {mi : MI}
  {E : Exc → S → Prop} {P : D → S → Prop} {PO : Sl → S → Prop} {PB : Bool → S → Prop} {PS : Fl → S → Prop} {PL : List D → S → Prop} {o : O}
theorem kq_nx (h : W (b s) PS E) : kq b PS E .nx s := by with_unfolding_all exact (
    h)
theorem kq_rt {r : Sl} (h : PS (.rt r) s) : kq b PS E (.rt r) s := h
theorem kb_t {p q : Prop} (h : p) : kb p q true := ⟨fun _ => h, fun z => by cases z⟩
theorem kb_f {p q : Prop} (h : q) : kb p q false := ⟨fun z => (by cases z), fun _ => h⟩
theorem kb_tr {p q : Prop} {b : Bool} (e : b = true) (h : p) : kb p q b := ⟨fun _ => h, fun z => (by rw [e] at z; cases z)⟩
theorem kb_fr {p q : Prop} {b : Bool} (e : b = false) (h : q) : kb p q b := ⟨fun z => (by rw [e] at z; cases z), fun _ => h⟩
theorem kt_bl {k : Bool} (h : PB k s) : kt PB (.bl k) s := ⟨k, rfl, h⟩
theorem w_K (h : P d s) : W (mK d s) P E := by with_unfolding_all exact (
    h)
theorem w_var (e : s[i]? = some (some (.val d))) (h : P d s) : W (mVar i s) P E := by with_unfolding_all
    unfold mVar; rw [e]; exact h
theorem w_varO (e : s[i]? = some (some (.own o))) (f : o.frz = some d) (h : P d (s.set i (some (.val d)))) : W (mVar i s) P E := by with_unfolding_all
    unfold mVar; rw [e]; simp only [f]; exact h
theorem w_bin (h : W (ma s) (fun x s1 => W (mb s1) (fun y s2 => Sm (g x y) fun z => P z s2) E) E) : W (mBin g ma mb s) P E := by with_unfolding_all exact (
    w_bind (h.imp fun x s1 q => w_bind (q.imp fun y s2 q => w_o2 q)))
theorem w_un (h : W (ma s) (fun x s1 => Sm (g1 x) fun z => P z s1) E) : W (mUn g1 ma s) P E := by with_unfolding_all exact (
    w_bind (h.imp fun x s1 q => w_o2 q))
theorem w_isi {T : String} (h : W (ma s) (fun x s1 => Sm (gIsi T x) fun z => P z s1) E) : W (mIsi T ma s) P E := by with_unfolding_all exact (
    w_bind (h.imp fun x s1 q => w_o2 q))
theorem w_val (h : W (m s) (fun d s1 => PO (.val d) s1) E) : W (mVal m s) PO E := by with_unfolding_all exact (
    w_bind h)
theorem w_frz (h : W (mo s) (fun r s1 => Sm r.frz fun d => P d s1) E) : W (mFrz mo s) P E := by with_unfolding_all exact (
    w_bind (h.imp fun x s1 q => w_o2 q))
theorem w_test (h : W (m s) (kt PB) E) : W (mTest m s) PB E := by with_unfolding_all exact (
    w_bind (h.imp fun x s1 ⟨b, e, q⟩ => by subst e; exact q))
theorem w_if {α : Type} {p q : S → Out α} {P : α → S → Prop} (h : W (t s) (fun c s1 => kb (W (p s1) P E) (W (q s1) P E) c) E) : W (mIf t p q s) P E := by with_unfolding_all exact (
    w_bind (h.imp fun c s1 ⟨h1, h2⟩ => by cases c with | true => exact h1 rfl | false => exact h2 rfl))
theorem w_and (h : W (ta s) (fun c s1 => kb (W (tb s1) PB E) (PB false s1) c) E) : W (bAnd ta tb s) PB E := by with_unfolding_all exact (
    w_bind (h.imp fun c s1 ⟨h1, h2⟩ => by cases c with | true => exact h1 rfl | false => exact h2 rfl))
theorem w_or (h : W (ta s) (fun c s1 => kb (PB true s1) (W (tb s1) PB E) c) E) : W (bOr ta tb s) PB E := by with_unfolding_all exact (
    w_bind (h.imp fun c s1 ⟨h1, h2⟩ => by cases c with | true => exact h1 rfl | false => exact h2 rfl))
theorem w_not (h : W (ta s) (fun c s1 => PB (!c) s1) E) : W (bNot ta s) PB E := by with_unfolding_all exact (
    w_bind h)
theorem w_mAnd (h : W (ma s) (kt fun c s1 => kb (W (mb s1) P E) (P (.bl false) s1) c) E) : W (mAnd ma mb s) P E := by with_unfolding_all exact (
    w_bind (h.imp fun x s1 ⟨c, e, h1, h2⟩ => by subst e; cases c with | true => exact h1 rfl | false => exact h2 rfl))
theorem w_mOr (h : W (ma s) (kt fun c s1 => kb (P (.bl true) s1) (W (mb s1) P E) c) E) : W (mOr ma mb s) P E := by with_unfolding_all exact (
    w_bind (h.imp fun x s1 ⟨c, e, h1, h2⟩ => by subst e; cases c with | true => exact h1 rfl | false => exact h2 rfl))
theorem w_mNot (h : W (ma s) (kt fun c s1 => P (.bl (!c)) s1) E) : W (mNot ma s) P E := by with_unfolding_all exact (
    w_bind (h.imp fun x s1 ⟨c, e, h1⟩ => by subst e; exact h1))
theorem w_chain {mc : MD} (h : W (ma s) (fun x s1 => W (mb s1) (fun y s2 => Sm (g x y) fun z => kt (fun c s2 => kb (W (mc s2) (fun z s3 => Sm (g' y z) fun u => P u s3) E) (P (.bl false) s2) c) z s2) E) E) : W (mChain g g' ma mb mc s) P E := by with_unfolding_all exact (
    w_bind (h.imp fun x s1 q => w_bind (q.imp fun y s2 ⟨z, e, c, e2, h1, h2⟩ => by
    subst e2
    simp only [e]
    cases c with
    | true => exact w_bind ((h1 rfl).imp fun z s3 q => w_o2 q)
    | false => exact h2 rfl)))
theorem w_nil (h : PL [] s) : W (lNil s) PL E := by with_unfolding_all exact (
    h)
theorem w_cons (h : W (m s) (fun d s1 => W (ml s1) (fun ds s2 => PL (d :: ds) s2) E) E) : W (lCons m ml s) PL E := by with_unfolding_all exact (
    w_bind (h.imp fun d s1 q => w_bind q))
theorem w_star (h : W (m s) (fun d s1 => Sm d.items fun ds => W (ml s1) (fun es s2 => PL (ds ++ es) s2) E) E) : W (lStar m ml s) PL E := by with_unfolding_all exact (
    w_bind (h.imp fun d s1 ⟨ds, e, q⟩ => by simp only [e]; exact w_bind q))
theorem w_tup (h : W (ml s) (fun ds s1 => fits ds.length = true ∧ P (.tup ds) s1) E) : W (mTup ml s) P E := by with_unfolding_all exact (
    w_bind (h.imp fun ds s1 ⟨f, q⟩ => by rw [if_pos f]; exact q))
theorem w_lst (h : W (ml s) (fun ds s1 => fits ds.length = true ∧ PO (.own (.lst ds)) s1) E) : W (mLst ml s) PO E := by with_unfolding_all exact (
    w_bind (h.imp fun ds s1 ⟨f, q⟩ => by rw [if_pos f]; exact q))
theorem w_app (h : W (ml s) (fun ds s1 => Sm (gg ds) fun z => P z s1) E) : W (mApp gg ml s) P E := by with_unfolding_all exact (
    w_bind (h.imp fun x s1 q => w_o2 q))
theorem w_appL (h : W (ml s) (fun ds s1 => Sm (gl ds) fun z => PO (.own (.lst z)) s1) E) : W (mAppL gl ml s) PO E := by with_unfolding_all exact (
    w_bind (h.imp fun x s1 ⟨z, e, q⟩ => by simp only [e]; exact q))
theorem w_binL {g : D → D → Option (List D)} (h : W (ma s) (fun x s1 => W (mb s1) (fun y s2 => Sm (g x y) fun z => PO (.own (.lst z)) s2) E) E) : W (mBinL g ma mb s) PO E := by with_unfolding_all exact (
    w_bind (h.imp fun x s1 q => w_bind (q.imp fun y s2 ⟨z, e, q⟩ => by simp only [e]; exact q)))
theorem w_seq (h : W (a s) (kq b PS E) E) : W (mSeq a b s) PS E := by with_unfolding_all exact (
    w_bind (h.imp fun f s1 q => by cases f <;> exact q))
theorem w_nx (h : PS .nx s) : W (mNx s) PS E := by with_unfolding_all exact (
    h)
theorem w_drop (h : W (mo s) (fun _ s1 => PS .nx s1) E) : W (mDrop mo s) PS E := by with_unfolding_all exact (
    w_bind h)
theorem w_ret (h : W (mo s) (fun r s1 => PS (.rt r) s1) E) : W (mRet mo s) PS E := by with_unfolding_all exact (
    w_bind h)
theorem w_take (e : s[i]? = some (some (.own o))) (h : PO (.own o) (s.set i none)) (hz : o.sub.isEmpty = true := by rfl) : W (mTake i s) PO E := by with_unfolding_all
    unfold mTake; rw [e]; simp only [if_pos hz]; exact h
theorem w_takeV (e : s[i]? = some (some (.val d))) (h : PO (.val d) s) : W (mTake i s) PO E := by with_unfolding_all
    unfold mTake; rw [e]; exact h
theorem w_retN (h : PS (.rt (.val .non)) s) : W (mRetN s) PS E := by with_unfolding_all exact (
    h)
theorem w_ifs (h : W (t s) (fun c s1 => kb (W (a s1) PS E) (W (b s1) PS E) c) E) : W (mIfS t a b s) PS E := by with_unfolding_all exact (
    w_bind (h.imp fun c s1 ⟨h1, h2⟩ => by cases c with | true => exact h1 rfl | false => exact h2 rfl))
/-- what a slot takes -/
def kput (i : Nat) (P : Fl → S → Prop) : Sl → S → Prop
  | .val d, s => free s i = true ∧ P .nx (s.set i (some (.val d)))
  | .own o, s => free s i = true ∧ P .nx (s.set i (some (.own o)))
  | .bor _, _ => False
theorem kput_v (f : free s i = true) (h : PS .nx (s.set i (some (.val d)))) : kput i PS (.val d) s := ⟨f, h⟩
theorem kput_o (f : free s i = true) (h : PS .nx (s.set i (some (.own o)))) : kput i PS (.own o) s := ⟨f, h⟩
theorem w_set (h : W (mo s) (kput i PS) E) : W (mSet i mo s) PS E := by with_unfolding_all exact (
    w_bind (h.imp fun r s1 q => by
  cases r with
  | val d => obtain ⟨f, q⟩ := q; unfold put; simp only [if_pos f]; exact q
  | own o => obtain ⟨f, q⟩ := q; unfold put; simp only [if_pos f]; exact q
  | bor o => exact q.elim))
theorem w_asg (h : W (m s) (fun d s1 => Sm (tg d s1) fun s2 => PS .nx s2) E) : W (mAsg m tg s) PS E := by with_unfolding_all exact (
    w_bind (h.imp fun d s1 ⟨s2, e, q⟩ => by simp only [e]; exact q))
theorem w_seqI (h : W (m s) (fun d s1 => Sm d.items fun ds => PL ds s1) E) : W (iSeq m s) PL E := by with_unfolding_all exact (
    w_bind (h.imp fun d s1 ⟨ds, e, q⟩ => by simp only [e]; exact q))
theorem w_for (h : W (mi s) (fun ds s1 => W (loop tg b ds s1) PS E) E) : W (mFor mi tg b s) PS E := by with_unfolding_all exact (
    w_bind h)
theorem w_compI {vs : List Nat} (h : W (mi s) (fun ds s1 => W (compOut vs tg t m ds s1) PO E) E) : W (mComp vs mi tg t m s) PO E := by with_unfolding_all exact (
    w_bind h)
/-- what a loop's turn leaves -/
def kl (I : S → Prop) (P : Fl → S → Prop) : Fl → S → Prop
  | .nx, s => I s
  | .ct, s => I s
  | .bk, s => P .nx s
  | .rt r, s => P (.rt r) s
theorem kl_nx {I : S → Prop} (h : I s) : kl I PS .nx s := h
theorem kl_rt {I : S → Prop} {r : Sl} (h : PS (.rt r) s) : kl I PS (.rt r) s := h
theorem w_loop {ds : List D} (I : List D → S → Prop) (h0 : I ds s) (step : ∀ d ds s, I (d :: ds) s → Sm (tg d s) fun s1 => W (b s1) (kl (I ds) PS) E) (fin : ∀ s, I [] s → PS .nx s) : W (loop tg b ds s) PS E := by
  with_unfolding_all
    induction ds generalizing s with
    | nil => exact fin s h0
    | cons d ds ih =>
      obtain ⟨s1, e1, h1⟩ := step d ds s h0
      unfold loop
      simp only [e1]
      cases e2 : b s1 with
      | ok f s2 =>
        rw [e2] at h1
        cases f with
        | nx => exact ih h1
        | ct => exact ih h1
        | bk => exact h1
        | rt r => exact h1
      | exc x s2 => rw [e2] at h1; exact h1
      | bad => rw [e2] at h1; exact h1
theorem w_comp {vs : List Nat} {ds : List D} (I : List D → List D → S → Prop) (hv : vs.all (plainAt s) = true) (h0 : I ds [] (wipeS s vs))
    (step : ∀ d ds acc s, I (d :: ds) acc s → Sm (tg d s) fun s1 => W (t s1) (fun c s2 => kb (W (m s2) (fun y s3 => vs.all (plainAt s3) = true ∧ I ds (acc ++ [y]) (wipeS s3 vs)) E9) (vs.all (plainAt s2) = true ∧ I ds acc (wipeS s2 vs)) c) E9)
    (fin : ∀ acc s1, I [] acc s1 → fits acc.length = true ∧ PO (.own (.lst acc)) (restore s1 s vs)) : W (compOut vs tg t m ds s) PO E := by
  with_unfolding_all
    have key : ∀ (ds acc : List D) (u : S), I ds acc u → ∃ zs u', cloop vs tg t m ds u = .ok zs u' ∧ I [] (acc ++ zs) u' := by
      intro ds
      induction ds with
      | nil => intro acc u h; exact ⟨[], u, rfl, by rw [List.append_nil]; exact h⟩
      | cons d ds ih =>
        intro acc u h
        obtain ⟨u1, e1, h1⟩ := step d ds acc u h
        obtain ⟨c, u2, e2, h2, h3⟩ := h1.get
        unfold cloop
        simp only [e1, e2]
        cases c with
        | true =>
          obtain ⟨y, u3, e3, f3, i3⟩ := (h2 rfl).get
          obtain ⟨zs, u4, e4, i4⟩ := ih _ _ i3
          simp only [e3, if_pos f3, e4]
          exact ⟨_, _, rfl, by rw [List.append_assoc] at i4; exact i4⟩
        | false =>
          obtain ⟨f3, i3⟩ := h3 rfl
          simp only [if_pos f3]
          exact ih _ _ i3
    obtain ⟨zs, u, e, i⟩ := key ds [] _ h0
    obtain ⟨f, q⟩ := fin _ _ i
    unfold compOut
    rw [if_pos hv]
    simp only [e]
    rw [List.nil_append] at f q
    rw [if_pos f]
    exact q
/-- a comprehension over a list whose items are all turned by f -/
theorem w_map {α : Type} {vs : List Nat} {xs : List α} {ds : List D} {u : S} (gg f : α → D) (hd : ds = xs.map gg) (hv : vs.all (plainAt s) = true) (hu : wipeS s vs = u) (hl : xs.length ≤ 1000000)
    (step : ∀ x ∈ xs, Sm (tg (gg x) u) fun s1 => W (m s1) (fun y s2 => y = f x ∧ vs.all (plainAt s2) = true ∧ wipeS s2 vs = u) E9) (fin : PO (.own (.lst (xs.map f))) (restore u s vs)) : W (compOut vs tg bYes m ds s) PO E := by
  with_unfolding_all
    subst hd
    refine w_comp (fun ds acc s => s = u ∧ ∃ as bs, xs = as ++ bs ∧ ds = bs.map gg ∧ acc = as.map f) hv ⟨hu, [], xs, rfl, rfl, rfl⟩ ?_ ?_
    · rintro d ds acc s1 ⟨rfl, as, bs, e1, e2, rfl⟩
      cases bs with
      | nil => cases e2
      | cons x bs =>
        cases e2
        obtain ⟨s2, e3, q⟩ := step x (by rw [e1]; simp)
        refine ⟨s2, e3, w_ok (kb_t (q.imp ?_))⟩
        rintro y s3 ⟨rfl, h1, h2⟩
        exact ⟨h1, h2, as ++ [x], bs, by rw [e1]; simp, rfl, by simp⟩
    · rintro acc s1 ⟨rfl, as, bs, e1, e2, rfl⟩
      cases bs with
      | nil =>
        rw [List.append_nil] at e1
        subst e1
        exact ⟨fits_of (by rw [List.length_map]; exact hl), fin⟩
      | cons x bs => cases e2
/-! slots in their place -/
theorem w_ixO {o : Sl} {ds : List D} (e : mutL s i = some (o, ds)) (h : W (m s) (fun k s1 => ∃ w xs j z, mutL s1 i = some (w, xs) ∧ k = .int j ∧ atI xs j = some z ∧ P z s1) E) : W (mIxO i m s) P E := by
  with_unfolding_all
    unfold mIxO
    simp only [e]
    refine w_bind (h.imp fun k s1 ⟨w, xs, j, z, e1, e2, e3, q⟩ => ?_)
    subst e2
    simp only [e1, e3]
    exact q
theorem w_lenO {o : Sl} {ds : List D} (e : mutL s i = some (o, ds)) (h : P (.int (ds.length : Nat)) s) : W (mLenO i s) P E := by
  with_unfolding_all
    unfold mLenO
    simp only [e]
    exact h
theorem w_append {o : Sl} {ds : List D} (e : mutL s i = some (o, ds)) (h : W (m s) (fun d s1 => ∃ w xs, mutL s1 i = some (w, xs) ∧ fits (xs.length + 1) = true ∧ PO (.val .non) (s1.set i (some (w.re (.lst (xs ++ [d])))))) E) : W (mAppend i m s) PO E := by
  with_unfolding_all
    unfold mAppend
    simp only [e]
    refine w_bind (h.imp fun k s1 ⟨w, xs, e1, e2, q⟩ => ?_)
    simp only [e1, if_pos e2]
    exact q
theorem w_setIx {mk : MD} (h : W (m s) (fun d s1 => ∃ w0 xs0, mutL s1 i = some (w0, xs0) ∧ W (mk s1) (fun k s2 => ∃ w xs j n, mutL s2 i = some (w, xs) ∧ k = .int j ∧ ixN xs.length j = some n ∧ PS .nx (s2.set i (some (w.re (.lst (xs.set n d)))))) E) E) : W (mSetIx i mk m s) PS E := by
  with_unfolding_all
    refine w_bind (h.imp fun d s1 ⟨w0, xs0, e0, q⟩ => ?_)
    simp only [e0]
    refine w_bind (q.imp fun k s2 ⟨w, xs, j, n, e1, e2, e3, q⟩ => ?_)
    subst e2
    simp only [e1, e3]
    exact q
theorem w_pop {o : Sl} {ds : List D} (e : mutL s i = some (o, ds)) (h : W (m s) (fun k s1 => ∃ w xs j n, mutL s1 i = some (w, xs) ∧ k = .int j ∧ ixN xs.length j = some n ∧ ∃ z, xs[n]? = some z ∧ i62 j = true ∧ P z (s1.set i (some (w.re (.lst (xs.eraseIdx n)))))) E) : W (mPop i m s) P E := by
  with_unfolding_all
    unfold mPop
    simp only [e]
    refine w_bind (h.imp fun k s1 ⟨w, xs, j, n, e1, e2, e3, z, e4, e5, q⟩ => ?_)
    subst e2
    simp only [e1, e3, e4, if_pos e5]
    exact q
theorem ixN0 {α : Type} {x : α} {l : List α} : ixN (x :: l).length 0 = some 0 := ixN_nat (j := 0) (by simp)
theorem ixN1 {α : Type} {x y : α} {l : List α} : ixN (x :: y :: l).length 1 = some 1 := ixN_nat (j := 1) (by simp)
theorem ixN2 {α : Type} {x y z : α} {l : List α} : ixN (x :: y :: z :: l).length 2 = some 2 := ixN_nat (j := 2) (by simp)
theorem w_make {cn : Str} {F : FL} (h : W (ml s) (fun ds s1 => ds.length + 1 = n ∧ ∃ s' o', F (.ins cn []) ds = .ok (.val .non) s' ∧ s'[0]? = some (some (.bor o')) ∧ o'.sub.isEmpty = true ∧ PO (.own o') s1) E) : W (mMake cn F n ml s) PO E := by
  with_unfolding_all
    refine w_bind (h.imp fun ds s1 ⟨hl, s', o', e, e0, hz, q⟩ => ?_)
    simp only [if_pos hl, e, e0, if_pos hz]
    exact q
theorem w_setF {cn f : Str} (h : W (m s) (fun d s1 => ∃ w fs, mutI s1 i = some (w, cn, fs) ∧ fs.length < 1000 ∧ PS .nx (s1.set i (some (w.re (.ins cn (putFD f d fs)))))) E) : W (mSetF i cn f m s) PS E := by
  with_unfolding_all
    refine w_bind (h.imp fun d s1 ⟨w, fs, e, hl, q⟩ => ?_)
    simp only [e]
    rw [if_pos ⟨trivial, hl⟩]
    exact q
theorem w_rev (h : W (m s) (fun d s1 => ∃ xs, d = .tup xs ∧ P (.tup xs.reverse) s1) E) : W (mRev m s) P E := by with_unfolding_all exact (
    w_bind (h.imp fun d s1 ⟨xs, e, q⟩ => by subst e; exact q))
theorem w_r1 (h : W (ml s) (fun ds s1 => ∃ j, ds = [.int j] ∧ i62 j = true ∧ PL (rngD 0 j.toNat) s1) E) : W (iR1 ml s) PL E := by with_unfolding_all exact (
    w_bind (h.imp fun ds s1 ⟨j, e, f, q⟩ => by subst e; simp only [if_pos f]; exact q))
theorem w_en (h : W (ml s) (fun ds s1 => ∃ d xs, ds = [d] ∧ d.items = some xs ∧ PL (enumD 0 xs) s1) E) : W (iEn ml s) PL E := by with_unfolding_all exact (
    w_bind (h.imp fun ds s1 ⟨d, xs, e, f, q⟩ => by subst e; simp only [f]; exact q))
theorem w_zp (h : W (ml s) (fun ds s1 => ∃ xs ys, ds = [.tup xs, .tup ys] ∧ PL (zipD xs ys) s1) E) : W (iZp ml s) PL E := by with_unfolding_all exact (
    w_bind (h.imp fun ds s1 ⟨xs, ys, e, q⟩ => by subst e; exact q))
theorem w_sl {lo hi : MP} (h : W (m s) (fun d s1 => W (lo s1) (fun x s2 => W (hi s2) (fun y s3 => Sm (gSl d x y) fun z => P z s3) E) E) E) : W (mSl m lo hi s) P E := by with_unfolding_all exact (
    w_bind (h.imp fun d s1 q => w_bind (q.imp fun x s2 q => w_bind (q.imp fun y s3 q => w_o2 q))))
theorem w_pNo {Po : Option Int → S → Prop} (h : Po none s) : W (pNo s) Po E := by with_unfolding_all exact (
    h)
theorem w_pSo {Po : Option Int → S → Prop} (h : W (m s) (fun d s1 => ∃ i, d = .int i ∧ Po (some i) s1) E) : W (pSo m s) Po E := by with_unfolding_all exact (
    w_bind (h.imp fun d s1 ⟨i, e, q⟩ => by subst e; exact q))
/-! calls -/
@[irreducible] def FOk (F : FP) (ds : List D) (P : Sl → Prop) : Prop := ∃ r s, F ds = .ok r s ∧ (∀ o, r ≠ .bor o) ∧ P r
theorem FOk.get {F : FP} {ds : List D} {P : Sl → Prop} (h : FOk F ds P) : ∃ r s, F ds = .ok r s ∧ (∀ o, r ≠ .bor o) ∧ P r := by with_unfolding_all exact h
theorem FOk.mk {F : FP} {ds : List D} {P : Sl → Prop} (h : ∃ r s, F ds = .ok r s ∧ (∀ o, r ≠ .bor o) ∧ P r) : FOk F ds P := by with_unfolding_all exact h
theorem w_call {F : FP} (h : W (ml s) (fun ds s1 => ds.length = n ∧ FOk F ds fun r => PO r s1) E) : W (mCall F n ml s) PO E := by
  with_unfolding_all
    refine w_bind (h.imp fun ds s1 ⟨hl, hf⟩ => ?_)
    obtain ⟨r, s2, e, nb, q⟩ := hf.get
    simp only [if_pos hl, e]
    cases r with
    | val d => exact q
    | own o => exact q
    | bor o => exact absurd rfl (nb o)
@[irreducible] def FEx (F : FP) (ds : List D) (x : Exc) : Prop := ∃ s, F ds = .exc x s
theorem FEx.get {F : FP} {ds : List D} {x : Exc} (h : FEx F ds x) : ∃ s, F ds = .exc x s := by with_unfolding_all exact h
theorem FEx.mk {F : FP} {ds : List D} {x : Exc} (h : ∃ s, F ds = .exc x s) : FEx F ds x := by with_unfolding_all exact h
theorem w_fld {cn f : Str} (h : W (m s) (fun d s1 => ∃ fs z, d = .obj cn fs ∧ fs.lookup f = some z ∧ P z s1) E) : W (mFld cn f m s) P E := by with_unfolding_all exact (
    w_bind (h.imp fun d s1 ⟨fs, z, e, e2, q⟩ => by subst e; simp only [if_pos, e2]; exact q))
end
/-! defs -/
def kf (P : Sl → Prop) : Fl → S → Prop
  | .nx, _ => P (.val .non)
  | .rt r, _ => (∀ o, r ≠ .bor o) ∧ P r
  | _, _ => False
theorem kf_nx {P : Sl → Prop} {s : S} (h : P (.val .non)) : kf P .nx s := h
theorem kf_v {P : Sl → Prop} {s : S} {d : D} (h : P (.val d)) : kf P (.rt (.val d)) s := ⟨fun _ z => (by cases z), h⟩
theorem kf_o {P : Sl → Prop} {s : S} {o : O} (h : P (.own o)) : kf P (.rt (.own o)) s := ⟨fun _ z => (by cases z), h⟩
theorem fok {N n : Nat} {m : MS} {ds : List D} {P : Sl → Prop} (hn : ds.length = n) (h : W (m (init N ds)) (kf P) E9) : FOk (runP N n m) ds P := by
  with_unfolding_all
    obtain ⟨f, s, e, q⟩ := h.get
    unfold FOk runP
    rw [if_pos hn, e]
    cases f with
    | nx => exact ⟨_, s, rfl, fun o z => (by cases z), q⟩
    | rt r => exact ⟨r, s, rfl, q.1, q.2⟩
    | bk => exact q.elim
    | ct => exact q.elim
def kL (P : D → Prop) : Fl → S → Prop
  | .rt (.val d), s => ∃ o', s[0]? = some (some (.bor o')) ∧ DOk o' ∧ P d
  | _, _ => False
theorem kL_v {P : D → Prop} {s : S} {d : D} {o' : O} (e : s[0]? = some (some (.bor o'))) (k : DOk o') (h : P d) : kL P (.rt (.val d)) s := ⟨o', e, k, h⟩
theorem lok {N n : Nat} {m : MS} {ds : List D} {P : D → Prop} (hn : ds.length + 1 = n) (h : ∀ o, DOk o → W (m (some (.bor o) :: init (N - 1) ds)) (kL P) E9) : LOk (runL N n m) ds P := by
  with_unfolding_all
    intro o ho
    obtain ⟨f, s, e, q⟩ := (h o ho).get
    unfold runL
    rw [if_pos hn, e]
    cases f with
    | rt r =>
      cases r with
      | val d => obtain ⟨o', e0, k, q⟩ := q; exact ⟨d, o', s, rfl, e0, k, q⟩
      | own o => exact q.elim
      | bor o => exact q.elim
    | nx => exact q.elim
    | bk => exact q.elim
    | ct => exact q.elim
def kg (P : Sl → S → Prop) : Fl → S → Prop
  | .nx, s => P (.val .non) s
  | .rt r, s => P r s
  | _, _ => False
theorem kg_nx {P : Sl → S → Prop} {s : S} (h : P (.val .non) s) : kg P .nx s := h
theorem kg_rt {P : Sl → S → Prop} {s : S} {r : Sl} (h : P r s) : kg P (.rt r) s := h
/-! operators on data -/
theorem sm_isNr {x y z : D} {P : D → Prop} (e : gIsN x y = some z) (h : P z) : Sm (gIsN x y) P := by with_unfolding_all exact (
    ⟨z, e, h⟩)
theorem sm_notNr {x y z : D} {P : D → Prop} (e : gNotN x y = some z) (h : P z) : Sm (gNotN x y) P := by with_unfolding_all exact (
    ⟨z, e, h⟩)
theorem sm_neB {x y : Bool} {z : D} {P : D → Prop} (e : gNe (.bl x) (.bl y) = some z) (h : P z) : Sm (gNe (.bl x) (.bl y)) P := by with_unfolding_all exact (
    ⟨z, e, h⟩)
theorem sm_mulTr {xs : List D} {k : Int} {z : D} {P : D → Prop} (e : gMul (.tup xs) (.int k) = some z) (h : P z) : Sm (gMul (.tup xs) (.int k)) P := by with_unfolding_all exact (
    ⟨z, e, h⟩)
theorem sm_frzI {c : Str} {fs : List (Str × D)} {P : D → Prop} (h : P (.obj c fs)) : Sm (Sl.own (.ins c fs)).frz P := by with_unfolding_all exact (
    ⟨_, rfl, h⟩)
theorem sm_frzK {fs : List (Key × D)} {P : D → Prop} (h : P (.dic fs)) : Sm (Sl.own (.dK fs)).frz P := by with_unfolding_all exact (
    ⟨_, rfl, h⟩)
theorem w_dict0 {s : S} {P : Sl → S → Prop} {E : Exc → S → Prop} (h : P (.own (.dK [])) s) : W (mDict0 s) P E := by with_unfolding_all exact (
    h)
theorem sm_eqSf {a b : Str} {P : D → Prop} (c : eqD (.str a) (.str b) = some false) (h : P (.bl false)) : Sm (gEq (.str a) (.str b)) P := by with_unfolding_all exact (
    ⟨_, by unfold gEq; rw [c]; rfl, h⟩)
theorem sm_eqSt {a b : Str} {P : D → Prop} (c : eqD (.str a) (.str b) = some true) (h : P (.bl true)) : Sm (gEq (.str a) (.str b)) P := by with_unfolding_all exact (
    ⟨_, by unfold gEq; rw [c]; rfl, h⟩)
theorem sm_isi {T : String} {d : D} {b : Bool} {P : D → Prop} (k : kitB d.ty T = some b) (h : P (.bl b)) (no : ∀ c fs, d ≠ .obj c fs) (nx : ∀ c fs, d ≠ .exn c fs) : Sm (gIsi T d) P := by
  with_unfolding_all
    refine ⟨.bl b, ?_, h⟩
    unfold gIsi
    rw [k]
    cases d with
    | obj c fs => exact absurd rfl (no c fs)
    | exn c fs => exact absurd rfl (nx c fs)
    | _ => rfl
section
variable {i j : Int} {P : D → Prop} {ds es : List D}
theorem sm_add (h : P (.int (i + j))) : Sm (gAdd (.int i) (.int j)) P := by with_unfolding_all exact (
    ⟨_, rfl, h⟩)
theorem sm_sub (h : P (.int (i - j))) : Sm (gSub (.int i) (.int j)) P := by with_unfolding_all exact (
    ⟨_, rfl, h⟩)
theorem sm_neg (h : P (.int (-i))) : Sm (gNeg (.int i)) P := by with_unfolding_all exact (
    ⟨_, rfl, h⟩)
theorem sm_mul (c : i64 i = true ∨ i64 j = true) (h : P (.int (i * j))) : Sm (gMul (.int i) (.int j)) P := by with_unfolding_all exact (
    ⟨_, by rw [gMul_int, if_pos (by rw [Bool.or_eq_true]; exact c)], h⟩)
theorem sm_mod (c : 0 < j) (h : P (.int (i % j))) : Sm (gMod (.int i) (.int j)) P := by with_unfolding_all exact (
    ⟨_, by rw [gMod_int, if_pos c], h⟩)
theorem sm_fdiv (c : 0 < j) (c2 : j.natAbs.log2 < 9000) (h : P (.int (i / j))) : Sm (gFDiv (.int i) (.int j)) P := by with_unfolding_all exact (
    ⟨_, by rw [gFDiv_int, if_pos (by rw [Bool.and_eq_true]; exact ⟨decide_eq_true c, decide_eq_true c2⟩)], h⟩)
theorem sm_cmp {f : Int → Int → Bool} (h : P (.bl (f i j))) : Sm (gCmp f (.int i) (.int j)) P := by with_unfolding_all exact (
    ⟨_, rfl, h⟩)
theorem sm_eqI (h : P (.bl (decide (i = j)))) : Sm (gEq (.int i) (.int j)) P := by with_unfolding_all exact (
    ⟨_, rfl, h⟩)
theorem sm_neI (h : P (.bl (!decide (i = j)))) : Sm (gNe (.int i) (.int j)) P := by with_unfolding_all exact (
    ⟨_, rfl, h⟩)
theorem sm_ixT {z : D} (e : atI ds i = some z) (h : P z) : Sm (gIx (.tup ds) (.int i)) P := by with_unfolding_all exact (
    ⟨_, e, h⟩)
theorem sm_ixL {z : D} (e : atI ds i = some z) (h : P z) : Sm (gIx (.lst ds) (.int i)) P := by with_unfolding_all exact (
    ⟨_, e, h⟩)
theorem sm_intI (h : P (.int i)) : Sm (gInt [.int i]) P := by with_unfolding_all exact (
    ⟨_, rfl, h⟩)
theorem sm_absI (h : P (.int (if i < 0 then -i else i))) : Sm (gAbs [.int i]) P := by with_unfolding_all exact (
    ⟨_, rfl, h⟩)
theorem sm_lenT (h : P (.int (ds.length : Nat))) : Sm (gLen [.tup ds]) P := by with_unfolding_all exact (
    ⟨_, rfl, h⟩)
theorem sm_lenL (h : P (.int (ds.length : Nat))) : Sm (gLen [.lst ds]) P := by with_unfolding_all exact (
    ⟨_, rfl, h⟩)
theorem sm_tupL (h : P (.tup ds)) : Sm (gTuple [.lst ds]) P := by with_unfolding_all exact (
    ⟨_, rfl, h⟩)
theorem sm_frzV {d : D} (h : P d) : Sm (Sl.val d).frz P := by with_unfolding_all exact (
    ⟨_, rfl, h⟩)
theorem sm_frzL (h : P (.lst ds)) : Sm (Sl.own (.lst ds)).frz P := by with_unfolding_all exact (
    ⟨_, rfl, h⟩)
theorem sm_itT {P : List D → Prop} (h : P ds) : Sm (D.tup ds).items P := by with_unfolding_all exact (
    ⟨_, rfl, h⟩)
theorem sm_itL {P : List D → Prop} (h : P ds) : Sm (D.lst ds).items P := by with_unfolding_all exact (
    ⟨_, rfl, h⟩)
theorem sm_itS {P : List D → Prop} {ns : List Int} (h : P (ns.map .int)) : Sm (D.scr ns).items P := by with_unfolding_all exact (
    ⟨_, rfl, h⟩)
theorem sm_gN {d : D} {s : S} {k : Nat} {P : S → Prop} (f : free s k = true) (h : P (s.set k (some (.val d)))) : Sm (gN k d s) P := by with_unfolding_all exact (
    ⟨_, by unfold gN; rw [if_pos f], h⟩)
theorem sm_gT {d : D} {s s' : S} {n : Nat} {tgs : MGs} {P : S → Prop} (e : gT n tgs d s = some s') (h : P s') : Sm (gT n tgs d s) P := by with_unfolding_all exact (
    ⟨_, e, h⟩)
theorem sm_cat {P : List D → Prop} (f : ds.length + es.length ≤ 1000000) (h : P (ds ++ es)) : Sm (gCatL (.lst ds) (.lst es)) P := by with_unfolding_all exact (
    ⟨_, by rw [gCatL_ap, if_pos (fits_of f)], h⟩)
theorem sm_pow (c : 0 ≤ j) (c2 : j ≤ 1000000) (c3 : i.natAbs < 2 ^ 64) (h : P (.int (i ^ j.toNat))) : Sm (gPow (.int i) (.int j)) P := by with_unfolding_all exact (
    ⟨_, by rw [gPow_int, if_pos (by simp [c, c2]; exact c3)], h⟩)
end
end Den

set_option Elab.async false
set_option linter.all false
set_option maxRecDepth 100000
set_option maxHeartbeats 4000000
namespace Den
variable {hox : Option Addr}
open PySem PySem.Spec PyProof.Rows L2
/-! ### dicts of the def's own -/
def putD {κ : Type} [DecidableEq κ] (kvs : List (κ × D)) (k : κ) (v : D) : List (κ × D) :=
  if (kvs.any fun kv => decide (kv.1 = k)) = true then kvs.map (fun kv => if kv.1 = k then (kv.1, v) else kv) else kvs ++ [(k, v)]
def valD {κ : Type} [DecidableEq κ] (kvs : List (κ × D)) (k : κ) : Option D := (kvs.find? fun kv => decide (kv.1 = k)).map (·.2)
def D.key : D → Option Key
  | .int i => some (.inl i)
  | .str x => some (.inr x)
  | _ => none
def D.keys : List D → Option (List Key)
  | [] => some []
  | d :: ds => match d.key, D.keys ds with
    | some k, some ks => some (k :: ks)
    | _, _ => none
section
variable {K : PySem.W.Frag} {mg : Str → Option Value} {G : Hp}
theorem rep_key {v : V} {d : D} {k : Key} (r : Rep K mg G v d) (e : d.key = some k) : v = kV k := by
  cases r <;> first | (cases e; rfl) | cases e
end
def mutT (s : S) (i : Nat) : Option (Sl × List (List Key × D)) := match mutAt s i with
  | some (w, .dT xs) => some (w, xs)
  | _ => none
def mDictT : MO := fun s => .ok (.own (.dT [])) s
/-- x[k] = v, k a tuple -/
def mSetT (i : Nat) (mi m : MD) : MS := fun s => (m s).bind fun d s1 => match mutT s1 i with
  | none => .bad
  | some _ => (mi s1).bind fun k s2 => match mutT s2 i, k with
    | some (w, xs), .tup ks => match D.keys ks with
      | some kk => if fits (xs.length + 1) = true then .ok .nx (s2.set i (some (w.re (.dT (putD xs kk d))))) else .bad
      | none => .bad
    | _, _ => .bad
def mLenT (i : Nat) : MD := fun s => match mutT s i with
  | none => .bad
  | some (_, xs) => .ok (.int (xs.length : Nat)) s
section
variable {X : Cx} {W : WX} {b e : Expr} {m mi : MD} {pos p p2 py : Pos} {y : Str}
end
end Den

set_option Elab.async false
set_option linter.all false
set_option maxRecDepth 100000
set_option maxHeartbeats 4000000
namespace Den
variable {hox : Option Addr}
open PySem PySem.Spec PyProof.Rows L2
/-! ### slots that are dead are forgotten -/
def kill1 (s : S) (i : Nat) : S := if free s i = true then s.set i none else s
def dead : Option Sl → Option Sl
  | some (.bor o) => some (.bor o)
  | _ => none
/-- the slots of a mask -/
def kill : List Bool → S → S
  | true :: ms, x :: s => dead x :: kill ms s
  | false :: ms, x :: s => x :: kill ms s
  | _, s => s
def killFrom : Nat → List Bool → S → S
  | _, [], s => s
  | i, b :: ms, s => killFrom (i + 1) ms (if b = true then kill1 s i else s)
theorem kill1_at {pre s : S} {x : Option Sl} : kill1 (pre ++ x :: s) pre.length = pre ++ dead x :: s := by
  have e : (pre ++ x :: s)[pre.length]? = some x := by simp
  have e2 : (pre ++ x :: s).set pre.length none = pre ++ none :: s := by simp
  unfold kill1 free
  rw [e]
  cases x with
  | none => simp [e2, dead]
  | some w => cases w <;> simp [e2, dead]
theorem kill1_out {s : S} {i : Nat} (h : s.length ≤ i) : kill1 s i = s := by
  unfold kill1 free
  rw [List.getElem?_eq_none h]
  rfl
theorem killFrom_out : ∀ {ms : List Bool} {s : S} {i : Nat}, s.length ≤ i → killFrom i ms s = s
  | [], _, _, _ => rfl
  | b :: ms, s, i, h => by
    show killFrom (i + 1) ms (if b = true then kill1 s i else s) = s
    have : (if b = true then kill1 s i else s) = s := by split; exact kill1_out h; rfl
    rw [this]
    exact killFrom_out (by omega)
theorem killFrom_eq : ∀ {ms : List Bool} {pre s : S}, killFrom pre.length ms (pre ++ s) = pre ++ kill ms s
  | [], pre, s => by cases s <;> rfl
  | b :: ms, pre, [] => by
    rw [List.append_nil]
    rw [killFrom_out (Nat.le_refl _)]
    cases b <;> simp [kill]
  | b :: ms, pre, x :: s => by
    show killFrom (pre.length + 1) ms (if b = true then kill1 (pre ++ x :: s) pre.length else pre ++ x :: s) = _
    cases b with
    | true =>
      rw [if_pos rfl, kill1_at]
      have := killFrom_eq (ms := ms) (pre := pre ++ [dead x]) (s := s)
      rw [List.length_append, List.append_assoc, List.append_assoc] at this
      exact this
    | false =>
      rw [if_neg Bool.false_ne_true]
      have := killFrom_eq (ms := ms) (pre := pre ++ [x]) (s := s)
      rw [List.length_append, List.append_assoc, List.append_assoc] at this
      exact this
section
variable {K : PySem.W.Frag} {mg : Str → Option Value} {c : Ct} {s : S} {σ : St} {H : Hp}
theorem StR.kill1 (x : StR hox K mg c s σ H) (i : Nat) : Go hox K mg c s σ H (Den.kill1 s i) σ H := by
  unfold Den.kill1
  by_cases f : free s i = true
  · rw [if_pos f]
    have lt : i < s.length := free_lt f
    have lt2 : i < σ.length := by have := x.len; omega
    have g := x.put f none σ[i] (fun d e => by cases e) (.inr rfl)
    rw [set_same (List.getElem?_eq_getElem lt2)] at g
    exact g
  · rw [if_neg f]; exact .refl x
theorem StR.killFrom : ∀ (js : List Bool) {s : S} {i : Nat}, StR hox K mg c s σ H → Go hox K mg c s σ H (Den.killFrom i js s) σ H
  | [], _, _, x => .refl x
  | true :: js, _, i, x => (x.kill1 i).trans (StR.killFrom js (x.kill1 i).1)
  | false :: js, _, _, x => StR.killFrom js x
theorem StR.kill (js : List Bool) {s : S} (x : StR hox K mg c s σ H) : Go hox K mg c s σ H (Den.kill js s) σ H := by
  have g := x.killFrom js (i := 0)
  rw [show Den.killFrom 0 js s = Den.kill js s from killFrom_eq (pre := [])] at g
  exact g
end
/-- forgotten ahead of a statement -/
def mPre (js : List Bool) (b : MS) : MS := fun s => b (kill js s)
/-- .. behind it -/
def mKill (js : List Bool) (b : MS) : MS := fun s => match b s with
  | .ok .nx s1 => .ok .nx (kill js s1)
  | .ok .ct s1 => .ok .ct (kill js s1)
  | o => o
section
variable {X : Cx} {W : WX} {st : Stmt} {sts : List Stmt} {b : MS} {js : List Bool}
theorem pre_imp {K : PySem.W.Frag} {mg : Str → Option Value} {E : Ends} {σ : St} {H : Hp} (h : tS hox K mg W (mPre js b) E σ H) : tS hox K mg W b E σ H := by
  obtain ⟨c, s, st, q⟩ := h
  have g := st.kill js
  exact ⟨c, _, g.1, ResS.after q g⟩
theorem kill_imp {K : PySem.W.Frag} {mg : Str → Option Value} {E : Ends} {σ : St} {H : Hp} (h : tS hox K mg W (mKill js b) E σ H) : tS hox K mg W b E σ H := by
  obtain ⟨c, s, st, q⟩ := h
  refine ⟨c, s, st, ?_⟩
  unfold mKill at q
  cases e : b s with
  | ok f s1 =>
    rw [e] at q
    cases f with
    | nx => exact fun σ' H' g => q σ' H' (g.trans (g.1.kill js))
    | ct => exact fun σ' H' g => q σ' H' (g.trans (g.1.kill js))
    | bk => exact q
    | rt r => exact q
  | exc y s1 => rw [e] at q; exact q
  | bad => rw [e] at q; exact q
theorem ss_pre (h : SS hox X W st b) : SS hox X W st (mPre js b) := PS.imp h fun E σ H => pre_imp
theorem sss_kill (h : SSs hox X W sts b) : SSs hox X W sts (mKill js b) := PSs.imp h fun E σ H => kill_imp
end
/-- .. behind the iterable -/
def iKill (js : List Bool) (m : MI) : MI := fun s => (m s).bind fun ds s1 => .ok ds (kill js s1)
theorem ItOk.mono {K : PySem.W.Frag} {mg : Str → Option Value} {J : It} {G G' : Hp} {ds : List D} (h : ItOk K mg J G ds) (l : Le G G') : ItOk K mg J G' ds :=
  ⟨fun i d hh H1 e nh l2 => h.1 i d hh H1 e nh (l.trans l2), fun hh H1 l2 => h.2 hh H1 (l.trans l2)⟩
theorem si_kill {X : Cx} {W : WX} {tg e : Expr} {m : MI} {js : List Bool} (h : SI hox X W tg e m) : SI hox X W tg e (iKill js m) := PI.imp h fun σ H R ⟨c, s, st, q⟩ => ⟨c, s, st, by
  unfold iKill at q
  cases e1 : m s with
  | ok ds s1 =>
    rw [e1] at q
    exact fun H' g J hJ => by
      have g2 := g.1.kill js
      exact q H' (g.trans g2) J (hJ.mono g2.2)
  | exc y s1 => rw [e1] at q; exact q
  | bad => rw [e1] at q; exact q⟩
/-! ### x += e, ints -/
def mAug (i : Nat) (f : Int → Int → Int) (m : MD) : MS := fun s => match s[i]? with
  | some (some (.val (.int a))) => (m s).bind fun d s1 => match d with
    | .int b => if free s1 i = true then .ok .nx (s1.set i (some (.val (.int (f a b))))) else .bad
    | _ => .bad
  | _ => .bad
section
variable {X : Cx} {W : WX} {e : Expr} {m : MD} {pos pos' : Pos} {x : Str}
theorem ss_aug (i : Nat) {f : Int → Int → Int} {op : Operator} (ho : PIp X op (ipI f)) (hN : X.N.Nodup) (he : SD hox X W e m) (hi : X.N[i]? = some x := by rfl) (hx : Loc X.env.scope x := by first | exact Or.inl rfl | exact Or.inr rfl) (hf : X.fn x = true ∨ X.env.scope.names.lookup x = some .local := by first | exact .inl rfl | exact .inr rfl | assumption) :
    SS hox X W (.AugAssign (.Name x pos') op e pos) (mAug i f m) :=
  PS.imp (ps_aug hN hi hx he ho hf) fun E σ H ⟨c, s, st, q⟩ => by
    unfold mAug at q
    split at q
    · rename_i a e0
      obtain ⟨v, e1, r⟩ := st.val i _ e0
      cases r
      refine ⟨_, e1, c, s, st, (ResS.split q).imp fun d s1 H1 g1 q1 v rv => ?_⟩
      cases rv with
      | int b =>
        simp only at q1
        by_cases f : free s1 i = true
        · rw [if_pos f] at q1
          exact ⟨a, b, rfl, rfl, q1 _ _ (g1.1.put f _ _ (fun d' e => by cases e; exact ⟨_, rfl, .int _⟩) (.inl ⟨_, rfl⟩))⟩
        · rw [if_neg f] at q1; exact q1.elim
      | _ => exact q1.elim
    · exact q.elim
end
/-! ### dicts by ints and texts -/
section
variable {K : PySem.W.Frag} {mg : Str → Option Value} {G : Hp}
theorem repK_len {xs : List (Key × V)} {ds : List (Key × D)} (r : RepK K mg G xs ds) : xs.length = ds.length := by
  induction xs generalizing ds with
  | nil => cases r; rfl
  | cons _ _ ih => cases r with | cons a b => rw [List.length_cons, List.length_cons, ih b]
theorem repK_any {xs : List (Key × V)} {ds : List (Key × D)} (r : RepK K mg G xs ds) (k : Key) : (xs.any fun kv => decide (kv.1 = k)) = ds.any fun kv => decide (kv.1 = k) := by
  induction xs generalizing ds with
  | nil => cases r; rfl
  | cons _ _ ih => cases r with | cons a b => rw [List.any_cons, List.any_cons, ih b]
theorem repK_app {xs ys : List (Key × V)} {ds es : List (Key × D)} (r : RepK K mg G xs ds) (q : RepK K mg G ys es) : RepK K mg G (xs ++ ys) (ds ++ es) := by
  induction xs generalizing ds with
  | nil => cases r; exact q
  | cons _ _ ih => cases r with | cons a b => exact .cons a (ih b)
theorem repK_put {xs : List (Key × V)} {ds : List (Key × D)} {v : V} {d : D} (r : RepK K mg G xs ds) (k : Key) (rv : Rep K mg G v d) : RepK K mg G (putK xs k v) (putD ds k d) := by
  unfold putK putD
  rw [repK_any r k]
  by_cases h : (ds.any fun kv => decide (kv.1 = k)) = true
  · rw [if_pos h, if_pos h]
    clear h
    induction xs generalizing ds with
    | nil => cases r; exact .nil
    | cons x xs ih =>
      cases r with
      | @cons k' v' vs d' ds' a b =>
        rw [List.map_cons, List.map_cons]
        by_cases e : k' = k
        · simp only [if_pos e]; exact .cons rv (ih b)
        · simp only [if_neg e]; exact .cons a (ih b)
  · rw [if_neg h, if_neg h]
    exact repK_app r (.cons rv .nil)
theorem repK_val {xs : List (Key × V)} {ds : List (Key × D)} (r : RepK K mg G xs ds) (k : Key) : (valV xs k = none ∧ valD ds k = none) ∨ ∃ v d, valV xs k = some v ∧ valD ds k = some d ∧ Rep K mg G v d := by
  unfold valV valD
  induction xs generalizing ds with
  | nil => cases r; exact .inl ⟨rfl, rfl⟩
  | cons x xs ih =>
    cases r with
    | @cons k' v' vs d' ds' a b =>
      rw [List.find?_cons, List.find?_cons]
      by_cases e : k' = k
      · simp only [e, decide_true, Option.map_some]
        exact .inr ⟨_, _, rfl, rfl, a⟩
      · simp only [e, decide_false]
        exact ih b
theorem repK_get {xs : List (Key × V)} {ds : List (Key × D)} (r : RepK K mg G xs ds) {i : Nat} {k : Key} {d : D} (h : ds[i]? = some (k, d)) : ∃ v, xs[i]? = some (k, v) ∧ Rep K mg G v d := by
  induction xs generalizing ds i with
  | nil => cases r; cases h
  | cons x xs ih =>
    cases r with
    | @cons k' v' vs d' ds' a b =>
      cases i with
      | zero => cases h; exact ⟨_, rfl, a⟩
      | succ i => exact ih b h
end
end Den

set_option Elab.async false
set_option linter.all false
set_option maxRecDepth 100000
set_option maxHeartbeats 4000000
namespace Den
variable {hox : Option Addr}
open PySem PySem.Spec PyProof.Rows L2
/-! ### dicts: read, written, copied, walked -/
def mutK (s : S) (i : Nat) : Option (Sl × List (Key × D)) := match mutAt s i with
  | some (w, .dK xs) => some (w, xs)
  | _ => none
theorem mutK_at {s : S} {i : Nat} {w : Sl} {ds : List (Key × D)} (h : mutK s i = some (w, ds)) : mutAt s i = some (w, .dK ds) := by
  unfold mutK at h
  split at h
  · rename_i w' xs e
    cases h; exact e
  · cases h
/-- x[k] = v, k an int or a text, x the def's own -/
def mSetK (i : Nat) (mi m : MD) : MS := fun s => (m s).bind fun d s1 => match mutK s1 i with
  | none => .bad
  | some _ => (mi s1).bind fun k s2 => match mutK s2 i, k.key with
    | some (w, xs), some kk => if fits (xs.length + 1) = true then .ok .nx (s2.set i (some (w.re (.dK (putD xs kk d))))) else .bad
    | _, _ => .bad
/-- x.get(k, v), x the def's own -/
def mGetK (i : Nat) (mk mv : MD) : MD := fun s => match mutK s i with
  | none => .bad
  | some _ => (mk s).bind fun k s1 => (mv s1).bind fun v s2 => match mutK s2 i, k.key with
    | some (_, xs), some kk => .ok ((valD xs kk).getD v) s2
    | _, _ => .bad
/-- x[k], x a datum -/
def gDix : D → D → Option D
  | .dic kvs, k => match k.key with
    | some kk => valD kvs kk
    | none => none
  | _, _ => none
def mCopyK (m : MD) : MO := fun s => (m s).bind fun d s1 => match d with
  | .dic kvs => .ok (.own (.dK kvs)) s1
  | _ => .bad
def keyD : Key → D
  | .inl i => .int i
  | .inr x => .str x
section
variable {K : PySem.W.Frag} {mg : Str → Option Value} {G : Hp}
theorem rep_kV (k : Key) : Rep K mg G (kV k) (keyD k) := by
  cases k with
  | inl i => exact .int i
  | inr x => exact .str x
end
section
variable {X : Cx} {W : WX} {a b e f : Expr} {m mi mk mv : MD} {pos p p2 py apos cpos : Pos} {y : Str} {ml : ML}
theorem ss_setK (i : Nat) (hu : X.A.units + 1 < cLine) (he : SD hox X W e m) (hb : SD hox X W b mi) (hN : X.N[i]? = some y := by rfl) (hv : Vis X.env.scope y := by first | exact Or.inl rfl | exact Or.inr (Or.inl rfl) | exact Or.inr (Or.inr rfl)) (hd : (y == ("__debug__" : Str)) = false := by decide)
    (hcd : (y == ("__classdict__" : Str)) = false := by decide) (ha : ∀ v, assign (.Subscript (.Name y py) b p2) X.env v = (do
      let ov ← holding [v] (eval (.Name y py) X.env)
      let iv ← holding [v, ov] (eval b X.env)
      standAt p2
      holding [v, ov, iv] (setItem ov iv v)
      release [v, ov, iv] []) := by intro _; rfl)
    (hs : swapsWithSole [.Subscript (.Name y py) b p2] e pos.line X.env = pure false := by rfl) (hw : swappedStores [.Subscript (.Name y py) b p2] e X.env = pure none := by rfl)
    (h1 : (assignEach [.Subscript (.Name y py) b p2] X.env).map (·.2) = [assign (.Subscript (.Name y py) b p2) X.env] := by rfl) :
    SS hox X W (.Assign [.Subscript (.Name y py) b p2] e pos) (mSetK i mi m) :=
  PS.imp (ps_asg he (pg_sub (pe_var hN hv hd hcd) hb (set_dict hu) ha) hs hw h1) fun E σ H ⟨c, s, st, q⟩ => ⟨c, s, st, (ResS.split q).imp fun d s1 H1 g1 q1 v r => by
    cases e0 : mutK s1 i with
    | none => simp only [e0] at q1; exact q1.elim
    | some wo =>
      simp only [e0] at q1
      obtain ⟨w, ds⟩ := wo
      obtain ⟨e1, e2⟩ := mutAt_some (mutK_at e0)
      obtain ⟨p, hp, _, _⟩ := g1.1.mut e1 e2
      refine ⟨.ref p, hp, c, s1, g1.1, (ResS.split q1).imp fun k s2 H2 g2 q2 u ru => ?_⟩
      cases e3 : mutK s2 i with
      | none => simp only [e3] at q2; exact q2.elim
      | some wo =>
        obtain ⟨w1, es⟩ := wo
        obtain ⟨e4, e5⟩ := mutAt_some (mutK_at e3)
        obtain ⟨p', hp', hh, ys, hy, ry⟩ := g2.1.mut e4 e5
        rw [hp] at hp'; cases hp'
        cases e6 : k.key with
        | none => simp only [e3, e6] at q2; exact q2.elim
        | some kk =>
          simp only [e3, e6] at q2
          by_cases f : fits (es.length + 1) = true
          · rw [if_pos f] at q2
            have fl := fits_le f
            obtain rfl := rep_key ru e6
            refine ⟨p, _, rfl, DPut.k hy (by rw [repK_len ry]; omega), ?_⟩
            have l : Le (vis c s2 σ H2) (hid (Den.hs c s2 σ) (upd H2 p (.dK (putK ys kk v)))) := hid_le fun b o n e => ⟨n, by rw [upd_ne (fun z => n (by rw [z]; exact hh))]; exact e⟩
            exact q2 _ _ (g2.1.write e4 e5 hp (fun b o n e => by rw [upd_ne n]; exact e) ⟨_, upd_same, repK_put (RepK.mono l ry) kk ((r.mono g2.2).mono l)⟩)
          · rw [if_neg f] at q2; exact q2.elim⟩
theorem sd_getK (i : Nat) (hu : X.A.units + 1 < cLine) (he : SD hox X W e mk) (hf : SD hox X W f mv) (hN : X.N[i]? = some y := by rfl) (hv : Vis X.env.scope y := by first | exact Or.inl rfl | exact Or.inr (Or.inl rfl) | exact Or.inr (Or.inr rfl)) (hd : (y == ("__debug__" : Str)) = false := by decide)
    (hcd : (y == ("__classdict__" : Str)) = false := by decide) (m : M2 X (.Name y py) "get" apos e f cpos := by exact ⟨rfl, rfl, rfl, rfl⟩) :
    SD hox X W (.Call (.Attribute (.Name y py) "get" apos) [e, f] [] cpos) (mGetK i mk mv) :=
  PE.imp (pe_dget2 hu (pe_var hN hv hd hcd) he hf m) fun σ H Q ⟨c, s, st, q⟩ => by
    unfold mGetK at q
    cases e0 : mutK s i with
    | none => simp only [e0] at q; exact q.elim
    | some wo =>
      simp only [e0] at q
      obtain ⟨w, ds⟩ := wo
      obtain ⟨e1, e2⟩ := mutAt_some (mutK_at e0)
      obtain ⟨p, hp, _, xs, hx, rx⟩ := st.mut e1 e2
      refine ⟨.ref p, hp, p, rfl, .inl ⟨xs, .of hx⟩, c, s, st, q.split.imp fun k s1 H1 g1 q1 u ru => ⟨c, s1, g1.1, q1.split.imp fun v s2 H2 g2 q2 z rz => ?_⟩⟩
      cases e3 : mutK s2 i with
      | none => simp only [e3] at q2; exact q2.elim
      | some wo =>
        obtain ⟨w1, es⟩ := wo
        obtain ⟨e4, e5⟩ := mutAt_some (mutK_at e3)
        obtain ⟨p', hp', hh, ys, hy, ry⟩ := g2.1.mut e4 e5
        rw [hp] at hp'; cases hp'
        cases e6 : k.key with
        | none => simp only [e3, e6] at q2; exact q2.elim
        | some kk =>
          simp only [e3, e6] at q2
          obtain rfl := rep_key ru e6
          refine ⟨_, DGet.k hy, q2 H2 (.refl g2.1) _ ?_⟩
          rcases repK_val ry kk with ⟨z1, z2⟩ | ⟨v', d', z1, z2, rv⟩
          · rw [z1, z2]; exact rz
          · rw [z1, z2]; exact rv
theorem sd_dix (hu : X.A.units + 1 < cLine) (ha : SD hox X W a m) (hb : SD hox X W b mk) (hs : PlainIx b := by exact fun _ _ => rfl) : SD hox X W (.Subscript a b pos) (mBin gDix m mk) :=
  PE.imp (pe_dget hu ha hb hs) fun σ H Q ⟨c, s, st, q⟩ => ⟨c, s, st, q.split.imp fun dx s1 H1 g1 q1 vx rx => ⟨c, s1, g1.1, q1.split.imp fun dy s2 H2 g2 q2 vy ry => by
    cases dx with
    | dic kvs =>
      cases e6 : dy.key with
      | none => unfold gDix o2 at q2; simp only [e6] at q2; exact q2.elim
      | some kk =>
        obtain ⟨a, o, xs, rfl, hx, rk⟩ : ∃ a o xs, vx = .ref a ∧ vis c s1 σ H1 a = some (.frz o (.dK xs)) ∧ RepK X.K X.mg (vis c s1 σ H1) xs kvs := by cases rx with | dic a b => exact ⟨_, _, _, rfl, a, b⟩
        have hx2 := (hid_some (g2.2.frz _ _ _ hx)).2
        obtain rfl := rep_key ry e6
        rcases repK_val (RepK.mono g2.2 rk) kk with ⟨z1, z2⟩ | ⟨v', d', z1, z2, rv⟩
        · unfold gDix o2 at q2; simp only [e6, z2] at q2; exact q2.elim
        · unfold gDix o2 at q2; simp only [e6, z2] at q2
          exact ⟨a, v', rfl, .inl ⟨xs, kk, .inr ⟨o, hx2⟩, rfl, z1.symm⟩, q2 H2 (.refl g2.1) _ rv⟩
    | _ => exact q2.elim⟩⟩
theorem so_copyK (hG : Gl X "dict") (hm : X.mg "dict" = none) (hv : bootBuiltins "dict" = some (.type "dict")) (ha : SD hox X W e m)
    (he : starEach [e] X.env = (false, eval e X.env) :: starEach [] X.env := by rfl) (hpl : (backTo pos (starEach [] X.env)).any (·.1) = false := by rfl) : SO hox X W (.Call (.Name "dict" p) [e] [] pos) (mCopyK m) :=
  PE.imp (pe_callTy call_dictD hG hm hv (pa_cons ha pa_nil he) (by decide) (by decide) he hpl) fun σ H Q ⟨c, s, st, q⟩ => ⟨c, s, st, (ResO.split q).imp fun d s1 H1 g1 q1 v r => by
    cases r with
    | dic hx rk =>
      refine ⟨_, _, rfl, .inr ⟨_, (hid_some hx).2⟩, fun p n => ?_⟩
      obtain ⟨a1, a2, a3⟩ := g1.1.alloc (ho := .dK _) n
      exact q1 _ _ ⟨p, _, rfl, rfl, a3, a1, a2, _, upd_same, RepK.mono a2 rk⟩
    | _ => exact q1.elim⟩
end
/-! {k: v, ..} -/
def mPairs : List (MD × MD) → S → Out (List (D × D))
  | [], s => .ok [] s
  | (k, v) :: r, s => (k s).bind fun a s1 => (v s1).bind fun b s2 => (mPairs r s2).bind fun ps s3 => .ok ((a, b) :: ps) s3
def keyed : List (D × D) → Option (List (Key × D))
  | [] => some []
  | (k, v) :: r => match k.key, keyed r with
    | some kk, some ps => some ((kk, v) :: ps)
    | _, _ => none
def mergeD (kvs more : List (Key × D)) : List (Key × D) := more.foldl (fun acc kv => putD acc kv.1 kv.2) kvs
def mDisp (ms : List (MD × MD)) : MO := fun s => (mPairs ms s).bind fun ps s1 => match keyed ps with
  | some kvs => if kvs.length ≤ 15 then .ok (.own (.dK (mergeD [] kvs))) s1 else .bad
  | none => .bad
inductive RepP (K : PySem.W.Frag) (mg : Str → Option Value) (G : Hp) : List (V × V) → List (D × D) → Prop
  | nil : RepP K mg G [] []
  | cons {x y : V} {d e : D} {vs : List (V × V)} {ds : List (D × D)} : Rep K mg G x d → Rep K mg G y e → RepP K mg G vs ds → RepP K mg G ((x, y) :: vs) ((d, e) :: ds)
theorem RepP.mono {K : PySem.W.Frag} {mg : Str → Option Value} {G G' : Hp} (l : Le G G') {vs : List (V × V)} {ds : List (D × D)} (h : RepP K mg G vs ds) : RepP K mg G' vs ds := by
  induction h with
  | nil => exact .nil
  | cons a b _ ih => exact .cons (a.mono l) (b.mono l) ih
theorem RepP.keyed {K : PySem.W.Frag} {mg : Str → Option Value} {G : Hp} {vs : List (V × V)} {ds : List (D × D)} (h : RepP K mg G vs ds) : ∀ {kvs : List (Key × D)}, Den.keyed ds = some kvs →
    ∃ xs : List (Key × V), vs = xs.map (fun kv => (kV kv.1, kv.2)) ∧ RepK K mg G xs kvs ∧ xs.length = kvs.length := by
  induction h with
  | nil => intro kvs e; cases e; exact ⟨[], rfl, .nil, rfl⟩
  | @cons x y d e' vs ds a b _ ih =>
    intro kvs e
    unfold Den.keyed at e
    cases z1 : d.key with
    | none => simp only [z1] at e; cases e
    | some kk =>
      cases z2 : Den.keyed ds with
      | none => simp only [z1, z2] at e; cases e
      | some ps =>
        simp only [z1, z2] at e
        cases e
        obtain ⟨xs, rfl, r, hl⟩ := ih z2
        exact ⟨(kk, y) :: xs, by rw [List.map_cons, rep_key a z1], .cons b r, by rw [List.length_cons, List.length_cons, hl]⟩
theorem repK_merge {K : PySem.W.Frag} {mg : Str → Option Value} {G : Hp} (ys : List (Key × V)) : ∀ {es : List (Key × D)} {xs : List (Key × V)} {ds : List (Key × D)}, RepK K mg G ys es → RepK K mg G xs ds → RepK K mg G (mergeK xs ys) (mergeD ds es) := by
  induction ys with
  | nil => intro es xs ds q r; cases q; exact r
  | cons y ys ih =>
    intro es xs ds q r
    cases q with
    | @cons k _ _ _ _ a q =>
      have z := ih q (repK_put r k a)
      exact z
section
variable {X : Cx} {W : WX} {pos : Pos}
inductive SPs (hox : Option Addr) (X : Cx) (W : WX) : List (Option Expr) → List Expr → List (MD × MD) → Prop
  | nil : SPs hox X W [] [] []
  | cons {k v : Expr} {ks : List (Option Expr)} {vs : List Expr} {mk mv : MD} {r : List (MD × MD)} : SD hox X W k mk → SD hox X W v mv → SPs hox X W ks vs r → SPs hox X W (some k :: ks) (v :: vs) ((mk, mv) :: r)
def trees (hox : Option Addr) (X : Cx) (W : WX) (ms : List (MD × MD)) : List (TE × TE) := ms.map fun p => (tD hox X.K X.mg W p.1, tD hox X.K X.mg W p.2)
theorem SPs.pps {ks : List (Option Expr)} {vs : List Expr} {ms : List (MD × MD)} (h : SPs hox X W ks vs ms) : PPs X pos ks vs (trees hox X W ms) := by
  induction h with
  | nil => exact pps_nil
  | cons a b _ ih => exact pps_cons a b ih
theorem pairs_of {c : Ct} {σ : St} : ∀ (ms : List (MD × MD)) {s : S} {H : Hp} {Q : List (V × V) → Hp → Prop}, StR hox X.K X.mg c s σ H → Res hox X.K X.mg c s σ H W (fun ps s' H' => ∀ vs, RepP X.K X.mg (vis c s' σ H') vs ps → Q vs H') (mPairs ms s) → tPairs (trees hox X W ms) σ H Q
  | [], _, H, _, st, q => q H (.refl st) [] .nil
  | (k, v) :: r, s, H, Q, st, q => by
    refine ⟨c, s, st, Res.imp (Res.split q) fun a s1 H1 g1 q1 x rx => ⟨c, s1, g1.1, Res.imp (Res.split q1) fun b s2 H2 g2 q2 y ry => ?_⟩⟩
    refine pairs_of r g2.1 (Res.imp (Res.split q2) fun ps s3 H3 g3 q3 vs rs => ?_)
    exact q3 H3 (.refl g3.1) _ (.cons (rx.mono (g2.2.trans g3.2)) (ry.mono g3.2) rs)
theorem so_disp {ks : List (Option Expr)} {vs : List Expr} {ms : List (MD × MD)} (h : SPs hox X W ks vs ms) (hall : ks.all (·.isSome) = true := by rfl) (hl : ks.length = vs.length := by rfl) (h0 : ks ≠ [] := by exact fun z => by cases z)
    (h15 : ks.length ≤ 15 := by decide) : SO hox X W (.Dict ks vs pos) (mDisp ms) :=
  PE.imp (pe_disp h.pps hall hl h0 h15) fun σ H Q ⟨c, s, st, q⟩ p n => by
    obtain ⟨a1, a2, a3⟩ := st.alloc (ho := .dK []) n
    have key : Res hox X.K X.mg (c.ext p (.dK [])) s σ (upd H p (.dK [])) W (fun ps s' H' => ∀ vs, RepP X.K X.mg (vis (c.ext p (.dK [])) s' σ H') vs ps → H' p = some (.dK []) ∧ ∃ kvs : List (Key × V), vs = kvs.map (fun kv => (kV kv.1, kv.2)) ∧ kvs.length ≤ 15 ∧ Q (.ref p) (upd H' p (.dK (mergeK [] kvs)))) (mPairs ms s) := by
      unfold mDisp at q
      cases e1 : mPairs ms s with
      | ok ps s1 =>
        rw [e1] at q
        intro H1 g1 ws rs
        obtain ⟨t1, t2, t3, t4⟩ := g1.1.tmp p _ (.inr ⟨rfl, rfl⟩)
        refine ⟨t3, ?_⟩
        cases e2 : keyed ps with
        | none => unfold Out.bind at q; simp only [e2] at q; exact q.elim
        | some kvs =>
          unfold Out.bind at q; simp only [e2] at q
          obtain ⟨xs, ex, rk, hl2⟩ := rs.keyed e2
          by_cases f : kvs.length ≤ 15
          · rw [if_pos f] at q
            refine ⟨xs, ex, by omega, ?_⟩
            have np : ¬ hs c s1 σ p := fun z => by
              rcases z with z | ⟨u, z⟩ | ⟨j, o, q3, e3, e4, f3⟩
              · exact t2 z
              · exact a3 (.inr (.inl ⟨u, z⟩))
              · exact t4 j o q3 e3 e4 f3
            obtain ⟨y, l2⟩ := g1.1.writeT (ho' := .dK (mergeK [] xs)) np
            exact q _ _ ⟨p, _, rfl, rfl, np, y, (a2.trans g1.2).trans l2, _, upd_same, RepK.mono l2 (repK_merge xs rk .nil)⟩
          · rw [if_neg f] at q; exact q.elim
      | exc y s1 =>
        rw [e1] at q
        exact fun cls dd H1 g1 r1 => q cls dd H1 ⟨g1.1.unext, (a2.trans g1.2).trans vis_unext⟩ (r1.mono vis_unext)
      | bad => rw [e1] at q; exact q.elim
    exact pairs_of ms a1 key
end
/-! walks -/
def iItems (m : MD) : MI := fun s => (m s).bind fun d s1 => match d with
  | .dic kvs => .ok (kvs.map fun kv => .tup [keyD kv.1, kv.2]) s1
  | _ => .bad
def iValues (m : MD) : MI := fun s => (m s).bind fun d s1 => match d with
  | .dic kvs => .ok (kvs.map fun kv => kv.2) s1
  | _ => .bad
def iKeys (m : MD) : MI := fun s => (m s).bind fun d s1 => match d with
  | .dic kvs => .ok (kvs.map fun kv => keyD kv.1) s1
  | _ => .bad
section
variable {K : PySem.W.Frag} {mg : Str → Option Value} {G : Hp}
theorem itOk_items {a : Addr} {o : Obj} {xs : List (Key × V)} {ds : List (Key × D)} (h : G a = some (.frz o (.dK xs))) (r : RepK K mg G xs ds) : ItOk K mg (Iti a o xs) G (ds.map fun kv => .tup [keyD kv.1, kv.2]) :=
  ⟨fun i d h1 H1 e nh l => by
    rw [List.getElem?_map] at e
    cases e0 : ds[i]? with
    | none => rw [e0] at e; cases e
    | some kv =>
      rw [e0] at e
      cases e
      obtain ⟨k, d⟩ := kv
      obtain ⟨v, e1, rv⟩ := repK_get r e0
      have h2 := (hid_some (l.frz _ _ _ h)).2
      refine ⟨⟨h2, (List.getElem?_eq_some_iff.mp e1).1⟩, fun y H' ⟨T, k', v', e2, ey, nT, eh⟩ => ?_⟩
      rw [e1] at e2; cases e2
      subst ey eh
      exact rep_pair nh nT (rep_kV _) (rv.mono l), fun h1 H1 l => ⟨(hid_some (l.frz _ _ _ h)).2, by rw [List.length_map, repK_len r]; exact Nat.le_refl _⟩⟩
theorem itOk_values {a : Addr} {o : Obj} {xs : List (Key × V)} {ds : List (Key × D)} (h : G a = some (.frz o (.dK xs))) (r : RepK K mg G xs ds) : ItOk K mg (Itd a o xs) G (ds.map fun kv => kv.2) :=
  ⟨fun i d h1 H1 e nh l => by
    rw [List.getElem?_map] at e
    cases e0 : ds[i]? with
    | none => rw [e0] at e; cases e
    | some kv =>
      rw [e0] at e
      cases e
      obtain ⟨k, d⟩ := kv
      obtain ⟨v, e1, rv⟩ := repK_get r e0
      have h2 := (hid_some (l.frz _ _ _ h)).2
      refine ⟨⟨h2, (List.getElem?_eq_some_iff.mp e1).1⟩, fun y H' ⟨eh, k', e2⟩ => ?_⟩
      rw [e1] at e2; cases e2
      subst eh
      exact ⟨Same.refl _, rv.mono l⟩, fun h1 H1 l => ⟨(hid_some (l.frz _ _ _ h)).2, by rw [List.length_map, repK_len r]; exact Nat.le_refl _⟩⟩
theorem itOk_keys {a : Addr} {o : Obj} {xs : List (Key × V)} {ds : List (Key × D)} (h : G a = some (.frz o (.dK xs))) (r : RepK K mg G xs ds) : ItOk K mg (Itk a o xs) G (ds.map fun kv => keyD kv.1) :=
  ⟨fun i d h1 H1 e nh l => by
    rw [List.getElem?_map] at e
    cases e0 : ds[i]? with
    | none => rw [e0] at e; cases e
    | some kv =>
      rw [e0] at e
      cases e
      obtain ⟨k, d⟩ := kv
      obtain ⟨v, e1, rv⟩ := repK_get r e0
      have h2 := (hid_some (l.frz _ _ _ h)).2
      refine ⟨⟨h2, (List.getElem?_eq_some_iff.mp e1).1⟩, fun y H' ⟨eh, k', v', e2, ey⟩ => ?_⟩
      rw [e1] at e2; cases e2
      subst eh ey
      exact ⟨Same.refl _, rep_kV _⟩, fun h1 H1 l => ⟨(hid_some (l.frz _ _ _ h)).2, by rw [List.length_map, repK_len r]; exact Nat.le_refl _⟩⟩
end
section
variable {X : Cx} {W : WX} {tg e : Expr} {m : MD} {pos tpos apos cpos : Pos} {elts : List Expr} {kk : Nat}
theorem si_items (he : SD hox X W e m) (hbase : attributeBase e "items" X.env (eval e X.env) = eval e X.env := by rfl) (hline : (apos.endLine == cpos.line) = true := by rfl) :
    SI hox X W (.Tuple elts kk tpos) (.Call (.Attribute e "items" apos) [] [] cpos) (iItems m) :=
  PI.imp (pi_items he hbase hline) fun σ H R ⟨c, t, st, q⟩ => ⟨c, t, st, (Res.split q).imp fun d t1 H1 g1 q1 v r => by
    cases r with
    | dic hx rk => exact ⟨_, _, _, rfl, (hid_some hx).2, q1 H1 (.refl g1.1) _ (itOk_items hx rk)⟩
    | _ => exact q1.elim⟩
theorem si_values (he : SD hox X W e m) (hbase : attributeBase e "values" X.env (eval e X.env) = eval e X.env := by rfl) (hline : (apos.endLine == cpos.line) = true := by rfl) :
    SI hox X W tg (.Call (.Attribute e "values" apos) [] [] cpos) (iValues m) :=
  PI.imp (pi_values he hbase hline) fun σ H R ⟨c, t, st, q⟩ => ⟨c, t, st, (Res.split q).imp fun d t1 H1 g1 q1 v r => by
    cases r with
    | dic hx rk => exact ⟨_, _, _, rfl, (hid_some hx).2, q1 H1 (.refl g1.1) _ (itOk_values hx rk)⟩
    | _ => exact q1.elim⟩
theorem si_keys (he : SD hox X W e m) : SI hox X W tg e (iKeys m) :=
  PI.imp (pi_keys he) fun σ H R ⟨c, t, st, q⟩ => ⟨c, t, st, (Res.split q).imp fun d t1 H1 g1 q1 v r => by
    cases r with
    | dic hx rk => exact ⟨_, _, rfl, .inl ⟨_, (hid_some hx).2, q1 H1 (.refl g1.1) _ (itOk_keys hx rk)⟩⟩
    | _ => exact q1.elim⟩
end
end Den

set_option Elab.async false
set_option linter.all false
set_option maxRecDepth 100000
set_option maxHeartbeats 4000000
namespace Den
variable {hox : Option Addr}
open PySem PySem.Spec PyProof.Rows L2
/-! ### list(..), sorted(..), in of dicts -/
def gListU : List D → Option (List D)
  | [.dic kvs] => some (kvs.map fun kv => keyD kv.1)
  | ds => gList ds
def rListU (K : PySem.W.Frag) : List V → Hp → VK → Prop := fun xs H Q => (∃ p ys, xs = [.ref p] ∧ (SqL K H p ys ∨ SqT K H p ys) ∧ ∀ l, H l = none → Q (.ref l) (upd H l (.lst ys))) ∨
  ∃ (a : Addr) (kvs : List (Key × V)), xs = [.ref a] ∧ Rd H a (.dK kvs) ∧ ∀ p, H p = none → Q (.ref p) (upd H p (.lst (kvs.map fun kv => kV kv.1)))
section
variable {K : PySem.W.Frag} {mg : Str → Option Value} {G : Hp}
theorem repK_fst {xs : List (Key × V)} {ds : List (Key × D)} (r : RepK K mg G xs ds) : xs.map (·.1) = ds.map (·.1) := by
  induction xs generalizing ds with
  | nil => cases r; rfl
  | cons _ _ ih => cases r with | cons a b => rw [List.map_cons, List.map_cons, ih b]
/-! sorted -/
def keyI : List Key → Option (List Int)
  | [] => some []
  | .inl i :: ks => (keyI ks).map (i :: ·)
  | _ => none
theorem keyI_eq : ∀ {ks : List Key} {ns : List Int}, keyI ks = some ns → ks = ns.map Sum.inl
  | [], _, e => by cases e; rfl
  | .inl i :: ks, _, e => by
    unfold keyI at e
    cases z : keyI ks with
    | none => rw [z] at e; cases e
    | some ms => rw [z] at e; cases e; rw [keyI_eq z, List.map_cons]
  | .inr x :: ks, _, e => by cases e
/-- sorted by insertion (the kernel runs it) -/
def insF {α : Type} (f : α → Int) (x : α) : List α → List α
  | [] => [x]
  | y :: l => if f x ≤ f y then x :: y :: l else y :: insF f x l
def srtF {α : Type} (f : α → Int) : List α → List α
  | [] => []
  | x :: l => insF f x (srtF f l)
theorem insF_perm {α : Type} {f : α → Int} {x : α} : ∀ {l : List α}, (insF f x l).Perm (x :: l)
  | [] => .refl _
  | y :: l => by
    unfold insF
    by_cases h : f x ≤ f y
    · rw [if_pos h]
    · rw [if_neg h]
      exact (insF_perm.cons y).trans (.swap x y l)
theorem srtF_perm {α : Type} {f : α → Int} : ∀ {l : List α}, (srtF f l).Perm l
  | [] => .refl _
  | x :: l => insF_perm.trans (srtF_perm.cons x)
theorem insF_up {α : Type} {f : α → Int} {x : α} : ∀ {l : List α}, l.Pairwise (fun a b => f a ≤ f b) → (insF f x l).Pairwise fun a b => f a ≤ f b
  | [], _ => List.pairwise_singleton _ _
  | y :: l, h => by
    unfold insF
    obtain ⟨h1, h2⟩ := List.pairwise_cons.mp h
    by_cases c : f x ≤ f y
    · rw [if_pos c]
      refine List.pairwise_cons.mpr ⟨fun z hz => ?_, h⟩
      rcases List.mem_cons.mp hz with rfl | hz
      · exact c
      · exact Int.le_trans c (h1 z hz)
    · rw [if_neg c]
      refine List.pairwise_cons.mpr ⟨fun z hz => ?_, insF_up h2⟩
      rcases List.mem_cons.mp (insF_perm.mem_iff.mp hz) with rfl | hz
      · omega
      · exact h1 z hz
theorem srtF_up {α : Type} {f : α → Int} : ∀ {l : List α}, (srtF f l).Pairwise fun a b => f a ≤ f b
  | [] => List.Pairwise.nil
  | x :: l => insF_up srtF_up
def srtI (ns : List Int) : List Int := srtF (fun i => i) ns
def gSorted : List D → Option (List D)
  | [.dic kvs] => match keyI (kvs.map (·.1)) with
    | some ns => if ns.length < 64 then some ((srtI ns).map .int) else none
    | none => none
  | ds => (iArg ds).map fun ns => (srtI ns).map .int
theorem srt_uniq {ns ms : List Int} (p : ms.Perm ns) (q : ms.Pairwise (· ≤ ·)) : ms = srtI ns := by
  have h1 : (srtI ns).Pairwise (· ≤ ·) := srtF_up
  exact (p.trans srtF_perm.symm).eq_of_pairwise (fun a b _ _ h1 h2 => Int.le_antisymm h1 h2) q h1
def rSortU (K : PySem.W.Frag) : List V → Hp → VK → Prop := fun xs H Q => rSortedI K xs H Q ∨
  ∃ (a : Addr) (kvs : List (Key × V)) (ks : List Int), xs = [.ref a] ∧ Rd H a (.dK kvs) ∧ kvs.map (·.1) = ks.map Sum.inl ∧ ks.length < 64 ∧ ∀ (ys : List Int) (p : Addr), ys.Perm ks → ys.Pairwise (· ≤ ·) → H p = none → Q (.ref p) (upd H p (.lst (ys.map V.int)))
theorem call_sortU {X : Cx} (hc : X.calm = true) : CallR X (.builtin "sorted") (rSortU X.K) := CallR.or cr_sortedI (call_sortedDI hc)
theorem rl_sorted : RLS K mg (rSortU K) gSorted := by
  intro h H xs ds zs Q nh r e q
  unfold gSorted at e
  split at e
  · rename_i kvs
    split at e
    · rename_i ns z
      split at e
      · rename_i lt
        cases e
        match xs, r with
        | _, .cons (.dic hx rk) .nil =>
          refine .inr ⟨_, _, ns, rfl, .inr ⟨_, (hid_some hx).2⟩, by rw [repK_fst rk]; exact keyI_eq z, lt, fun ys p pm pw n => ?_⟩
          rw [srt_uniq pm pw]
          exact q p _ n (repL_ints _)
      · cases e
    · cases e
  · cases z : iArg ds with
    | none => rw [z] at e; cases e
    | some ns =>
      rw [z] at e; cases e
      obtain ⟨a, ex, hs⟩ := iArg_rep r z
      refine .inl ⟨a, ns, ex, hs, fun ys p pm pw n => ?_⟩
      rw [srt_uniq pm pw]
      exact q p _ n (repL_ints _)
end
/-! k in d -/
def mDin (neg : Bool) (mk md : MD) : MD := fun s => (mk s).bind fun k s1 => (md s1).bind fun d s2 => match d, k.key with
  | .dic kvs, some kk => .ok (.bl (xor neg (valD kvs kk).isSome)) s2
  | _, _ => .bad
/-- k in x, x the def's own dict with tuples for keys -/
def hasT (xs : List (List Key × D)) (k : List Key) : Bool := xs.any fun kv => decide (kv.1 = k)
def mInT (neg : Bool) (i : Nat) (mk : MD) : MD := fun s => (mk s).bind fun k s1 => match mutT s1 i, k with
  | some (_, xs), .tup ks => match D.keys ks with
    | some kk => .ok (.bl (xor neg (hasT xs kk))) s1
    | none => .bad
  | _, _ => .bad
section
variable {X : Cx} {W : WX} {a b e f : Expr} {m mi mk mv md : MD} {pos p p2 py apos cpos : Pos} {y : Str} {ml : ML}
end
/-! list(range(..)) -/
def mListR (m : S → Out (Int × Int)) : MO := fun s => (m s).bind fun r s1 => if (i62 r.1 && i62 r.2 && decide ((r.2 - r.1).toNat ≤ 1000000)) = true then .ok (.own (.lst (rngD r.1 (r.2 - r.1).toNat))) s1 else .bad
def rg1 (m : MD) : S → Out (Int × Int) := fun s => (m s).bind fun d s1 => match d with
  | .int n => .ok (0, n) s1
  | _ => .bad
def rg2 (m n : MD) : S → Out (Int × Int) := fun s => (m s).bind fun d s1 => (n s1).bind fun e s2 => match d, e with
  | .int i, .int j => .ok (i, j) s2
  | _, _ => .bad
theorem repL_rg {K : PySem.W.Frag} {mg : Str → Option Value} {G : Hp} (a : Int) : ∀ (l : List Nat), RepL K mg G (l.map fun i => V.int (a + (i : Nat))) (l.map fun i => D.int (a + (i : Nat)))
  | [] => .nil
  | _ :: l => .cons (.int _) (repL_rg a l)
section
variable {X : Cx} {W : WX} {a b e f : Expr} {m n mk mv md : MD} {pos p p2 py apos cpos : Pos} {y : Str} {ml : ML} {r : S → Out (Int × Int)}
def tR (hox : Option Addr) (K : PySem.W.Frag) (mg : Str → Option Value) (W : WX) (r : S → Out (Int × Int)) : St → Hp → (Int → Int → Hp → Prop) → Prop := fun σ H Q => ∃ c s, StR hox K mg c s σ H ∧ Res hox K mg c s σ H W (fun ab s' H' => Q ab.1 ab.2 H') (r s)
theorem sr_1 (hg : Gl X "range") (hm : X.mg "range" = none) (ha : SD hox X W a m) (hs : starEach [a] X.env = (false, eval a X.env) :: starEach [] X.env := by rfl) : PRg X (.Call (.Name "range" p) [a] [] pos) (tR hox X.K X.mg W (rg1 m)) := by
  intro pins s σ H Q I ⟨c, t, st, q⟩
  refine prg_1 hg hm ha hs pins s σ H Q I ⟨c, t, st, (Res.split q).imp fun d s1 H1 g1 q1 v r => ?_⟩
  cases r with
  | int i => exact ⟨i, rfl, q1 H1 (.refl g1.1)⟩
  | _ => exact q1.elim
theorem so_listR (hc : X.calm = true) (hg : Gl X "list") (hm : X.mg "list" = none) (he : PRg X e (tR hox X.K X.mg W r)) (hs : starEach [e] X.env = (false, eval e X.env) :: starEach [] X.env := by rfl) : SO hox X W (.Call (.Name "list" p) [e] [] pos) (mListR r) :=
  PE.imp (pe_listRg hc hg hm he hs) fun σ H Q ⟨c, s, st, q⟩ => ⟨c, s, st, (ResO.split q).imp fun ab s1 H1 g1 q1 => by
    obtain ⟨a, b⟩ := ab
    by_cases f : (i62 a && i62 b && decide ((b - a).toNat ≤ 1000000)) = true
    · have q2 : ResO hox X.K X.mg W c s1 σ H1 Q (.ok (.own (.lst (rngD a (b - a).toNat))) s1) := by
        have := q1
        simp only [if_pos f] at this
        exact this
      rw [Bool.and_eq_true, Bool.and_eq_true] at f
      obtain ⟨⟨f1, f2⟩, f3⟩ := f
      have h1 := i62_iff f1
      have h2 := i62_iff f2
      have h3 : (b - a).toNat ≤ 1000000 := of_decide_eq_true f3
      refine ⟨⟨h1.1, h1.2, h2.1, h2.2, by omega⟩, fun p n => ?_⟩
      obtain ⟨a1, a2, a3⟩ := g1.1.alloc (ho := .lst (rgV a b)) n
      exact q2 _ _ ⟨p, _, rfl, rfl, a3, a1, a2, _, upd_same, repL_rg a _⟩
    · have := q1
      simp only [if_neg f] at this
      exact this.elim⟩
end
/-! ### texts -/
def gStr : List D → Option D
  | [.int i] => if i.natAbs.log2 < 1920 then some (.str (toString i)) else none
  | [.str x] => some (.str x)
  | _ => none
def rStrU : List V → Hp → VK → Prop := fun xs H Q => (∃ i, xs = [.int i] ∧ i.natAbs.log2 < 1920 ∧ Q (.str (toString i)) H) ∨ ∃ a, xs = [.str a] ∧ Q (.str a) H
theorem call_strU {X : Cx} : CallR X (.type "str") rStrU := call_str_int.or SkE.call_str_str
theorem rc_str {K : PySem.W.Frag} {mg : Str → Option Value} : RCS K mg rStrU gStr := by
  intro h H xs ds dz Q nh r e q
  unfold gStr at e
  split at e
  · rename_i i
    split at e
    · rename_i f
      cases e
      match xs, r with
      | _, .cons (.int _) .nil => exact .inl ⟨i, rfl, f, q _ H (Same.refl _) (.str _)⟩
    · cases e
  · rename_i x
    cases e
    match xs, r with
    | _, .cons (.str _) .nil => exact .inr ⟨x, rfl, q _ H (Same.refl _) (.str _)⟩
  · cases e
def D.strs : List D → Option (List Str)
  | [] => some []
  | .str x :: ds => (D.strs ds).map (x :: ·)
  | _ => none
theorem rep_strs {K : PySem.W.Frag} {mg : Str → Option Value} {G : Hp} : ∀ {vs : List V} {ds : List D} {ns : List Str}, RepL K mg G vs ds → D.strs ds = some ns → vs = ns.map V.str
  | _, [], _, .nil, e => by cases e; rfl
  | _, d :: ds, ns, .cons r rs, e => by
    unfold D.strs at e
    split at e
    · rename_i h; cases h
    · rename_i i t heq
      cases heq
      cases z : D.strs ds with
      | none => rw [z] at e; cases e
      | some ms =>
        rw [z] at e; cases e
        cases r
        rw [rep_strs rs z, List.map_cons]
    · cases e
theorem repL_strs {K : PySem.W.Frag} {mg : Str → Option Value} {G : Hp} : ∀ (ys : List Str), RepL K mg G (ys.map V.str) (ys.map D.str)
  | [] => .nil
  | _ :: l => .cons (.str _) (repL_strs l)
def mSplit (m n : MD) : MO := fun s => (m s).bind fun d s1 => match d with
  | .str a => (n s1).bind fun e s2 => match e with
    | .str b => if (!(b.length == 0) && decide (a.length ≤ 1000000)) = true then .ok (.own (.lst ((Txt.split a b).map .str))) s2 else .bad
    | _ => .bad
  | _ => .bad
def mJoin (m n : MD) : MD := fun s => (m s).bind fun d s1 => match d with
  | .str a => (n s1).bind fun e s2 => match e.items with
    | some ds => match D.strs ds with
      | some ys => if (ys.map (·.length)).sum + ys.length * a.length ≤ 1000000 then .ok (.str (Txt.join a ys)) s2 else .bad
      | none => .bad
    | none => .bad
  | _ => .bad
section
variable {X : Cx} {W : WX} {a b e f : Expr} {m n mk mv md : MD} {pos p p2 py apos cpos : Pos} {y : Str} {ml : ML}
theorem so_split (ha : SD hox X W a m) (hb : SD hox X W b n) (hs : starEach [b] X.env = [(false, eval b X.env)] := by rfl) (hbase : attributeBase a "split" X.env (eval a X.env) = eval a X.env := by rfl) (hline : (apos.endLine == pos.line) = true := by rfl) :
    SO hox X W (.Call (.Attribute a "split" apos) [b] [] pos) (mSplit m n) :=
  PE.imp (pe_split ha hb hs hbase hline) fun σ H Q ⟨c, s, st, q⟩ => ⟨c, s, st, (ResO.split q).imp fun d s1 H1 g1 q1 v r => by
    cases r with
    | str x =>
      refine ⟨⟨x, rfl⟩, c, s1, g1.1, (ResO.split q1).imp fun d2 s2 H2 g2 q2 v2 r2 => ?_⟩
      cases r2 with
      | str z =>
        simp only at q2
        by_cases f : (!(z.length == 0) && decide (x.length ≤ 1000000)) = true
        · rw [if_pos f] at q2
          rw [Bool.and_eq_true, Bool.not_eq_true'] at f
          have h2 : x.length ≤ 1000000 := of_decide_eq_true f.2
          refine ⟨x, z, rfl, rfl, f.1, by rw [sizeLine_eq]; omega, fun p n => ?_⟩
          obtain ⟨a1, a2, a3⟩ := g2.1.alloc (ho := .lst ((Txt.split x z).map V.str)) n
          exact q2 _ _ ⟨p, _, rfl, rfl, a3, a1, a2, _, upd_same, repL_strs _⟩
        · rw [if_neg f] at q2; exact q2.elim
      | _ => exact q2.elim
    | _ => exact q1.elim⟩
theorem sd_join (ha : SD hox X W a m) (hb : SD hox X W b n) (hs : starEach [b] X.env = [(false, eval b X.env)] := by rfl) (hbase : attributeBase a "join" X.env (eval a X.env) = eval a X.env := by rfl) (hline : (apos.endLine == pos.line) = true := by rfl) :
    SD hox X W (.Call (.Attribute a "join" apos) [b] [] pos) (mJoin m n) :=
  PE.imp (pe_join ha hb hs hbase hline) fun σ H Q ⟨c, s, st, q⟩ => ⟨c, s, st, (Res.split q).imp fun d s1 H1 g1 q1 v r => by
    cases r with
    | str x =>
      refine ⟨⟨x, rfl⟩, c, s1, g1.1, (Res.split q1).imp fun d2 s2 H2 g2 q2 v2 r2 => ?_⟩
      cases e1 : d2.items with
      | none => simp only [e1] at q2; exact q2.elim
      | some ds =>
        simp only [e1] at q2
        cases e2 : D.strs ds with
        | none => simp only [e2] at q2; exact q2.elim
        | some ys =>
          simp only [e2] at q2
          by_cases f : (ys.map (·.length)).sum + ys.length * x.length ≤ 1000000
          · rw [if_pos f] at q2
            obtain ⟨p, xs, rfl, hs, rl⟩ := items_sq r2 e1
            have := rep_strs rl e2
            subst this
            exact ⟨x, p, ys, rfl, rfl, hs, by omega, q2 H2 (.refl g2.1) _ (.str _)⟩
          · rw [if_neg f] at q2; exact q2.elim
    | _ => exact q1.elim⟩
end
end Den

set_option Elab.async false
set_option linter.all false
set_option maxRecDepth 100000
set_option maxHeartbeats 4000000
/-! properties -/
namespace Den
variable {hox : Option Addr}
open PySem PySem.Spec PyProof.Rows L2
theorem cx_never {P : Program} {w : World} {o : List Env} {H : Hp} {s : Shared} {e : Value} {s' : Shared} (h : L2N.CX P w o H s (fun _ _ _ => False) e s') : False := by
  obtain ⟨a, B, H', cls, d, _, _, _, _, _, _, _, q⟩ := h
  exact q
def mProp (cn : Str) (F : FP) (m : MD) : MD := fun s => (m s).bind fun d s1 => match d with
  | .obj c fs => if c = cn then match F [.obj c fs] with
    | .ok (.val r) _ => .ok r s1
    | _ => .bad
    else .bad
  | _ => .bad
section
variable {X : Cx} {W : WX} {k : Nat} {C p g : Addr} {fd : FuncData} {ps : List Str} {e : Expr} {pos : Pos} {m : MD}
theorem sd_prop {cn fl : Str} {F : FP} (he : SD hox X W e m) (hm : X.mg cn = some (.ref C)) (c : Cls X.K C) (hp : PropOf X.K C fl p g) (FK : FnOk X.prog X.w X.K X.mg X.base (L2N.CX X.prog X.w) k g fd ps (spP X.K X.mg 1 F)) (hr : Room (k + 1) X.A) (hb : Binds X.K fd ps [])
    (hab : attributeBase e fl X.env (eval e X.env) = eval e X.env := by rfl) : SD hox X W (.Attribute e fl pos) (mProp cn F m) :=
  PE.imp (pe_prop he c hp FK hr hb .nil (E := fun _ _ _ => False) (fun pins σ H s e s' I h => (cx_never h).elim) hab) fun σ H Q ⟨c, s, st, q⟩ => ⟨c, s, st, q.split.imp fun d s1 H1 g1 q1 v r => by
    cases r with
    | @obj a C' dx cn' xs ds h1 h2 h3 =>
      by_cases f : cn' = cn
      · simp only [if_pos f] at q1
        subst f
        rw [hm] at h1; cases h1
        refine ⟨a, dx, xs, rfl, (hid_some h2).2, hs c s1 σ, [.obj cn' ds], fun p h => g1.1.hidden h, rfl, .cons (.obj hm h2 h3) .nil, ?_⟩
        cases e1 : F [.obj cn' ds] with
        | ok r s' =>
          cases r with
          | val d =>
            simp only [e1] at q1
            intro v H' kp _ rv
            have sm : Same H1 H' := fun b o e => kp b o (fun z => z) e
            exact q1 H' (.grow g1.1 sm) v rv
          | own o => simp only [e1] at q1; exact q1.elim
          | bor o => simp only [e1] at q1; exact q1.elim
        | exc y s' => simp only [e1] at q1; exact q1.elim
        | bad => simp only [e1] at q1; exact q1.elim
      · simp only [if_neg f] at q1; exact q1.elim
    | _ => exact q1.elim⟩
end
end Den

set_option Elab.async false
set_option linter.all false
set_option maxRecDepth 100000
set_option maxHeartbeats 4000000
/-! own classes: isinstance, == -/
namespace Den
variable {hox : Option Addr}
open PySem PySem.Spec PyProof.Rows L2
def gIsiC (cn : Str) (d : D) : Option D := match d with
  | .obj c _ => if c = cn then some (.bl true) else none
  | _ => none
def mIsiC (cn : Str) (m : MD) : MD := mUn (gIsiC cn) m
section
variable {X : Cx} {W : WX} {C f : Addr} {e : Expr} {p py pos : Pos} {m : MD} {y : Str}
theorem sd_isiC {cn : Str} (ha : SD hox X W e m) (hm : X.mg "isinstance" = none) (hC : X.mg cn = some (.ref C)) (I : C8.InsC X.K C) (hg : Gl X "isinstance" := by rfl) (hgC : Gl X cn := by rfl) (hdb : (cn == ("__debug__" : Str)) = false := by decide)
    (he : starEach [e, .Name cn py] X.env = (false, eval e X.env) :: starEach [.Name cn py] X.env := by rfl) (he2 : starEach [.Name cn py] X.env = (false, eval (.Name cn py) X.env) :: starEach [] X.env := by rfl) (hpl : (backTo pos (starEach [.Name cn py] X.env)).any (·.1) = false := by rfl)
    (hv : bootBuiltins "isinstance" = some (.builtin "isinstance") := by decide +kernel) : SD hox X W (.Call (.Name "isinstance" p) [e, .Name cn py] [] pos) (mIsiC cn m) :=
  PE.imp (pe_callB call_isi hg hm hv (pa_cons ha (pa_cons (C8.pe_gc (v := V.ref C) hgC ⟨_, hC, rfl⟩ hdb) pa_nil he2) he) (by decide) (by decide) he hpl) fun σ H Q ⟨c, s, st, q⟩ => ⟨c, s, st, q.split.imp fun d s1 H1 g1 q1 v r => by
    cases r with
    | @obj a C' dx cn' xs ds h1 h2 h3 =>
      unfold gIsiC at q1
      by_cases z : cn' = cn
      · simp only [if_pos z] at q1
        subst z
        rw [hC] at h1; cases h1
        exact ⟨.ref a, .ref C, .ref C, .ref C, true, rfl, .own C, .base (.ins (hid_some h2).2 I.cl I.ha I.hn I.htk I.hm), I.me, q1 H1 (.refl g1.1) _ (.bl true)⟩
      · simp only [if_neg z] at q1
        exact q1.elim
    | _ => exact q1.elim⟩
end
/-- int(..) of a text too -/
def gIntU : List D → Option D
  | [.str x] => match PySem.intText? x with
    | some n => if x.length ≤ 640 then some (.int n) else none
    | none => none
  | ds => gInt ds
def rIntU : List V → Hp → VK → Prop := fun xs H Q => (∃ a n, xs = [.str a] ∧ PySem.intText? a = some n ∧ a.length ≤ 640 ∧ Q (.int n) H) ∨ ((∃ i, xs = [.int i] ∧ Q (.int i) H) ∨ ∃ k, xs = [.bl k] ∧ Q (.int (if k then 1 else 0)) H)
theorem call_intU {X : Cx} : CallR X (.type "int") rIntU := call_int_str.or call_int1
theorem rc_intU {K : PySem.W.Frag} {mg : Str → Option Value} : RCS K mg rIntU gIntU := by
  intro h H xs ds dz Q nh r e q
  unfold gIntU at e
  split at e
  · rename_i x
    match xs, r with
    | _, .cons (.str _) .nil =>
      cases e1 : PySem.intText? x with
      | none => rw [e1] at e; cases e
      | some n =>
        simp only [e1] at e
        split at e
        · rename_i f
          cases e
          exact .inl ⟨x, n, rfl, e1, f, q _ H (Same.refl _) (.int _)⟩
        · cases e
  · exact .inr (rc_int h H xs _ dz Q nh r e q)
/-- x == y, both of an own class with a def for it -/
def rEqO (K : PySem.W.Frag) (mg : Str → Option Value) (C : Addr) (F : FP) : R2 := fun x y H Q => ∃ a b dx dy fs gs, x = .ref a ∧ y = .ref b ∧ H a = some (.ins C dx fs) ∧ H b = some (.ins C dy gs) ∧
  spP K mg 2 F [x, y] H (fun v H' => (∃ k, v = .bl k) ∧ Q v H') (fun _ _ _ => False)
def gEqO (cn : Str) (F : FP) (x y : D) : Option D := match x, y with
  | .obj c fs, .obj c' gs => if c = cn ∧ c' = cn then match F [.obj c fs, .obj c' gs] with
    | .ok (.val (.bl b)) _ => some (.bl b)
    | _ => none
    else none
  | _, _ => none
theorem gEqO_some {cn : Str} {F : FP} {x y z : D} (e : gEqO cn F x y = some z) : ∃ fs gs b s, x = .obj cn fs ∧ y = .obj cn gs ∧ F [x, y] = .ok (.val (.bl b)) s ∧ z = .bl b := by
  unfold gEqO at e
  split at e
  · rename_i c fs c' gs
    by_cases z : c = cn ∧ c' = cn
    · rw [if_pos z] at e
      obtain ⟨z1, z2⟩ := z
      subst z1
      subst z2
      split at e
      · rename_i b s e1
        exact ⟨fs, gs, b, s, rfl, rfl, e1, (Option.some.inj e).symm⟩
      · cases e
    · rw [if_neg z] at e
      cases e
  · cases e
theorem r2_eqO {K : PySem.W.Frag} {mg : Str → Option Value} {cn : Str} {C : Addr} {F : FP} (hm : mg cn = some (.ref C)) : R2S K mg (rEqO K mg C F) (gEqO cn F) := by
  intro h H x y dx dy dz Q nh rx ry e q
  obtain ⟨fs, gs, k, s', ex, ey, e1, ez⟩ := gEqO_some e
  have rx0 := rx
  have ry0 := ry
  subst ex
  subst ey
  subst ez
  cases rx with
  | @obj a C1 d1 c1 xs1 ds1 h1 h2 h3 =>
    cases ry with
    | @obj b C2 d2 c2 xs2 ds2 k1 k2 k3 =>
      rw [hm] at h1 k1
      cases h1
      cases k1
      refine ⟨a, b, d1, d2, xs1, xs2, rfl, rfl, (hid_some h2).2, (hid_some k2).2, h, _, nh, rfl, .cons rx0 (.cons ry0 .nil), ?_⟩
      rw [e1]
      intro v H' kp _ rv
      have sm : Same H H' := fun b o e => kp b o (fun z => z) e
      cases rv
      exact ⟨⟨k, rfl⟩, q _ H' sm (.bl k)⟩
section
variable {X : Cx} {k : Nat} {C f : Addr} {fd : FuncData} {ps : List Str} {F : FP}
theorem op_eqO (FK : FnOk X.prog X.w X.K X.mg X.base (L2N.CX X.prog X.w) k f fd ps (spP X.K X.mg 2 F)) (hr : Room k X.A) (hs : PySem.W.findIn X.K (.ref C) "__eq__" = some (some (.ref f))) (hf : PySem.W.isFn X.K (.ref f) = true) (hb : Binds X.K fd ps []) :
    OpR X (compareOp .Eq) (rEqO X.K X.mg C F) := by
  intro pins s σ H x y v u Q I rx ry hq
  obtain ⟨a, b, dx, dy, fs, gs, ex, ey, ha, hb', hsp⟩ := hq
  subst ex
  subst ey
  cases rx
  cases ry
  obtain ⟨mA, J, _⟩ := ins_get I.hok ha
  obtain ⟨mB, J', _⟩ := ins_get I.hok hb'
  obtain ⟨od, J, _⟩ := J.look
  obtain ⟨od', J', _⟩ := J'.look
  obtain ⟨m, hF⟩ := I.fr
  show wpAny (model X.prog X.w) X.A (richCompare .Eq _ _) (EP X pins σ Q) X.xe s
  have hl := FK.len _ _ _ _ hsp
  have r2 : Vals [V.ref a, V.ref b] [Value.ref a, Value.ref b] := .cons rfl (.cons rfl .nil)
  have hbind := hb s [.ref a, .ref b] I.kIn (by simpa using hl)
  refine PySem.W.cmp_K (op := .Eq) (tb := .ref C) hr.units0 hF I.ok.mod.kin J J'.type (by simp [PySem.W.notFirst]) hs hf ?_
  refine wpAny_call (codeAny_mono (FK.run X.A X.stack s H ⟨[.ref a, .ref b], []⟩ [.ref a, .ref b] [.ref a, .ref b] _ (fun _ _ _ => False) hr I.env0 (by simpa using hbind) r2 hsp) fun r s' hq => ?_)
  cases r with
  | error e => exact (cx_never hq).elim
  | ok fl =>
    cases fl with
    | ret w =>
      obtain ⟨z, H', I', rz, ⟨kk, ez⟩, q⟩ := I.after hq
      subst ez
      have ew : w = .bool kk := rz
      subst ew
      exact ⟨_, H', I', rz, q⟩
    | next => exact False.elim hq
    | brk => exact False.elim hq
    | cont => exact False.elim hq
end
end Den

set_option Elab.async false
set_option linter.all false
set_option maxRecDepth 100000
set_option maxHeartbeats 4000000
/-! comprehensions with two for -/
namespace Den
variable {hox : Option Addr}
open PySem PySem.Spec PyProof.Rows L2
def tLcIn (J : It) (g : TG) (tt : TT) (te : TE) (σw : St) (vs : List Nat) (D : Addr) (Nx : Hp → Prop) (H0 : Hp) : Prop := ∃ W1 : Nat → Nat → Hp → Prop, (∃ m, W1 0 m H0) ∧ ∀ j k H, W1 j k H →
  (J.stop j H ∧ Nx H) ∨ (J.go j H ∧ ∃ Nx1 : Hp → Prop, (∀ H', Nx1 H' → ∃ k', k' < k ∧ W1 (j + 1) k' H') ∧ ∀ x H', J.yld j H x H' → g x σw H' fun σ3 H5 => wipe σ3 vs = σw ∧ tt σ3 H5 fun b H6 =>
    if b = true then te σ3 H6 fun y H7 => ∃ acc, H7 D = some (.lst acc) ∧ acc.length < sizeLine ∧ Nx1 (upd H7 D (.lst (acc ++ [y]))) else Nx1 H6)
section
variable {K : PySem.W.Frag} {mg : Str → Option Value} {c : Ct}
/-- D stands by itself and is nobody's -/
theorem notHs {xs : List V} {t : S} {τ : St} {H : Hp} {D : Addr} (st : StR hox K mg (c.ext D (.lst xs)) t τ H) (n : ∀ ho, ¬ c.E D ho) : ¬ hs c t τ D := fun z => by
  obtain ⟨_, b2, _, b4⟩ := st.tmp D _ (.inr ⟨rfl, rfl⟩)
  rcases z with z | ⟨ho, z⟩ | ⟨j, o, q3, a1, a2, f3⟩
  · exact b2 z
  · exact n ho z
  · exact b4 j o q3 a1 a2 f3
theorem wiped_in {vs : List Nat} {s5 : S} {σ3 σw : St} {H5 : Hp} {ys : List V} {D : Addr} (w3 : wipe σ3 vs = σw) (st5 : StR hox K mg (c.ext D (.lst ys)) s5 σ3 H5) (p5 : vs.all (plainAt s5) = true) :
    StR hox K mg (c.ext D (.lst ys)) (wipeS s5 vs) σw H5 ∧ Le (vis (c.ext D (.lst ys)) s5 σ3 H5) (vis (c.ext D (.lst ys)) (wipeS s5 vs) σw H5) := by
  obtain ⟨st6, h6⟩ := st5.wiped p5
  rw [w3] at st6 h6
  exact ⟨st6, Le.hsub fun b z => (h6 b).mp z⟩
theorem lc_in {vs js : List Nat} {g : MG} {tt : MB} {te : MD} {σw : St} {H0 : Hp} {D : Addr} {t0 T : S} {acc0 : List Den.D} {xs0 : List V} {ds zs0 : List Den.D} {J : It} {G : Hp} (hj : ∀ j ∈ js, j ∈ vs) (hw : wipe σw vs = σw)
    (hJ : ItOk K mg J G ds) (lG : Le G (vis (c.ext D (.lst xs0)) t0 σw H0)) (st0 : StR hox K mg (c.ext D (.lst xs0)) t0 σw H0) (nE : ∀ ho, ¬ c.E D ho) (r0 : RepL K mg (vis (c.ext D (.lst xs0)) t0 σw H0) xs0 acc0)
    (ec0 : cloop vs g tt te ds t0 = .ok zs0 T) (fz : (acc0 ++ zs0).length ≤ sizeLine) (p0 : vs.all (plainAt t0) = true) {Nx : Hp → Prop}
    (hN : ∀ H xs, StR hox K mg (c.ext D (.lst xs)) T σw H → Le (vis (c.ext D (.lst xs0)) t0 σw H0) (vis (c.ext D (.lst xs)) T σw H) → RepL K mg (vis (c.ext D (.lst xs)) T σw H) xs (acc0 ++ zs0) → vs.all (plainAt T) = true → Nx H) :
    tLcIn J (tG hox K mg js g) (tB hox K mg W0 tt) (tD hox K mg W0 te) σw vs D Nx H0 := by
  refine ⟨fun i m H' => m = ds.length - i ∧ i ≤ ds.length ∧ ∃ t acc xs, StR hox K mg (c.ext D (.lst xs)) t σw H' ∧ Le (vis (c.ext D (.lst xs0)) t0 σw H0) (vis (c.ext D (.lst xs)) t σw H') ∧ RepL K mg (vis (c.ext D (.lst xs)) t σw H') xs acc ∧
    ∃ zs, cloop vs g tt te (ds.drop i) t = .ok zs T ∧ acc ++ zs = acc0 ++ zs0 ∧ vs.all (plainAt t) = true, ⟨ds.length, by simp, Nat.zero_le _, t0, acc0, xs0, st0, Le.refl _, r0, zs0, ec0, rfl, p0⟩, ?_⟩
  rintro i m H2 ⟨rfl, hi, t, acc, xs, st2, l2, rL, zs, ec, ea, pt⟩
  by_cases hlt : i < ds.length
  · refine .inr ?_
    have hd : ds[i]? = some ds[i] := List.getElem?_eq_getElem hlt
    obtain ⟨go, yld⟩ := hJ.1 i ds[i] _ H2 hd (fun p h => st2.hidden h) (lG.trans l2)
    have ed : ds.drop i = ds[i] :: ds.drop (i + 1) := by rw [List.drop_eq_getElem_cons hlt]
    rw [ed] at ec
    refine ⟨go, fun H' => ∃ t acc xs, StR hox K mg (c.ext D (.lst xs)) t σw H' ∧ Le (vis (c.ext D (.lst xs0)) t0 σw H0) (vis (c.ext D (.lst xs)) t σw H') ∧ RepL K mg (vis (c.ext D (.lst xs)) t σw H') xs acc ∧
      ∃ zs, cloop vs g tt te (ds.drop (i + 1)) t = .ok zs T ∧ acc ++ zs = acc0 ++ zs0 ∧ vs.all (plainAt t) = true, fun H' h => ⟨ds.length - (i + 1), by omega, rfl, hlt, h⟩, fun x H' y => ?_⟩
    obtain ⟨sm, rx⟩ := yld x H' y
    have gy := Go.grow st2 sm
    refine ⟨c.ext D (.lst xs), t, ds[i], gy.1, rx, ?_⟩
    unfold cloop at ec
    cases e2 : g ds[i] t with
    | none => simp only [e2] at ec; cases ec
    | some s3 =>
      simp only [e2] at ec
      refine ⟨s3, rfl, fun σ3 H3 g3 l3 k3 => ?_⟩
      have w3 : wipe σ3 vs = σw := by
        rw [wipe_eq (τ := σw) (vs := vs) l3 fun j hjv => k3 j fun z => hjv (hj j z)]
        exact hw
      refine ⟨w3, ?_⟩
      have gg := gy.trans g3
      have fin : ∀ {s5 : S} {H5 : Hp} {ys : List V} {as : List Den.D} {zs : List Den.D}, StR hox K mg (c.ext D (.lst ys)) s5 σ3 H5 → Le (vis (c.ext D (.lst xs)) t σw H2) (vis (c.ext D (.lst ys)) s5 σ3 H5) → RepL K mg (vis (c.ext D (.lst ys)) s5 σ3 H5) ys as → vs.all (plainAt s5) = true →
          cloop vs g tt te (ds.drop (i + 1)) (wipeS s5 vs) = .ok zs T → as ++ zs = acc0 ++ zs0 → ∃ t acc xs, StR hox K mg (c.ext D (.lst xs)) t σw H5 ∧ Le (vis (c.ext D (.lst xs0)) t0 σw H0) (vis (c.ext D (.lst xs)) t σw H5) ∧ RepL K mg (vis (c.ext D (.lst xs)) t σw H5) xs acc ∧
          ∃ zs, cloop vs g tt te (ds.drop (i + 1)) t = .ok zs T ∧ acc ++ zs = acc0 ++ zs0 ∧ vs.all (plainAt t) = true := by
        intro s5 H5 ys as zs st5 l5 r5 p5 c5 e5
        obtain ⟨st6, l6⟩ := wiped_in w3 st5 p5
        exact ⟨wipeS s5 vs, as, ys, st6, l2.trans (l5.trans l6), r5.mono l6, zs, c5, e5, wiped_plain p5⟩
      cases e3 : tt s3 with
      | ok b s4 =>
        refine ⟨c.ext D (.lst xs), s3, g3.1, ?_⟩
        rw [e3]
        intro H4 g4
        have gg4 := gg.trans g4
        cases b with
        | true =>
          simp only [e3] at ec
          show if true = true then _ else _
          rw [if_pos rfl]
          refine ⟨c.ext D (.lst xs), s4, g4.1, ?_⟩
          cases e4 : te s4 with
          | ok y s5 =>
            intro H5 g5 v rv
            simp only [e4] at ec
            by_cases f5 : vs.all (plainAt s5) = true
            · rw [if_pos f5] at ec
              have gg5 := gg4.trans g5
              obtain ⟨b1, b2, b3, b4⟩ := g5.1.tmp D _ (.inr ⟨rfl, rfl⟩)
              cases e5 : cloop vs g tt te (ds.drop (i + 1)) (wipeS s5 vs) with
              | ok ys s6 =>
                simp only [e5] at ec
                cases ec
                obtain ⟨st7, l7⟩ := StR.writeT (ho' := .lst (xs ++ [v])) (notHs g5.1 nE) g5.1
                have lz : xs.length < sizeLine := by
                  have h1 := rL.length
                  rw [← ea, List.length_append, List.length_cons] at fz
                  omega
                refine ⟨xs, b3, lz, fin st7 (gg5.2.trans l7) ((rL.mono (gg5.2.trans l7)).append (.cons (rv.mono l7) .nil)) f5 e5 ?_⟩
                rw [List.append_assoc]
                exact ea
              | exc x s6 => simp only [e5] at ec; cases ec
              | bad => simp only [e5] at ec; cases ec
            · rw [if_neg f5] at ec; cases ec
          | exc x s5 => simp only [e4] at ec; cases ec
          | bad => simp only [e4] at ec; cases ec
        | false =>
          simp only [e3] at ec
          show if false = true then _ else _
          rw [if_neg Bool.false_ne_true]
          by_cases f5 : vs.all (plainAt s4) = true
          · rw [if_pos f5] at ec
            exact fin g4.1 gg4.2 (rL.mono gg4.2) f5 ec ea
          · rw [if_neg f5] at ec; cases ec
      | exc x s4 => simp only [e3] at ec; cases ec
      | bad => simp only [e3] at ec; cases ec
  · have e : i = ds.length := by omega
    subst e
    rw [List.drop_length] at ec
    unfold cloop at ec
    cases ec
    rw [List.append_nil] at ea
    subst ea
    exact .inl ⟨hJ.2 _ H2 (lG.trans l2), hN H2 xs st2 l2 rL pt⟩
end
/-- behind the first target and its test the second loop -/
def cloop2 (vs vs1 : List Nat) (g : MG) (tt : MB) (mi1 : MI) (g1 : MG) (tt1 : MB) (te : MD) : List D → S → Out (List D)
  | [], s => .ok [] s
  | d :: ds, s => match g d s with
    | none => .bad
    | some s1 => match tt s1 with
      | .ok true s2 => match mi1 s2 with
        | .ok es s3 => if vs1.all (plainAt s3) = true then match cloop vs1 g1 tt1 te es (wipeS s3 vs1) with
          | .ok ys s4 => if vs.all (plainAt s4) = true then match cloop2 vs vs1 g tt mi1 g1 tt1 te ds (wipeS s4 vs) with
            | .ok zs s5 => .ok (ys ++ zs) s5
            | _ => .bad
            else .bad
          | _ => .bad
          else .bad
        | _ => .bad
      | .ok false s2 => if vs.all (plainAt s2) = true then cloop2 vs vs1 g tt mi1 g1 tt1 te ds (wipeS s2 vs) else .bad
      | _ => .bad
def compOut2 (vs vs1 : List Nat) (g : MG) (tt : MB) (mi1 : MI) (g1 : MG) (tt1 : MB) (te : MD) (ds : List D) (s1 : S) : Out Sl :=
  if vs.all (plainAt s1) = true then match cloop2 vs vs1 g tt mi1 g1 tt1 te ds (wipeS s1 vs) with
    | .ok zs t => if fits zs.length = true then .ok (.own (.lst zs)) (restore t s1 vs) else .bad
    | _ => .bad
  else .bad
def mComp2 (vs vs1 : List Nat) (mi : MI) (g : MG) (tt : MB) (mi1 : MI) (g1 : MG) (tt1 : MB) (te : MD) : MO := fun s => (mi s).bind fun ds s1 => compOut2 vs vs1 g tt mi1 g1 tt1 te ds s1
theorem wipe_wipe {τ : St} {vs vs1 : List Nat} (h : ∀ j ∈ vs1, j ∈ vs) : wipe (wipe τ vs1) vs = wipe τ vs :=
  wipe_eq (wipe_length _ _) fun j hj => (wipeV_at τ j vs1).2 fun z => hj (h j z)
theorem wipe_same {τ : St} {vs : List Nat} : wipe (wipe τ vs) vs = wipe τ vs := wipe_wipe fun _ h => h
theorem lc2_imp {K : PySem.W.Frag} {mg : Str → Option Value} {W : WX} {vs vs1 js js1 : List Nat} {mi mi1 : MI} {g g1 : MG} {tt tt1 : MB} {te : MD} {σ : St} {H : Hp} {Q : VK} (hj : ∀ j ∈ js, j ∈ vs) (hj1 : ∀ j ∈ js1, j ∈ vs1) (hv : ∀ j ∈ vs1, j ∈ vs) (hh : tO hox K mg W (mComp2 vs vs1 mi g tt mi1 g1 tt1 te) σ H Q) :
    tLc2 (tI hox K mg W mi) (tG hox K mg js g) (tB hox K mg W0 tt) (tI hox K mg W0 mi1) (tG hox K mg js1 g1) (tB hox K mg W0 tt1) (tD hox K mg W0 te) vs vs1 σ H Q := by
  obtain ⟨c, s, st, q⟩ := hh
  refine ⟨c, s, st, ?_⟩
  have q : Res hox K mg c s σ H W (fun ds s1 H1 => ResO hox K mg W c s1 σ H1 Q (compOut2 vs vs1 g tt mi1 g1 tt1 te ds s1)) (mi s) := by
    unfold mComp2 at q
    cases e1 : mi s with
    | ok ds s1 =>
      rw [e1] at q
      intro H1 g1'
      have q : ResO hox K mg W c s σ H Q (compOut2 vs vs1 g tt mi1 g1 tt1 te ds s1) := q
      cases e2 : compOut2 vs vs1 g tt mi1 g1 tt1 te ds s1 with
      | ok r s2 => rw [e2] at q; exact fun v H' g' => q v H' (g'.pre g1')
      | exc y s2 => rw [e2] at q; exact fun cls dd H' g' => q cls dd H' (g1'.trans g')
      | bad => rw [e2] at q; exact q
    | exc y s1 => rw [e1] at q; exact q
    | bad => rw [e1] at q; exact q
  refine q.imp fun ds s1 H1 gg1 q1 J hJ D nD => ?_
  have st1 := gg1.1
  unfold compOut2 at q1
  by_cases f : vs.all (plainAt s1) = true
  · rw [if_pos f] at q1
    cases e1 : cloop2 vs vs1 g tt mi1 g1 tt1 te ds (wipeS s1 vs) with
    | ok ZS T =>
      simp only [e1] at q1
      by_cases fz : fits ZS.length = true
      · rw [if_pos fz] at q1
        obtain ⟨stA, lA, nA⟩ := st1.alloc (ho := .lst []) nD
        have nE : ∀ ho, ¬ c.E D ho := fun ho z => nA (.inr (.inl ⟨ho, z⟩))
        obtain ⟨stW, hW⟩ := stA.wiped f
        have lW : Le (vis (c.ext D (.lst [])) s1 σ (upd H1 D (.lst []))) (vis (c.ext D (.lst [])) (wipeS s1 vs) (wipe σ vs) (upd H1 D (.lst []))) := Le.hsub fun b z => (hW b).mp z
        refine ⟨fun i m H' => m = ds.length - i ∧ i ≤ ds.length ∧ ∃ t acc xs, StR hox K mg (c.ext D (.lst xs)) t (wipe σ vs) H' ∧ Le (vis c s1 σ H1) (vis (c.ext D (.lst xs)) t (wipe σ vs) H') ∧ RepL K mg (vis (c.ext D (.lst xs)) t (wipe σ vs) H') xs acc ∧
          ∃ zs, cloop2 vs vs1 g tt mi1 g1 tt1 te (ds.drop i) t = .ok zs T ∧ acc ++ zs = ZS ∧ vs.all (plainAt t) = true,
          ⟨ds.length, by simp, Nat.zero_le _, wipeS s1 vs, [], [], stW, lA.trans lW, .nil, ZS, e1, rfl, wiped_plain f⟩, ?_⟩
        rintro i m H2 ⟨rfl, hi, t, acc, xs, st2, l2, rL, zs, ec, ea, pt⟩
        by_cases hlt : i < ds.length
        · refine .inr ?_
          have hd : ds[i]? = some ds[i] := List.getElem?_eq_getElem hlt
          obtain ⟨go, yld⟩ := hJ.1 i ds[i] _ H2 hd (fun p h => st2.hidden h) l2
          have ed : ds.drop i = ds[i] :: ds.drop (i + 1) := by rw [List.drop_eq_getElem_cons hlt]
          rw [ed] at ec
          refine ⟨go, fun H' => ∃ t acc xs, StR hox K mg (c.ext D (.lst xs)) t (wipe σ vs) H' ∧ Le (vis c s1 σ H1) (vis (c.ext D (.lst xs)) t (wipe σ vs) H') ∧ RepL K mg (vis (c.ext D (.lst xs)) t (wipe σ vs) H') xs acc ∧
            ∃ zs, cloop2 vs vs1 g tt mi1 g1 tt1 te (ds.drop (i + 1)) t = .ok zs T ∧ acc ++ zs = ZS ∧ vs.all (plainAt t) = true, fun H' h => ⟨ds.length - (i + 1), by omega, rfl, hlt, h⟩, fun x H' y => ?_⟩
          obtain ⟨sm, rx⟩ := yld x H' y
          have gy := Go.grow st2 sm
          refine ⟨c.ext D (.lst xs), t, ds[i], gy.1, rx, ?_⟩
          unfold cloop2 at ec
          cases e2 : g ds[i] t with
          | none => simp only [e2] at ec; cases ec
          | some s3 =>
            simp only [e2] at ec
            refine ⟨s3, rfl, fun σ3 H3 g3 l3 k3 => ?_⟩
            have w3 : wipe σ3 vs = wipe σ vs := by
              rw [wipe_eq (τ := wipe σ vs) (vs := vs) l3 fun j hjv => k3 j fun z => hjv (hj j z)]
              exact wipe_same
            refine ⟨w3, ?_⟩
            have gg := gy.trans g3
            cases e3 : tt s3 with
            | ok b s4 =>
              refine ⟨c.ext D (.lst xs), s3, g3.1, ?_⟩
              rw [e3]
              intro H4 g4
              have gg4 := gg.trans g4
              cases b with
              | true =>
                simp only [e3] at ec
                show if true = true then _ else _
                rw [if_pos rfl]
                refine ⟨c.ext D (.lst xs), s4, g4.1, ?_⟩
                cases e4 : mi1 s4 with
                | ok es s5 =>
                  intro H5 g5 J1 hJ1
                  simp only [e4] at ec
                  by_cases f5 : vs1.all (plainAt s5) = true
                  · rw [if_pos f5] at ec
                    have gg5 := gg4.trans g5
                    cases e5 : cloop vs1 g1 tt1 te es (wipeS s5 vs1) with
                    | ok ys s6 =>
                      simp only [e5] at ec
                      by_cases f6 : vs.all (plainAt s6) = true
                      · rw [if_pos f6] at ec
                        cases e6 : cloop2 vs vs1 g tt mi1 g1 tt1 te (ds.drop (i + 1)) (wipeS s6 vs) with
                        | ok ws s7 =>
                          simp only [e6] at ec
                          cases ec
                          obtain ⟨st6, l6⟩ := wiped_in (K := K) (mg := mg) (c := c) (vs := vs1) (σw := wipe σ3 vs1) rfl g5.1 f5
                          have fz' := fits_le fz
                          rw [← ea, ← List.append_assoc] at fz'
                          refine lc_in (K := K) (mg := mg) (c := c) (acc0 := acc) hj1 wipe_same hJ1 l6 st6 nE ((rL.mono gg5.2).mono l6) e5 (by rw [List.length_append] at fz'; omega) (wiped_plain f5) fun H6 xs6 st7 l7 r7 p7 => ?_
                          obtain ⟨st8, l8⟩ := wiped_in (K := K) (mg := mg) (c := c) (vs := vs) (σw := wipe σ vs) (by rw [wipe_wipe hv]; exact w3) st7 f6
                          exact ⟨wipeS s6 vs, acc ++ ys, xs6, st8, l2.trans (gg5.2.trans (l6.trans (l7.trans l8))), r7.mono l8, ws, e6, by rw [List.append_assoc]; exact ea, wiped_plain f6⟩
                        | exc x s7 => simp only [e6] at ec; cases ec
                        | bad => simp only [e6] at ec; cases ec
                      · rw [if_neg f6] at ec; cases ec
                    | exc x s6 => simp only [e5] at ec; cases ec
                    | bad => simp only [e5] at ec; cases ec
                  · rw [if_neg f5] at ec; cases ec
                | exc x s5 => simp only [e4] at ec; cases ec
                | bad => simp only [e4] at ec; cases ec
              | false =>
                simp only [e3] at ec
                show if false = true then _ else _
                rw [if_neg Bool.false_ne_true]
                by_cases f5 : vs.all (plainAt s4) = true
                · rw [if_pos f5] at ec
                  obtain ⟨st6, l6⟩ := wiped_in (K := K) (mg := mg) (c := c) (vs := vs) w3 g4.1 f5
                  exact ⟨wipeS s4 vs, acc, xs, st6, l2.trans (gg4.2.trans l6), rL.mono (gg4.2.trans l6), zs, ec, ea, wiped_plain f5⟩
                · rw [if_neg f5] at ec; cases ec
            | exc x s4 => simp only [e3] at ec; cases ec
            | bad => simp only [e3] at ec; cases ec
        · have e : i = ds.length := by omega
          subst e
          rw [List.drop_length] at ec
          unfold cloop2 at ec
          cases ec
          refine .inl ⟨hJ.2 _ H2 l2, ?_⟩
          obtain ⟨st3, h3⟩ := st2.unwiped st1 l2 f pt
          have l3 : Le (vis (c.ext D (.lst xs)) T (wipe σ vs) H2) (vis (c.ext D (.lst xs)) (restore T s1 vs) σ H2) := Le.hsub fun b z => (h3 b).mp z
          obtain ⟨b1, b2, b3, b4⟩ := st3.tmp D _ (.inr ⟨rfl, rfl⟩)
          rw [List.append_nil] at ea
          subst ea
          exact q1 _ H2 ⟨D, .lst xs, rfl, rfl, notHs st3 nE, st3, l2.trans l3, xs, b3, rL.mono l3⟩
      · rw [if_neg fz] at q1; exact q1.elim
    | exc x t => simp only [e1] at q1; exact q1.elim
    | bad => simp only [e1] at q1; exact q1.elim
  · rw [if_neg f] at q1; exact q1.elim
section
variable {X : Cx} {W : WX}
theorem so_lc2 {elt tg iter tg1 iter1 : Expr} {ifs ifs1 : List Expr} {scope : Scope} {pos : Pos} {js js1 vs1 : List Nat} {mi mi1 : MI} {g g1 : MG} {tt tt1 : MB} {te : MD} (own : List (Str × Nat)) (hc : X.calm = true) (hN : X.N.Nodup) (hi : SI hox X W tg iter mi) (ok : BlkOk X.N X.env.scope scope own)
    (hg : ∀ (s : Shared) (H : Hp) (C : Addr) (cl : List (Str × Addr)) (fp : List Addr), SG hox (X.blk s H scope (compEnvC scope cl C X.env) fp) js tg g)
    (ht : ∀ (s : Shared) (H : Hp) (C : Addr) (cl : List (Str × Addr)) (fp : List Addr), STs hox (X.blk s H scope (compEnvC scope cl C X.env) fp) W0 ifs tt)
    (hi1 : ∀ (s : Shared) (H : Hp) (C : Addr) (cl : List (Str × Addr)) (fp : List Addr), SI hox (X.blk s H scope (compEnvC scope cl C X.env) fp) W0 tg1 iter1 mi1)
    (hg1 : ∀ (s : Shared) (H : Hp) (C : Addr) (cl : List (Str × Addr)) (fp : List Addr), SG hox (X.blk s H scope (compEnvC scope cl C X.env) fp) js1 tg1 g1)
    (ht1 : ∀ (s : Shared) (H : Hp) (C : Addr) (cl : List (Str × Addr)) (fp : List Addr), STs hox (X.blk s H scope (compEnvC scope cl C X.env) fp) W0 ifs1 tt1)
    (he : ∀ (s : Shared) (H : Hp) (C : Addr) (cl : List (Str × Addr)) (fp : List Addr), SD hox (X.blk s H scope (compEnvC scope cl C X.env) fp) W0 elt te) (hj : ∀ j ∈ js, j ∈ own.map (·.2) := by decide) (hj1 : ∀ j ∈ js1, j ∈ vs1 := by decide) (hv : ∀ j ∈ vs1, j ∈ own.map (·.2) := by decide)
    (hs : ∀ x, foldedSetIterable iter X.env x = pure x := by intro _; rfl) (hs1 : ∀ env x, foldedSetIterable iter1 env x = pure x := by intro _ _; rfl) :
    SO hox X W (.ListComp elt [⟨tg, iter, ifs, 0⟩, ⟨tg1, iter1, ifs1, 0⟩] scope pos) (mComp2 (own.map (·.2)) vs1 mi g tt mi1 g1 tt1 te) :=
  PE.imp (pe_lc2 hc hN hi ok hv hg ht hi1 hg1 ht1 he hs hs1) fun σ H Q h => lc2_imp hj hj1 hv h
/-- y = [..] -/
theorem ss_setLc2 (i : Nat) {y : Str} {py spos : Pos} {elt tg iter tg1 iter1 : Expr} {ifs ifs1 : List Expr} {scope : Scope} {pos : Pos} {js js1 vs1 : List Nat} {mi mi1 : MI} {g g1 : MG} {tt tt1 : MB} {te : MD} (own : List (Str × Nat)) (hc : X.calm = true) (hN : X.N.Nodup)
    (hsw : swapsWith (.ListComp elt [⟨tg, iter, ifs, 0⟩, ⟨tg1, iter1, ifs1, 0⟩] scope pos) (some (.Name y py)) spos.line X.env = pure true) (hi : SI hox X W tg iter mi) (ok : BlkOk X.N X.env.scope scope own)
    (hg : ∀ (s : Shared) (H : Hp) (C : Addr) (cl : List (Str × Addr)) (fp : List Addr), SG hox (X.blk s H scope (compEnvC scope cl C X.env) fp) js tg g)
    (ht : ∀ (s : Shared) (H : Hp) (C : Addr) (cl : List (Str × Addr)) (fp : List Addr), STs hox (X.blk s H scope (compEnvC scope cl C X.env) fp) W0 ifs tt)
    (hi1 : ∀ (s : Shared) (H : Hp) (C : Addr) (cl : List (Str × Addr)) (fp : List Addr), SI hox (X.blk s H scope (compEnvC scope cl C X.env) fp) W0 tg1 iter1 mi1)
    (hg1 : ∀ (s : Shared) (H : Hp) (C : Addr) (cl : List (Str × Addr)) (fp : List Addr), SG hox (X.blk s H scope (compEnvC scope cl C X.env) fp) js1 tg1 g1)
    (ht1 : ∀ (s : Shared) (H : Hp) (C : Addr) (cl : List (Str × Addr)) (fp : List Addr), STs hox (X.blk s H scope (compEnvC scope cl C X.env) fp) W0 ifs1 tt1)
    (he : ∀ (s : Shared) (H : Hp) (C : Addr) (cl : List (Str × Addr)) (fp : List Addr), SD hox (X.blk s H scope (compEnvC scope cl C X.env) fp) W0 elt te) (hj : ∀ j ∈ js, j ∈ own.map (·.2) := by decide) (hj1 : ∀ j ∈ js1, j ∈ vs1 := by decide) (hv : ∀ j ∈ vs1, j ∈ own.map (·.2) := by decide)
    (hy : X.N[i]? = some y := by rfl) (hyl : X.env.scope.names.lookup y = some .local := by rfl) (hs : ∀ x, foldedSetIterable iter X.env x = pure x := by intro _; rfl) (hs1 : ∀ env x, foldedSetIterable iter1 env x = pure x := by intro _ _; rfl) :
    SS hox X W (.Assign [.Name y py] (.ListComp elt [⟨tg, iter, ifs, 0⟩, ⟨tg1, iter1, ifs1, 0⟩] scope pos) spos) (mSet i (mComp2 (own.map (·.2)) vs1 mi g tt mi1 g1 tt1 te)) :=
  PS.imp (ps_setLc2 hc hN hy hyl hsw hi ok hv hg ht hi1 hg1 ht1 he hs hs1) fun D σ H ⟨c, s, st, q⟩ => by
    show tLc2 _ _ _ _ _ _ _ _ _ σ H fun x H1 => D.nx (σ.set i (some x)) H1
    exact lc2_imp hj hj1 hv ⟨c, s, st, (ResS.splitO q).imp fun v H1 ⟨r, s1, e1, g, q1⟩ => put_ok g q1⟩
end
end Den

set_option Elab.async false
set_option linter.all false
set_option maxRecDepth 100000
set_option maxHeartbeats 4000000
/-! < of data -/
namespace Den
variable {hox : Option Addr}
open PySem PySem.Spec PyProof.Rows L2
def rLtD (K : PySem.W.Frag) : R2 := fun x y H Q => ∃ d e, Dp K H x d ∧ Dp K H y e ∧ PySem.W.alike d e = true ∧ d ≠ .none ∧ d.depth ≤ 60 ∧ Q (.bl (PySem.W.dataLt d e)) H
def pyNN : PyData → Bool
  | .none => false
  | _ => true
def gLtD (x y : D) : Option D := match x.py, y.py with
  | some a, some b => if (PySem.W.alike a b && pyNN a && decide (a.depth ≤ 60)) = true then some (.bl (PySem.W.dataLt a b)) else none
  | _, _ => none
end Den

set_option Elab.async false
set_option linter.all false
set_option maxRecDepth 100000
set_option maxHeartbeats 4000000
namespace Den
variable {hox : Option Addr}
open PySem PySem.Spec PyProof.Rows L2
/-! ### wishes for the newer mirrors; loops as folds -/
def kk (js : List Bool) (P : Fl → S → Prop) : Fl → S → Prop
  | .nx, s => P .nx (kill js s)
  | .ct, s => P .ct (kill js s)
  | f, s => P f s
section
variable {d : D} {m ma mb mk mv : MD} {mo : MO} {b : MS} {t : MB} {s : S} {i j n : Nat} {js : List Bool} {tg : MG} {mi : MI} {ml : ML} {E : Exc → S → Prop} {P : D → S → Prop} {PO : Sl → S → Prop} {PB : Bool → S → Prop} {PS : Fl → S → Prop} {PL : List D → S → Prop} {o : O}
theorem kk_nx (h : PS .nx (kill js s)) : kk js PS .nx s := h
theorem kk_rt {r : Sl} (h : PS (.rt r) s) : kk js PS (.rt r) s := h
theorem w_pre (h : W (b (kill js s)) PS E) : W (mPre js b s) PS E := by with_unfolding_all exact (
    h)
theorem w_iKill (h : W (mi s) (fun ds s1 => PL ds (kill js s1)) E) : W (iKill js mi s) PL E := by with_unfolding_all exact (
    w_bind h)
theorem w_kill (h : W (b s) (kk js PS) E) : W (mKill js b s) PS E := by
  with_unfolding_all
    unfold mKill
    cases e : b s with
    | ok f s1 =>
      rw [e] at h
      cases f with
      | nx => exact h
      | ct => exact h
      | bk => exact h
      | rt r => exact h
    | exc x s1 => rw [e] at h; exact h
    | bad => rw [e] at h; exact h
theorem w_aug {f : Int → Int → Int} {a : Int} (e : s[i]? = some (some (.val (.int a)))) (h : W (m s) (fun d s1 => ∃ c, d = .int c ∧ free s1 i = true ∧ PS .nx (s1.set i (some (.val (.int (f a c)))))) E) : W (mAug i f m s) PS E := by
  with_unfolding_all
    unfold mAug
    rw [e]
    exact w_bind (h.imp fun d s1 ⟨c, ed, hf, q⟩ => by subst ed; simp only [if_pos hf]; exact q)
theorem w_setK (h : W (m s) (fun d s1 => ∃ w0 xs0, mutK s1 i = some (w0, xs0) ∧ W (mk s1) (fun k s2 => ∃ w xs kk, mutK s2 i = some (w, xs) ∧ k.key = some kk ∧ fits (xs.length + 1) = true ∧ PS .nx (s2.set i (some (w.re (.dK (putD xs kk d)))))) E) E) : W (mSetK i mk m s) PS E := by
  with_unfolding_all
    refine w_bind (h.imp fun d s1 ⟨w0, xs0, e0, q⟩ => ?_)
    simp only [e0]
    refine w_bind (q.imp fun k s2 ⟨w, xs, kk, e1, e2, e3, q⟩ => ?_)
    simp only [e1, e2, if_pos e3]
    exact q
theorem w_getK {w0 : Sl} {xs0 : List (Key × D)} (e : mutK s i = some (w0, xs0)) (h : W (mk s) (fun k s1 => W (mv s1) (fun v s2 => ∃ w xs kk, mutK s2 i = some (w, xs) ∧ k.key = some kk ∧ P ((valD xs kk).getD v) s2) E) E) : W (mGetK i mk mv s) P E := by
  with_unfolding_all
    unfold mGetK
    simp only [e]
    refine w_bind (h.imp fun k s1 q => w_bind (q.imp fun v s2 ⟨w, xs, kk, e1, e2, q⟩ => ?_))
    simp only [e1, e2]
    exact q
theorem w_copyK (h : W (m s) (fun d s1 => ∃ kvs, d = .dic kvs ∧ PO (.own (.dK kvs)) s1) E) : W (mCopyK m s) PO E := by with_unfolding_all exact (
    w_bind (h.imp fun d s1 ⟨kvs, e, q⟩ => by subst e; exact q))
theorem w_pairs0 {P : List (D × D) → S → Prop} (h : P [] s) : W (mPairs [] s) P E := by with_unfolding_all exact (
    h)
theorem w_pairs {P : List (D × D) → S → Prop} {r : List (MD × MD)} (h : W (mk s) (fun a s1 => W (mv s1) (fun b s2 => W (mPairs r s2) (fun ps s3 => P ((a, b) :: ps) s3) E) E) E) : W (mPairs ((mk, mv) :: r) s) P E := by with_unfolding_all exact (
    w_bind (h.imp fun a s1 q => w_bind (q.imp fun b s2 q => w_bind q)))
theorem w_disp {ms : List (MD × MD)} (h : W (mPairs ms s) (fun ps s1 => ∃ kvs, keyed ps = some kvs ∧ kvs.length ≤ 15 ∧ PO (.own (.dK (mergeD [] kvs))) s1) E) : W (mDisp ms s) PO E := by with_unfolding_all exact (
    w_bind (h.imp fun ps s1 ⟨kvs, e, hl, q⟩ => by simp only [e, if_pos hl]; exact q))
theorem w_din {neg : Bool} (h : W (ma s) (fun k s1 => W (mb s1) (fun d s2 => ∃ kvs kk, d = .dic kvs ∧ k.key = some kk ∧ P (.bl (xor neg (valD kvs kk).isSome)) s2) E) E) : W (mDin neg ma mb s) P E := by with_unfolding_all exact (
    w_bind (h.imp fun k s1 q => w_bind (q.imp fun d s2 ⟨kvs, kk, e1, e2, q⟩ => by subst e1; simp only [e2]; exact q)))
theorem w_inT {neg : Bool} (h : W (ma s) (fun k s1 => ∃ w xs ks kk, mutT s1 i = some (w, xs) ∧ k = .tup ks ∧ D.keys ks = some kk ∧ P (.bl (xor neg (hasT xs kk))) s1) E) : W (mInT neg i ma s) P E := by with_unfolding_all exact (
    w_bind (h.imp fun k s1 ⟨w, xs, ks, kk, e1, e2, e3, q⟩ => by subst e2; simp only [e1, e3]; exact q))
theorem w_items (h : W (m s) (fun d s1 => ∃ kvs, d = .dic kvs ∧ PL (kvs.map fun kv => .tup [keyD kv.1, kv.2]) s1) E) : W (iItems m s) PL E := by with_unfolding_all exact (
    w_bind (h.imp fun d s1 ⟨kvs, e, q⟩ => by subst e; exact q))
theorem w_values (h : W (m s) (fun d s1 => ∃ kvs, d = .dic kvs ∧ PL (kvs.map fun kv => kv.2) s1) E) : W (iValues m s) PL E := by with_unfolding_all exact (
    w_bind (h.imp fun d s1 ⟨kvs, e, q⟩ => by subst e; exact q))
theorem w_keys (h : W (m s) (fun d s1 => ∃ kvs, d = .dic kvs ∧ PL (kvs.map fun kv => keyD kv.1) s1) E) : W (iKeys m s) PL E := by with_unfolding_all exact (
    w_bind (h.imp fun d s1 ⟨kvs, e, q⟩ => by subst e; exact q))
theorem w_rg1 {P : Int × Int → S → Prop} (h : W (m s) (fun d s1 => ∃ i, d = .int i ∧ P (0, i) s1) E) : W (rg1 m s) P E := by with_unfolding_all exact (
    w_bind (h.imp fun d s1 ⟨i, e, q⟩ => by subst e; exact q))
theorem w_rg2 {P : Int × Int → S → Prop} (h : W (ma s) (fun d s1 => W (mb s1) (fun e s2 => ∃ i j, d = .int i ∧ e = .int j ∧ P (i, j) s2) E) E) : W (rg2 ma mb s) P E := by with_unfolding_all exact (
    w_bind (h.imp fun d s1 q => w_bind (q.imp fun e s2 ⟨i, j, e1, e2, q2⟩ => by subst e1 e2; exact q2)))
theorem w_listR {r : S → Out (Int × Int)} (h : W (r s) (fun ab s1 => (i62 ab.1 && i62 ab.2 && decide ((ab.2 - ab.1).toNat ≤ 1000000)) = true ∧ PO (.own (.lst (rngD ab.1 (ab.2 - ab.1).toNat))) s1) E) : W (mListR r s) PO E := by with_unfolding_all exact (
    w_bind (h.imp fun ab s1 ⟨e, q⟩ => by simp only [if_pos e]; exact q))
theorem w_r2 (h : W (ml s) (fun ds s1 => ∃ i j, ds = [.int i, .int j] ∧ (i62 i && i62 j) = true ∧ PL (rngD i (j - i).toNat) s1) E) : W (iR2 ml s) PL E := by with_unfolding_all exact (
    w_bind (h.imp fun ds s1 ⟨i, j, e, f, q⟩ => by subst e; simp only [if_pos f]; exact q))
theorem w_split (h : W (ma s) (fun d s1 => ∃ a, d = .str a ∧ W (mb s1) (fun e s2 => ∃ b, e = .str b ∧ (!(b.length == 0) && decide (a.length ≤ 1000000)) = true ∧ PO (.own (.lst ((Txt.split a b).map .str))) s2) E) E) : W (mSplit ma mb s) PO E := by with_unfolding_all exact (
    w_bind (h.imp fun d s1 ⟨a, e, q⟩ => by subst e; exact w_bind (q.imp fun e s2 ⟨b, e1, e2, q⟩ => by subst e1; simp only [if_pos e2]; exact q)))
theorem w_join (h : W (ma s) (fun d s1 => ∃ a, d = .str a ∧ W (mb s1) (fun e s2 => ∃ ds ys, e.items = some ds ∧ D.strs ds = some ys ∧ (ys.map (·.length)).sum + ys.length * a.length ≤ 1000000 ∧ P (.str (Txt.join a ys)) s2) E) E) : W (mJoin ma mb s) P E := by with_unfolding_all exact (
    w_bind (h.imp fun d s1 ⟨a, e, q⟩ => by subst e; exact w_bind (q.imp fun e s2 ⟨ds, ys, e1, e2, e3, q⟩ => by simp only [e1, e2, if_pos e3]; exact q)))
theorem w_par (h : W (ml s) (fun ds s1 => ∃ d e, ds = [d, e] ∧ free s1 i = true ∧ free s1 j = true ∧ PS .nx ((s1.set i (some (.val d))).set j (some (.val e)))) E) : W (mPar i j ml s) PS E := by with_unfolding_all exact (
    w_bind (h.imp fun ds s1 ⟨d, e, e1, f1, f2, q⟩ => by subst e1; simp only [if_pos (And.intro f1 f2)]; exact q))
theorem w_kin {neg : Bool} {tb : Tb} (h : W (m s) (fun d s1 => ∃ z r, d = .str z ∧ mKIn neg tb (mK (.str z)) s1 = .ok r s1 ∧ P r s1) E) : W (mKIn neg tb m s) P E := by
  with_unfolding_all
    unfold mKIn
    refine w_bind (h.imp fun d s1 ⟨z, r, e, e2, q⟩ => ?_)
    subst e
    unfold mKIn mK at e2
    exact w_of e2 q
theorem w_kix {tb : Tb} (h : W (m s) (fun d s1 => ∃ z r, d = .str z ∧ mKIx tb (mK (.str z)) s1 = .ok r s1 ∧ P r s1) E) : W (mKIx tb m s) P E := by
  with_unfolding_all
    unfold mKIx
    refine w_bind (h.imp fun d s1 ⟨z, r, e, e2, q⟩ => ?_)
    subst e
    unfold mKIx mK at e2
    exact w_of e2 q
theorem i62_of {j : Int} (h : -1000000000 ≤ j ∧ j ≤ 1000000000) : i62 j = true := by unfold i62; simp; omega
theorem sm_slT {xs : List D} {lo hi : Option Int} {P : D → Prop} (h : P (.tup (cutD xs lo hi))) : Sm (gSl (.tup xs) lo hi) P := by with_unfolding_all exact (
    ⟨_, rfl, h⟩)
theorem sm_slL {xs : List D} {lo hi : Option Int} {P : D → Prop} (h : P (.lst (cutD xs lo hi))) : Sm (gSl (.lst xs) lo hi) P := by with_unfolding_all exact (
    ⟨_, rfl, h⟩)
theorem sm_dix {kvs : List (Key × D)} {k d : D} {kk : Key} {P : D → Prop} (e : k.key = some kk) (f : valD kvs kk = some d) (h : P d) : Sm (gDix (.dic kvs) k) P := by with_unfolding_all exact (
    ⟨d, by unfold gDix; simp only [e, f], h⟩)
theorem sm_addT {xs ys : List D} {P : D → Prop} (f : fits (xs.length + ys.length) = true) (h : P (.tup (xs ++ ys))) : Sm (gAdd (.tup xs) (.tup ys)) P := by with_unfolding_all exact (
    ⟨_, by unfold gAdd; simp only [if_pos f], h⟩)
theorem sm_add1 {x : Int} {t : List Int} {P : D → Prop} (f : fits (t.length + 1) = true) (h : P (.tup ((x :: t).map .int))) : Sm (gAdd (.tup [.int x]) (.tup (t.map .int))) P := by with_unfolding_all exact (
    ⟨_, by unfold gAdd; simp only [List.length_map, List.length_cons, List.length_nil]; rw [if_pos (by rw [Nat.add_comm]; exact f)]; rfl, h⟩)
/-! folds -/
theorem w_foldI {α β : Type} {ds : List D} (I : β → Prop) (enc : α → D) (st : β → S) (f : β → α → β) (xs : List α) (b0 : β) (hd : ds = xs.map enc) (hs : s = st b0) (h0 : I b0)
    (step : ∀ b' x, I b' → x ∈ xs → Sm (tg (enc x) (st b')) fun s1 => W (b s1) (kl (fun s2 => s2 = st (f b' x) ∧ I (f b' x)) PS) E)
    (fin : I (xs.foldl f b0) → PS .nx (st (xs.foldl f b0))) : W (loop tg b ds s) PS E := by
  with_unfolding_all
    subst hd hs
    refine w_loop (fun ds s => ∃ as bs, xs = as ++ bs ∧ ds = bs.map enc ∧ s = st (as.foldl f b0) ∧ I (as.foldl f b0)) ⟨[], xs, rfl, rfl, rfl, h0⟩ ?_ ?_
    · rintro d ds s1 ⟨as, bs, e1, e2, rfl, hi⟩
      cases bs with
      | nil => cases e2
      | cons x bs =>
        cases e2
        obtain ⟨s2, e3, q⟩ := step _ x hi (by rw [e1]; simp)
        refine ⟨s2, e3, q.imp fun fl s3 q => ?_⟩
        have key : s3 = st (f (as.foldl f b0) x) ∧ I (f (as.foldl f b0) x) → ∃ as' bs', xs = as' ++ bs' ∧ bs.map enc = bs'.map enc ∧ s3 = st (as'.foldl f b0) ∧ I (as'.foldl f b0) := fun ⟨e, q⟩ => ⟨as ++ [x], bs, by rw [e1]; simp, rfl, by rw [e, List.foldl_append]; rfl, by rw [List.foldl_append]; exact q⟩
        cases fl with
        | nx => exact key q
        | ct => exact key q
        | bk => exact q
        | rt r => exact q
    · rintro s1 ⟨as, bs, e1, e2, rfl, hi⟩
      cases bs with
      | nil => rw [List.append_nil] at e1; subst e1; exact fin hi
      | cons x bs => cases e2
/-- a loop that looks for something and returns it; the slots stand as they are -/
def kse (u : S) : Option Sl → Fl → S → Prop
  | none, .nx, s => s = u
  | some r, .rt r', s => r' = r
  | _, _, _ => False
theorem kse_nx {u : S} (h : s = u) : kse u none .nx s := h
theorem kse_rt {u : S} {r r' : Sl} (h : r' = r) : kse u (some r) (.rt r') s := h
/-- a comprehension that keeps some and turns them -/
theorem w_fmap {α : Type} {vs : List Nat} {xs : List α} {ds : List D} {u : S} (gg : α → D) (p : α → Bool) (f : α → D) (hd : ds = xs.map gg) (hv : vs.all (plainAt s) = true) (hu : wipeS s vs = u) (hl : xs.length ≤ 1000000)
    (step : ∀ x ∈ xs, Sm (tg (gg x) u) fun s1 => W (t s1) (fun c s2 => c = p x ∧ kb (W (m s2) (fun y s3 => y = f x ∧ vs.all (plainAt s3) = true ∧ wipeS s3 vs = u) E9) (vs.all (plainAt s2) = true ∧ wipeS s2 vs = u) c) E9) (fin : PO (.own (.lst ((xs.filter p).map f))) (restore u s vs)) : W (compOut vs tg t m ds s) PO E := by
  with_unfolding_all
    subst hd
    refine w_comp (fun ds acc s => s = u ∧ ∃ as bs, xs = as ++ bs ∧ ds = bs.map gg ∧ acc = (as.filter p).map f) hv ⟨hu, [], xs, rfl, rfl, rfl⟩ ?_ ?_
    · rintro d ds acc s1 ⟨rfl, as, bs, e1, e2, rfl⟩
      cases bs with
      | nil => cases e2
      | cons x bs =>
        cases e2
        obtain ⟨s2, e3, q⟩ := step x (by rw [e1]; simp)
        refine ⟨s2, e3, q.imp ?_⟩
        rintro c s3 ⟨ec, k1, k2⟩
        refine ⟨fun hc => (k1 hc).imp ?_, fun hc => ?_⟩
        · rintro y s4 ⟨rfl, h1, h2⟩
          refine ⟨h1, h2, as ++ [x], bs, by rw [e1]; simp, rfl, ?_⟩
          rw [List.filter_append, List.filter_cons, if_pos (by rw [← ec]; exact hc)]
          simp
        · obtain ⟨h1, h2⟩ := k2 hc
          refine ⟨h1, h2, as ++ [x], bs, by rw [e1]; simp, rfl, ?_⟩
          rw [List.filter_append, List.filter_cons, if_neg (by rw [← ec, hc]; exact Bool.false_ne_true)]
          simp
    · rintro acc s1 ⟨rfl, as, bs, e1, e2, rfl⟩
      cases bs with
      | nil =>
        rw [List.append_nil] at e1
        subst e1
        refine ⟨fits_of ?_, fin⟩
        rw [List.length_map]
        exact Nat.le_trans (List.length_filter_le _ _) hl
      | cons x bs => cases e2
end
/-! draws -/
@[irreducible] def DThen (F : FL) (ds : List D) (k : D → O → Prop) : Prop := ∃ P : D → Prop, LOk F ds P ∧ ∀ d o', DOk o' → P d → k d o'
theorem DThen.get {F : FL} {ds : List D} {k : D → O → Prop} (h : DThen F ds k) : ∃ P : D → Prop, LOk F ds P ∧ ∀ d o', DOk o' → P d → k d o' := by with_unfolding_all exact h
theorem dthen {F : FL} {ds : List D} {k : D → O → Prop} {α : Type} {f : α → D} {Q : α → Prop} (h : LOk F ds fun d => ∃ x, d = f x ∧ Q x) (q : ∀ o', DOk o' → ∀ x, Q x → k (f x) o') : DThen F ds k := by with_unfolding_all exact (
    ⟨_, h, fun d o' ho ⟨x, e, hx⟩ => by rw [e]; exact q o' ho x hx⟩)
theorem w_draw {i n : Nat} {F : FL} {ml : ML} {s : S} {w0 : Sl} {o0 : O} {PO : Sl → S → Prop} {E : Exc → S → Prop} (hm : mutAt s i = some (w0, o0))
    (h : W (ml s) (fun ds s1 => ∃ w1 o1, mutAt s1 i = some (w1, o1) ∧ ds.length + 1 = n ∧ DOk o1 ∧ DThen F ds fun d o' => PO (.val d) (s1.set i (some (w1.re o')))) E) : W (mCallL i F n ml s) PO E := by
  with_unfolding_all
    unfold mCallL
    simp only [hm]
    refine w_bind (h.imp fun ds s1 ⟨w1, o1, e1, hl, hd, hk⟩ => ?_)
    obtain ⟨P, hF, k⟩ := hk.get
    obtain ⟨d, o', s', e, e0, hk, q⟩ := hF o1 hd
    simp only [e1, if_pos hl, e, lentOut, e0, if_pos ((mutAt_sub e1).trans (hd.sub.trans hk.sub.symm))]
    exact k d o' hk q
/-! defs by their answers -/
abbrev FEq (F : FP) (ds : List D) (r : Sl) : Prop := FOk F ds fun r' => r' = r
theorem FOk.imp {F : FP} {ds : List D} {P Q : Sl → Prop} (h : FOk F ds P) (q : ∀ r, P r → Q r) : FOk F ds Q := by
  with_unfolding_all
    obtain ⟨r, s, e, nb, p⟩ := h.get
    exact ⟨r, s, e, nb, q r p⟩
theorem fok_of {F : FP} {ds : List D} {P : Sl → Prop} {r : Sl} (h : FEq F ds r) (q : P r) : FOk F ds P := by with_unfolding_all exact (
    h.imp fun r' e => by rw [e]; exact q)
/-- a new object of a class: what __init__ leaves -/
@[irreducible] def MOk (F : FL) (cn : Str) (ds : List D) (o : O) : Prop := o.sub.isEmpty = true ∧ ∃ s', F (.ins cn []) ds = .ok (.val .non) s' ∧ s'[0]? = some (some (.bor o))
theorem MOk.get {F : FL} {cn : Str} {ds : List D} {o : O} (h : MOk F cn ds o) : o.sub.isEmpty = true ∧ ∃ s', F (.ins cn []) ds = .ok (.val .non) s' ∧ s'[0]? = some (some (.bor o)) := by with_unfolding_all exact h
theorem MOk.mk {F : FL} {cn : Str} {ds : List D} {o : O} (h : ∃ s', F (.ins cn []) ds = .ok (.val .non) s' ∧ s'[0]? = some (some (.bor o))) (hz : o.sub.isEmpty = true := by rfl) : MOk F cn ds o := by with_unfolding_all exact ⟨hz, h⟩
theorem w_makeE {cn : Str} {F : FL} {ml : ML} {s : S} {n : Nat} {PO : Sl → S → Prop} {E : Exc → S → Prop} (h : W (ml s) (fun ds s1 => ds.length + 1 = n ∧ ∃ o, MOk F cn ds o ∧ PO (.own o) s1) E) : W (mMake cn F n ml s) PO E := by with_unfolding_all exact (
    w_make (h.imp fun ds s1 ⟨e, o, hm, q⟩ => let ⟨hz, s', e1, e2⟩ := hm.get; ⟨e, s', o, e1, e2, hz, q⟩))
theorem mok_of {F : FL} {cn : Str} {ds : List D} {o : O} {P : O → Prop} (h : MOk F cn ds o) (q : P o) : ∃ o, MOk F cn ds o ∧ P o := by with_unfolding_all exact (
    ⟨o, h, q⟩)
end Den

set_option Elab.async false
set_option linter.all false
set_option maxRecDepth 100000
set_option maxHeartbeats 4000000
namespace Den
variable {hox : Option Addr}
open PySem PySem.Spec PyProof.Rows L2
/-! wishes for comprehensions with two for -/
section
variable {m : MD} {t tt : MB} {s : S} {tg g1 : MG} {mi1 : MI} {E : Exc → S → Prop} {PO : Sl → S → Prop}
theorem w_comp2I {vs vs1 : List Nat} {mi : MI} (h : W (mi s) (fun ds s1 => W (compOut2 vs vs1 tg t mi1 g1 tt m ds s1) PO E) E) : W (mComp2 vs vs1 mi tg t mi1 g1 tt m s) PO E := w_bind h
end
theorem lrs {i j : Int} (h : 0 ≤ i ∧ i ≤ 1000) (h2 : -1000000 ≤ j ∧ j ≤ 1000000) : (i62 (i, j).1 && i62 (i, j).2 && decide (((i, j).2 - (i, j).1).toNat ≤ 1000000)) = true := by
  show (i62 i && i62 j && decide ((j - i).toNat ≤ 1000000)) = true
  rw [i62_of (by omega), i62_of (by omega), decide_eq_true (by omega)]
  rfl
theorem w_yes {s : S} {PB : Bool → S → Prop} {E : Exc → S → Prop} (h : PB true s) : W (bYes s) PB E := w_ok h
theorem i62s {i j : Int} (h : -1000000000 ≤ i ∧ i ≤ 1000000000) (h2 : -1000000000 ≤ j ∧ j ≤ 1000000000) : (i62 i && i62 j) = true := by rw [i62_of h, i62_of h2]; rfl
theorem w_prop {cn : Str} {F : FP} {m : MD} {s : S} {P : D → S → Prop} {E : Exc → S → Prop} (h : W (m s) (fun d s1 => ∃ fs r, d = .obj cn fs ∧ FEq F [.obj cn fs] (.val r) ∧ P r s1) E) : W (mProp cn F m s) P E := by
  refine w_bind (h.imp fun d s1 ⟨fs, r, e, hf, q⟩ => ?_)
  obtain ⟨r', s', e', _, er⟩ := hf.get
  subst e
  subst er
  simp only [if_pos, e']
  exact w_ok q
theorem w_isiC {cn : Str} {m : MD} {s : S} {P : D → S → Prop} {E : Exc → S → Prop} (h : W (m s) (fun x s1 => Sm (gIsiC cn x) fun z => P z s1) E) : W (mIsiC cn m s) P E := w_un h
theorem sm_isiC {cn : Str} {fs : List (Str × D)} {P : D → Prop} (h : P (.bl true)) : Sm (gIsiC cn (.obj cn fs)) P := Sm.of (by unfold gIsiC; simp) h
theorem sm_eqO {cn : Str} {F : FP} {fs gs : List (Str × D)} {b : Bool} {P : D → Prop} (e : FEq F [.obj cn fs, .obj cn gs] (.val (.bl b))) (h : P (.bl b)) : Sm (gEqO cn F (.obj cn fs) (.obj cn gs)) P := by
  obtain ⟨r, s', e', _, er⟩ := e.get
  subst er
  refine Sm.of ?_ h
  unfold gEqO
  simp [e']
theorem sm_addS {a b : Str} {P : D → Prop} (f : fits (a.length + b.length) = true) (h : P (.str (a ++ b))) : Sm (gAdd (.str a) (.str b)) P := Sm.of (by unfold gAdd; simp only [if_pos f]) h
/-! exceptions' clauses -/
end Den

set_option Elab.async false
set_option linter.all false
set_option maxRecDepth 100000
set_option maxHeartbeats 4000000
/-! own classes: + -/
namespace Den
variable {hox : Option Addr}
open PySem PySem.Spec PyProof.Rows L2
def isOb (cn : Str) : D → Bool
  | .obj c _ => decide (c = cn)
  | _ => false
def mAddO (cn : Str) (F : FP) (ma mb : MD) : MO := fun s => (ma s).bind fun x s1 => (mb s1).bind fun y s2 => if (isOb cn x && isOb cn y) = true then match F [x, y] with
  | .ok (.val d) _ => .ok (.val d) s2
  | .ok (.own o) _ => .ok (.own o) s2
  | .exc x _ => .exc x s2
  | _ => .bad
  else .bad
section
variable {X : Cx} {W : WX} {k : Nat} {C f : Addr} {fd : FuncData} {ps : List Str} {F : FP} {a b : Expr} {pos : Pos} {ma mb : MD}
end
end Den

set_option Elab.async false
set_option linter.all false
set_option maxRecDepth 100000
set_option maxHeartbeats 4000000
/-! an own exception class whose __init__ says super().__init__("..") two classes below a built-in one, and then writes fields -/
namespace PySem
namespace SUPX
open PySem.W PySem.Calls PyProof.Rows
section
variable {prog : Program} {w : World} {A : Around} {E : Value → Shared → Prop} {h : Heap} {g : Array GenState} {d : Drawn} {t : Nat} {os : OsState}
variable {nm q : Str} {C N : Addr} {bs bm : List Value} {hdct : Bool} {sn : List Str} {sub : List Value} {ab : Bool} {col : Option Bool} {dd : Option Addr} {k0 k1 k2 k3 k5 : Option Value}
/-- the bound wrapper of ValueError.__init__, called -/
theorem call_mw {u e t0 : Addr} {rest : List Value} {Q : Value → Shared → Prop}
    (hC : h.get? C = some (excClassObj nm q C N bs bm hdct sn sub ab col dd k0 k1 k2 k3 k5 "ValueError.__new__")) (he : h.get? e = some (HandSPX.excO C t0)) (hu : h.get? u = some (kxs_mw "ValueError.__init__" e)) (hrest : rest.length ≤ sizeLine)
    (hq : ∀ h' t1, (∀ b o, b ≠ e → h.get? b = some o → h'.get? b = some o) → h'.get? e = some (HandSPX.excO C t1) → Q .none ⟨h', g, d, t, os⟩) :
    wpAny (model prog w) A (call (.ref u) rest) Q E ⟨h, g, d, t, os⟩ := by
  have FB := F.excBase_ValueError
  refine wpAny_call (codeAny_of_tree ?_)
  show wpAny _ A.in1 (callAny (.ref u) ⟨rest, []⟩) _ _ _
  simp only [callAny]
  refine wpAny_bind (wpAny_load hu ?_)
  simp only [kxs_mw, show (Value.type "method-wrapper" == Value.type "method" || Value.type "method-wrapper" == Value.type "builtin_function_or_method" || Value.type "method-wrapper" == Value.type "method-wrapper") = true by decide, if_true]
  refine W.KFB.if_so (by decide) ?_
  refine wpAny_bind (check_bound_init FB.toExcCallFacts hC he rfl ?_)
  refine wpAny_bind (wpAny_pure (wpAny_pure ?_))
  refine ⟨plainId_quiet FB.init.plain _, codeAny_builtin FB.initEntry ?_⟩
  exact exc_init_tree (cls := .ref C) (t0 := t0) (dv := none) (c2 := .none) (c3 := .none) (b4 := .bool false) he hrest fun h' k hx _ => hq h' _ k hx
end
end SUPX
end PySem
namespace Den
variable {hox : Option Addr}
open PySem PySem.Spec PyProof.Rows L2
/-- what the written part says of such a class, C; its __init__ at f, the cell of __class__ at cc, the code at cda -/
structure SupC (P : Program) (K : PySem.W.Frag) (C cc cda : Addr) : Prop where
  oex : OexC K C
  cell : ∃ a b sl, K.lookup cc = some ⟨a, b, .cell (some (.ref C)), sl⟩
  code : ∃ (a : Value) (b : Option Addr) (sl : Array (Option Value)) (vs : Array Value) (file : Str) (tf : Tok), K.lookup cda = some ⟨a, b, .fields vs, sl⟩ ∧ vs[2]? = some (.str file tf) ∧ ((P.main.file : Str) == file) = true
  opq : PySem.W.nsIn K cStatics "thirdparty.any" = some none
  init : PySem.W.ks_superIn K C C "__init__" = some (some (.builtin "ValueError.__init__"))
  sub : PySem.W.subIn K (.ref C) (.type "ValueError") = some true
  self : PySem.W.mroIn K C (.ref C) = some true
  top : (P.main.scope.names.lookup ("super" : Str)).isSome = false
/-- the call's own equation (it asks the places of the text) -/
def SupEv (env : Env) (p0 p1 p2 p3 p4 : Pos) (m : Str) (j : Nat) (pl : Sem Bool) : Prop :=
  eval (.Call (.Attribute (.Call (.Name "super" p0) [] [] p1) "__init__" p2) [.Constant (.str m) j p3] [] p4) env = (do
      let ov ← attributeBase (.Call (.Name "super" p0) [] [] p1) "__init__" env (eval (.Call (.Name "super" p0) [] [] p1) env)
      standAt p2.atName
      let (f, first) ← holding [ov] (getMethod ov "__init__" pl)
      callWith p4 f first (backTo p4 (starEach [.Constant (.str m) j p3] env)) [])
section
variable {X : Cx} {pins : List (Addr × Obj)} {σ : St} {H : Hp} {s : Shared} {a C f cc cda : Addr} {fd : FuncData} {ar : Arg} {body : List Stmt} {p0 p1 p2 p3 p4 p5 : Pos} {m : Str} {j : Nat} {Q : Flow → Shared → Prop} {E : Value → Shared → Prop}
/-- super().__init__("m") -/
theorem sup_stmt (T : SupC X.prog X.K C cc cda) (hks : Gl X "super") (hm : X.mg "super" = none) (hkc : X.env.kindOf "__class__" = some .free) (hcl : X.env.cells.lookup ("__class__" : Str) = some cc) (hfu : X.env.func = some f) (hco : X.env.code = .ref cda)
    (hf : ∃ a b sl, X.K.lookup f = some ⟨a, b, .func fd, sl⟩) (hp : (fd.params.posonlyargs ++ fd.params.args).head? = some ar) (har : ar.arg = ("self" : Str)) (hka : X.env.kindOf "self" = some .local) (hN : X.N[0]? = some ("self" : Str)) (hσ : σ[0]? = some (some (V.ref a)))
    (I : Inv X pins σ H s) (ea : H a = some (exo a C none)) (h : ∀ s', Inv X pins σ H s' → Q .next s') {pl : Sem Bool}
    (hc : SupEv X.env p0 p1 p2 p3 p4 m j pl) :
    _root_.PySem.wpAt (model X.prog X.w) X.A (.func body X.env) (exec (.Expr (.Call (.Attribute (.Call (.Name "super" p0) [] [] p1) "__init__" p2) [.Constant (.str m) j p3] [] p4) p5) X.env) Q E s := by
  obtain ⟨f1, f2, f3, hf⟩ := hf
  obtain ⟨c1, c2, c3, hcell⟩ := T.cell
  obtain ⟨d1, d2, d3, vs, file, tf, hcode, hvs, hfile⟩ := T.code
  obtain ⟨nm, q, N, bs, bm, sn, sub, ab, col, dd, k0, k1, k2, k3, k5, hC, hbm⟩ := T.oex.cls
  have hcd : PySem.W.clsIn X.K C = some { name := nm, bases := bs, mro := .ref C :: bm, ns := N, qualname := q, hasDict := true, slotNames := sn, subclasses := sub, abstract := ab, collection := col, hasDel := false } := by unfold PySem.W.clsIn; rw [hC] <;> rfl
  have hini := T.init
  unfold PySem.W.ks_superIn at hini
  rw [hcd] at hini
  have hi : interactive X.env = false := I.quiet
  refine ks_wpAt_Expr_any (ks_wpAt_MethodCall (ks_wpAt_super_base hks hkc rfl hfu (I.kIn _ _ hf) rfl hp hco (I.kIn _ _ hcode) rfl hvs hfile T.top ?_) hc) hi
  obtain ⟨mb, hb1, hb2⟩ := I.mod.blt
  refine PySem.W.ks_loadName_global I.ok.kind hks (Calls.loadGlobal_builtin (by rw [I.ok.glob]; exact I.mod.glob.keeps I.bk) hm (by rw [I.ok.blt]; exact hb1.keeps I.bk) ((hb2 "super" (by decide)).trans Boot.«super») ⟨rfl, ?_⟩)
  refine wpAny_loadName_free I.ok.kind hkc hcl ⟨_, I.kIn _ _ hcell, rfl⟩ ?_
  obtain ⟨mm, hn, hl⟩ := I.loc
  obtain ⟨u, ru, lk⟩ := hl 0 "self" _ hN hσ (.inl hka)
  have hm0 : mm "self" = some (.ref a) := by
    rcases lk with ⟨_, e⟩ | ⟨e, _⟩
    · rw [e, show u = Value.ref a from ru]
    · rw [hka] at e
      rcases e with e | e <;> cases e
  rw [har]
  refine wpAny_loadName_local I.ok.kind hka hn hm0 ?_
  refine ks_wpAny_isType_cls (I.kIn _ _ hC) rfl ⟨rfl, ?_⟩
  obtain ⟨t1, ho⟩ := exo_at I.hok ea
  obtain ⟨hh, g, d, t, os⟩ := s
  refine ks_wpAny_call_super (I.kIn _ _ hC) rfl ho rfl (fun c e => by cases e) (PySem.W.looks_mroIn I.kIn T.self) (fun h' e1 kk1 => ?_)
  have I1 : Inv X pins σ H ⟨h', g, d, t, os⟩ := I.kept (t' := t) kk1
  have ho1 := kk1 _ _ ho
  have J : PySem.W.InstAt h' a (PySem.HandSPX.excO C t1) C none := ⟨ho1, rfl, rfl, trivial⟩
  refine PySem.W.kxs_getMethod PySem.W.kxs_ValueError e1 (PySem.W.looks_opaque I1.kIn T.opq) (l₀ := .ref C :: bm) (fun A Q E s k q => wpAny_bind ((PySem.W.looks_clsIn I1.kIn hcd) A _ E s k (wpAny_pure q))) rfl I1.kIn hini (J.type.andThen (PySem.W.looks_subIn I1.kIn T.sub)) (PySem.W.ks_ne I1.kIn J hcd) rfl ?_
  have kk2 : ∀ b o, h'.get? b = some o → (h'.push (PySem.W.kxs_mw "ValueError.__init__" a)).get? b = some o := fun b o e => Heap.get?_push_of_some _ e
  have I2 : Inv X pins σ H ⟨h'.push (PySem.W.kxs_mw "ValueError.__init__" a), g, d, t + 1, os⟩ := I1.kept (t' := t + 1) kk2
  have hu : (h'.push (PySem.W.kxs_mw "ValueError.__init__" a)).get? h'.objs.size = some (PySem.W.kxs_mw "ValueError.__init__" a) := Heap.get?_push_at rfl rfl
  have ho2 := kk2 _ _ ho1
  refine PySem.W.kxs_callWith (i := "ValueError.__init__") (x := a) (by rfl) ?_
  show wpAny _ _ (evalArgs _ true ((false, eval (.Constant (.str m) j p3) X.env) :: []) []) _ _ _
  refine Calls.evalArgs_plain (Calls.spliced_cons (Calls.Constant_str (Calls.spliced_nil ⟨hu, ?_⟩)))
  refine PySem.SUPX.call_mw (I2.kIn _ _ hC) ho2 hu (by show 1 ≤ sizeLine; rw [sizeLine_eq]; omega) (fun h3 t3 k hx => ?_)
  have J3 := I2.write (t' := t + 1 + 1) (x := a) (e := a) (o := exo a C none) (by rw [ea]; exact True.intro) (.inl rfl) k ⟨_, hx⟩ (exo_ok hx)
  have eu : upd H a (exo a C none) = H := by
    funext b
    by_cases hb : b = a
    · rw [hb, upd_same, ea]
    · rw [upd_ne hb]
  rw [eu] at J3
  exact h _ J3
end

/-! ### its __init__ -/
open NdefX (NF NScope ncx startF CellsAt envF inv_startN)
abbrev supStmt (p0 p1 p2 p3 p4 p5 : Pos) (m : Str) (j : Nat) : Stmt := .Expr (.Call (.Attribute (.Call (.Name "super" p0) [] [] p1) "__init__" p2) [.Constant (.str m) j p3] [] p4) p5
abbrev supNF (name qual : Str) (params : Arguments) (body : List Stmt) (scope : Scope) (cc cda : Addr) : NF := { name := name, qual := qual, params := params, body := body, scope := scope, cl := [("__class__", cc)], c := cda }
theorem fn_sup {CX : CXT} {P : Program} {w : World} {K : PySem.W.Frag} {mg : Str → Option Value} {base : Heap} {k : Nat} {f C cc cda : Addr} {name qual m : Str} {params : Arguments} {rest : List Stmt} {scope : Scope} {dV kV doc pm ct oc : Value} {an od : Option Addr}
    {osl : Array (Option Value)} {N ps : List Str} {sp : Sp} {ar : Arg} {j : Nat} {p0 p1 p2 p3 p4 p5 : Pos} (T : SupC P K C cc cda)
    (lk : K.lookup f = some ⟨oc, od, .func (PySem.W.fnX name qual params (supStmt p0 p1 p2 p3 p4 p5 m j :: rest) scope [("__class__", cc)] dV kV doc pm an (.ref cda) ct), osl⟩) (hcd : PySem.W.codeIn K (.ref cda) qual = true)
    (S : NScope N ps ["__class__"] scope) (hmg : mg "super" = none) (hks : scope.names.lookup ("super" : Str) = some .globalImplicit) (hp : (params.posonlyargs ++ params.args).head? = some ar) (har : ar.arg = ("self" : Str)) (hN : N[0]? = some ("self" : Str))
    (hka : scope.names.lookup ("self" : Str) = some .local) (hc : ∀ env : Env, ∃ pl, SupEv env p0 p1 p2 p3 p4 m j pl)
    (len : ∀ vs H Q E, sp vs H Q E → vs.length = ps.length)
    (hbody : ∀ (A : Around) (outer : List Env) (s : Shared) (H : Hp) (vs : List V) (Q : VK) (E : XK), sp vs H Q E →
      ∃ (a : Addr) (ys : List V) (t : TS), vs = V.ref a :: ys ∧ H a = some (exo a C none) ∧ PSs (ncx CX P w K mg base N (supNF name qual params (supStmt p0 p1 p2 p3 p4 p5 m j :: rest) scope cc cda) f A outer s H E) rest t ∧
        t { nx := fun _ H' => Q .non H', rt := Q } (startF N vs [some (V.ref C)]) H) :
    FnOk P w K mg base CX (k + 1) f (PySem.W.fnX name qual params (supStmt p0 p1 p2 p3 p4 p5 m j :: rest) scope [("__class__", cc)] dV kV doc pm an (.ref cda) ct) ps sp := by
  refine ⟨len, fun A outer s H args us vs Q E hr e0 hb r hsp => ?_⟩
  have hl := len _ _ _ _ hsp
  have KX : K.In s.heap := e0.mod.kin.keeps fun b o e => (e0.bs b o e).1
  have lim : s.heap.NoLimit := e0.mod.nolimit.keeps fun b o e => (e0.bs b o e).1
  obtain ⟨c1, c2, c3, hcell⟩ := T.cell
  have CA : CellsAt [("__class__", cc)] ["__class__"] [some (V.ref C)] s.heap H := by
    have hcc := e0.bs _ _ (e0.mod.kin _ _ hcell)
    refine ⟨rfl, fun y c e => ?_, fun x y c ex ey => ?_, fun i y e => ?_⟩
    · have hy : c = cc := by
        simp only [List.lookup] at e
        split at e
        · exact (Option.some.inj e).symm
        · cases e
      subst hy
      exact ⟨hcc.2, _, _, hcc.1, rfl⟩
    · simp only [List.lookup] at ex ey
      split at ex
      · rename_i h1
        split at ey
        · rename_i h2
          rw [beq_iff_eq.mp h1, beq_iff_eq.mp h2]
        · cases ey
      · cases ex
    · cases i with
      | zero =>
        cases e
        refine ⟨cc, by simp [List.lookup], fun v ev => ?_⟩
        have ev : some (some (V.ref C)) = some (some v) := ev
        cases ev
        exact ⟨.ref C, rfl, _, hcc.1, rfl⟩
      | succ i => simp at e
  refine codeAny_call_function hr.depth (KX _ _ lk) rfl S.co S.gen rfl (PySem.W.codeRec_of KX hcd) (hb _ _ _ _ ?_)
  refine wpAny_newFunctionEnv S.nocell (fun ⟨n, _⟩ hy => S.par n (List.of_mem_zip hy).1) (fun h₁ hns hsb => ⟨lim.fresh _ hsb, ?_⟩) S.kind
  show codeAny _ _ (.func (supStmt p0 p1 p2 p3 p4 p5 m j :: rest) (envF (supNF name qual params (supStmt p0 p1 p2 p3 p4 p5 m j :: rest) scope cc cda) f s.heap.objs.size)) _ _
  refine ks_codeAny_funcAt ?_
  have kp : ∀ b o, s.heap.get? b = some o → h₁.get? b = some o := fun b o e => hsb.extBut b o (Nat.ne_of_lt (Heap.lt_size e)) (Heap.get?_push_of_some _ e)
  obtain ⟨a, ys, t, ev, ea, ht, hq⟩ := hbody A outer s H vs Q E hsp
  have I : Inv (ncx CX P w K mg base N (supNF name qual params (supStmt p0 p1 p2 p3 p4 p5 m j :: rest) scope cc cda) f A outer s H E) [] (startF N vs [some (V.ref C)]) H { s with heap := h₁, toks := s.toks + (ps.zip us).length } :=
    inv_startN (F := supNF name qual params (supStmt p0 p1 p2 p3 p4 p5 m j :: rest) scope cc cda) S hr.hd e0 hl r CA hns kp
  obtain ⟨pl, hc⟩ := hc (envF (supNF name qual params (supStmt p0 p1 p2 p3 p4 p5 m j :: rest) scope cc cda) f s.heap.objs.size)
  have fin : ∀ {σ' : L2.St} {H' : Hp} {v : V} {u : Value} {s' : Shared}, Inv (ncx CX P w K mg base N (supNF name qual params (supStmt p0 p1 p2 p3 p4 p5 m j :: rest) scope cc cda) f A outer s H E) [] σ' H' s' → L2.RelV v u → Q v H' → CE outer P w H s Q u s' :=
    fun {σ' H' v u s'} J rv q => ⟨v, H', J.os, J.bare, J.base, J.hok, rv, q⟩
  refine ks_wpAt_execs_cons (sup_stmt (X := ncx CX P w K mg base N (supNF name qual params (supStmt p0 p1 p2 p3 p4 p5 m j :: rest) scope cc cda) f A outer s H E) (σ := startF N vs [some (V.ref C)]) (H := H) (pins := []) T hks hmg (S.frk _ List.mem_cons_self) (by show List.lookup _ [_] = _; simp [List.lookup]) rfl rfl ⟨_, _, _, lk⟩ hp har hka hN (by subst ev; rfl) I ea (fun s' J => ?_) hc)
  refine wpAt_of_wpAny (wpAny_mono (ht.run [] s' _ H _ J hq) (fun fl s' hs => ?_) fun e s' hs => hs)
  cases fl with
  | ret u =>
    obtain ⟨v, σ', H', J, rv, q⟩ := hs
    exact fin J rv q
  | next =>
    obtain ⟨σ', H', J, q⟩ := hs
    exact fin (v := V.non) (u := Value.none) J rfl q
  | brk =>
    obtain ⟨_, _, _, q⟩ := hs
    exact False.elim q
  | cont =>
    obtain ⟨_, _, _, q⟩ := hs
    exact False.elim q

/-- what it promises: the fields stand in a new dict -/
def spX (C : Addr) (fls : List Str) : Sp := fun vs H Q _ => ∃ (a : Addr) (ys : List V), vs = .ref a :: ys ∧ ys.length = fls.length ∧ H a = some (exo a C none) ∧
  ∀ (dx : Addr) (H' : Hp), H dx = none → dx ≠ a → H' a = some (exo a C (some dx)) → H' dx = some (exd dx (fls.zip ys).reverse) → (∀ b, b ≠ a → b ≠ dx → H' b = H b) → Q .non H'
section
variable {CX : CXT} {P : Program} {w : World} {K : PySem.W.Frag} {mg : Str → Option Value} {base : Heap} {k : Nat} {f C cc cda : Addr} {name qual m x1 x2 f1 f2 : Str} {params : Arguments} {scope : Scope} {dV kV doc pm ct oc : Value} {an od : Option Addr}
    {osl : Array (Option Value)} {ar : Arg} {j : Nat} {p0 p1 p2 p3 p4 p5 q1 q2 q3 q4 q5 q6 q7 q8 : Pos}
abbrev setSt (f1 x1 : Str) (q1 q2 q3 q4 : Pos) : Stmt := .Assign [.Attribute (.Name "self" q1) f1 q2] (.Name x1 q3) q4
theorem fn_sup1 (T : SupC P K C cc cda)
    (lk : K.lookup f = some ⟨oc, od, .func (PySem.W.fnX name qual params (supStmt p0 p1 p2 p3 p4 p5 m j :: [setSt f1 x1 q1 q2 q3 q4]) scope [("__class__", cc)] dV kV doc pm an (.ref cda) ct), osl⟩) (hcd : PySem.W.codeIn K (.ref cda) qual = true)
    (S : NScope ["self", x1, "__class__"] ["self", x1] ["__class__"] scope) (hmg : mg "super" = none) (hks : scope.names.lookup ("super" : Str) = some .globalImplicit) (hp : (params.posonlyargs ++ params.args).head? = some ar) (har : ar.arg = ("self" : Str))
    (hc : ∀ env : Env, ∃ pl, SupEv env p0 p1 p2 p3 p4 m j pl) (n1 : PySem.W.findIn K (.ref C) f1 = some none) (d1 : (x1 == ("__debug__" : Str)) = false) (c1 : (x1 == ("__classdict__" : Str)) = false) :
    FnOk P w K mg base CX (k + 1) f (PySem.W.fnX name qual params (supStmt p0 p1 p2 p3 p4 p5 m j :: [setSt f1 x1 q1 q2 q3 q4]) scope [("__class__", cc)] dV kV doc pm an (.ref cda) ct) ["self", x1] (spX C [f1]) := by
  refine fn_sup T lk hcd S hmg hks hp har rfl (S.par _ (by simp)) hc (fun vs H Q E ⟨a, ys, ev, el, _⟩ => by rw [ev]; simp [el]) (fun A outer s H vs Q E ⟨a, ys, ev, el, ea, hq⟩ => ?_)
  obtain ⟨y, rfl⟩ : ∃ y, ys = [y] := by
    match ys, el with
    | [y], _ => exact ⟨y, rfl⟩
  subst ev
  refine ⟨a, [y], _, rfl, ea, pss_one (ps_ost (pe_var (i := 0) rfl (.inl (S.par _ (by simp)))) (pe_var (i := 1) rfl (.inl (S.par _ (by simp))) d1 c1)), ?_⟩
  refine ⟨y, rfl, .ref a, rfl, a, C, rfl, T.oex, n1, .inl ⟨ea, fun dx n ne => ?_⟩⟩
  exact hq dx _ n ne upd_same (by rw [upd_ne ne, upd_same]; rfl) fun b h1 h2 => by rw [upd_ne h1, upd_ne h2]
theorem fn_sup2 (T : SupC P K C cc cda)
    (lk : K.lookup f = some ⟨oc, od, .func (PySem.W.fnX name qual params (supStmt p0 p1 p2 p3 p4 p5 m j :: [setSt f1 x1 q1 q2 q3 q4, setSt f2 x2 q5 q6 q7 q8]) scope [("__class__", cc)] dV kV doc pm an (.ref cda) ct), osl⟩) (hcd : PySem.W.codeIn K (.ref cda) qual = true)
    (S : NScope ["self", x1, x2, "__class__"] ["self", x1, x2] ["__class__"] scope) (hmg : mg "super" = none) (hks : scope.names.lookup ("super" : Str) = some .globalImplicit) (hp : (params.posonlyargs ++ params.args).head? = some ar) (har : ar.arg = ("self" : Str))
    (hc : ∀ env : Env, ∃ pl, SupEv env p0 p1 p2 p3 p4 m j pl) (n1 : PySem.W.findIn K (.ref C) f1 = some none) (n2 : PySem.W.findIn K (.ref C) f2 = some none) (d1 : (x1 == ("__debug__" : Str)) = false) (c1 : (x1 == ("__classdict__" : Str)) = false)
    (d2 : (x2 == ("__debug__" : Str)) = false) (c2 : (x2 == ("__classdict__" : Str)) = false) :
    FnOk P w K mg base CX (k + 1) f (PySem.W.fnX name qual params (supStmt p0 p1 p2 p3 p4 p5 m j :: [setSt f1 x1 q1 q2 q3 q4, setSt f2 x2 q5 q6 q7 q8]) scope [("__class__", cc)] dV kV doc pm an (.ref cda) ct) ["self", x1, x2] (spX C [f1, f2]) := by
  refine fn_sup T lk hcd S hmg hks hp har rfl (S.par _ (by simp)) hc (fun vs H Q E ⟨a, ys, ev, el, _⟩ => by rw [ev]; simp [el]) (fun A outer s H vs Q E ⟨a, ys, ev, el, ea, hq⟩ => ?_)
  obtain ⟨y, z, rfl⟩ : ∃ y z, ys = [y, z] := by
    match ys, el with
    | [y, z], _ => exact ⟨y, z, rfl⟩
  subst ev
  refine ⟨a, [y, z], _, rfl, ea, pss_cons (ps_ost (pe_var (i := 0) rfl (.inl (S.par _ (by simp)))) (pe_var (i := 1) rfl (.inl (S.par _ (by simp))) d1 c1))
    (pss_one (ps_ost (pe_var (i := 0) rfl (.inl (S.par _ (by simp)))) (pe_var (i := 2) rfl (.inl (S.par _ (by simp))) d2 c2))), ?_⟩
  refine ⟨y, rfl, .ref a, rfl, a, C, rfl, T.oex, n1, .inl ⟨ea, fun dx n ne => ?_⟩⟩
  refine ⟨z, rfl, .ref a, rfl, a, C, rfl, T.oex, n2, .inr ⟨dx, [(f1, y)], upd_same, by rw [upd_ne ne, upd_same], by simp, ?_⟩⟩
  exact hq dx _ n ne (by rw [upd_ne (Ne.symm ne), upd_same]) (by rw [upd_same]; rfl) fun b h1 h2 => by rw [upd_ne h2, upd_ne h1, upd_ne h2]
end
end Den

set_option Elab.async false
set_option linter.all false
set_option maxRecDepth 100000
set_option maxHeartbeats 4000000
/-! raise X(e, ..) of a class with own __init__ -/
namespace Den
variable {hox : Option Addr}
open PySem PySem.Spec PyProof.Rows L2
theorem repF_app {K : PySem.W.Frag} {mg : Str → Option Value} {G : Hp} : ∀ {xs ys : List (Str × V)} {ds es : List (Str × D)}, RepF K mg G xs ds → RepF K mg G ys es → RepF K mg G (xs ++ ys) (ds ++ es)
  | _, _, _, _, .nil, h => h
  | _, _, _, _, .cons r t, h => .cons r (repF_app t h)
theorem repF_rev {K : PySem.W.Frag} {mg : Str → Option Value} {G : Hp} : ∀ {xs : List (Str × V)} {ds : List (Str × D)}, RepF K mg G xs ds → RepF K mg G xs.reverse ds.reverse
  | _, _, .nil => .nil
  | _, _, .cons r t => by
    rw [List.reverse_cons, List.reverse_cons]
    exact repF_app (repF_rev t) (.cons r .nil)
theorem repF_zip {K : PySem.W.Frag} {mg : Str → Option Value} {G : Hp} : ∀ {fls : List Str} {ys : List V} {ds : List D}, RepL K mg G ys ds → RepF K mg G (fls.zip ys) (fls.zip ds)
  | [], _, _, _ => by simp; exact .nil
  | _ :: _, _, _, .nil => by simp; exact .nil
  | _ :: _, _, _, .cons r t => .cons r (repF_zip t)
theorem repL_len {K : PySem.W.Frag} {mg : Str → Option Value} {G : Hp} : ∀ {ys : List V} {ds : List D}, RepL K mg G ys ds → ys.length = ds.length
  | _, _, .nil => rfl
  | _, _, .cons _ t => by simp [repL_len t]
/-- the object that C(e, ..) makes while nothing is handled: its context is None -/
theorem mk_oexN {CX : CXT} {X : Cx} {k : Nat} {C f : Addr} {fd : FuncData} {ps : List Str} {sp : Sp} {e : Expr} {es : List Expr} {ta : TA} {x : Str} {p pos : Pos} (T : OexC X.K C) (iC : PySem.W.findIn X.K (.ref C) "__init__" = some (some (.ref f)))
    (tI : PySem.W.typeIn X.K (.ref f) = some (.type "function")) (F1 : FnOk X.prog X.w X.K X.mg X.base CX k f fd ps sp) (hr : Room (k + 1) X.A) (hb : Binds X.K fd ps []) (out : Passes CX X (fun _ _ _ => False)) (hg : Gl X x) (hm : X.mg x = some (.ref C)) (ha : PA X (e :: es) ta)
    (hdb : (x == ("__debug__" : Str)) = false) (he : starEach (e :: es) X.env = (false, eval e X.env) :: starEach es X.env) (hpl : (backTo pos (starEach es X.env)).any (·.1) = false) : L2N.PMk X (.Call (.Name x p) (e :: es) [] pos) (tMkO C sp [] ta) := by
  rintro pins s σ H Q I wish
  obtain ⟨_, _, _, _, bm, _, _, _, _, _, _, _, _, _, _, atC, rf⟩ := T.cls
  refine wpAny_Call_Name_kw (ld_glob I hg hm (PySem.W.callWith_K (h₀ := X.base) I.ok.mod.kin T.kC (thn (ha.run pos pins s σ H _ I wish) ?_) he hpl) hdb)
  rintro us ⟨hp, g, dr, tk, os⟩ ⟨vs, H1, J, rv, small, q1⟩
  refine ⟨J.kIn, ?_⟩
  show wpAny _ _ (call (.ref C) us) _ _ _
  -- the new object, its address
  have fresh : hp.objs.size ≤ (hp.objs.size + 1) := Nat.le_succ _
  have hq := q1 (hp.objs.size + 1) (J.hok.fresh fresh)
  rw [List.append_nil] at hq
  have up : ∀ b o, hp.get? b = some o → ((hp.push (PySem.W.kdv_tup us)).push (PySem.HandSPX.excO C hp.objs.size)).get? b = some o :=
    fun b o z => Heap.get?_push_of_some _ (Heap.get?_push_of_some _ z)
  have J2 : Inv X pins σ (upd H1 (hp.objs.size + 1) (exo (hp.objs.size + 1) C none)) ⟨(hp.push (PySem.W.kdv_tup us)).push (PySem.HandSPX.excO C hp.objs.size), g, dr, tk, os⟩ := by
    have there : ((hp.push (PySem.W.kdv_tup us)).push (PySem.HandSPX.excO C hp.objs.size)).get? (hp.objs.size + 1) = some (PySem.HandSPX.excO C hp.objs.size) := by
      heap_get
    exact J.laid (t' := tk) (a := (hp.objs.size + 1)) (o := exo (hp.objs.size + 1) C none) up fresh (exo_ok there)
  have rs : Vals (V.ref (hp.objs.size + 1) :: vs) (Value.ref (hp.objs.size + 1) :: us) := .cons rfl rv
  have len : (Value.ref (hp.objs.size + 1) :: us).length = ps.length := rs.length.symm.trans (F1.len _ _ _ _ hq)
  have few : us.length ≤ sizeLine := by
    have := Paired.length rv
    rw [sizeLine_eq]; omega
  have bind := hb _ (Value.ref (hp.objs.size + 1) :: us) J2.kIn (by rw [List.append_nil]; exact len)
  rw [List.append_nil] at bind
  have body := F1.run _ X.stack _ _ ⟨Value.ref (hp.objs.size + 1) :: us, []⟩ (Value.ref (hp.objs.size + 1) :: us) _ _ (fun _ _ _ => False) (hr.make C us []) (J2.env0.make C us []) bind rs hq
  refine wpAny_call (PySem.HandSPX.call_own F.excBase_ValueError (fun Y => PySem.HandSPX.refsVE_contains Y bm rf) (J.kIn _ _ atC) (PySem.W.looks_findIn J.kIn iC) (fun self => PySem.W.bind_fn J.kIn self tI) few (codeAny_mono body ?_))
  rintro (er | fl) s' z
  · exact out pins σ _ _ er s' J2 z
  · cases fl with
    | ret u =>
      obtain ⟨v, H2, os2, bare2, un2, hok2, ru, rfl, d, fs, ea, ed, hd1, q2⟩ := z
      obtain ⟨h2, g2, d2, t2, os'⟩ := s'
      obtain ⟨t0, G, J3, kG, ge, hoe, na⟩ := mk_end0 (d2 := d2) (t2 := t2) J fresh up un2 hok2 os2 bare2 ea ed hd1
      exact ⟨ru, (hp.objs.size + 1), _, _, ⟨G, g2, d2, t2, os'⟩, _, .ref C, some d, rfl, J3, kG, ge, hoe, ⟨rfl, rfl, fun ws hv => by cases hv; rfl⟩, rfl, rfl, na, rfl, bare2, raises_own T.exC T.tyC, q2⟩
    | _ => exact z.elim
def mRaiseX (cn : Str) (fls : List Str) (ml : ML) : MS := fun s => (ml s).bind fun ds s1 => if ds.length = fls.length then .exc ⟨cn, (fls.zip ds).reverse⟩ s1 else .bad
section
variable {X : Cx} {W : WX} {k : Nat} {C f : Addr} {fd : FuncData} {ps fls : List Str} {e : Expr} {es : List Expr} {ml : ML} {x : Str} {p pos rpos : Pos}
theorem ss_raiseX (hc : X.calm = true) (tk : L2N.Takes X W) (T : OexC X.K C) (iC : PySem.W.findIn X.K (.ref C) "__init__" = some (some (.ref f))) (tI : PySem.W.typeIn X.K (.ref f) = some (.type "function"))
    (F1 : FnOk X.prog X.w X.K X.mg X.base (L2N.CX X.prog X.w) k f fd ps (spX C fls)) (hl : fls.length ≤ 900) (hr : Room (k + 1) X.A) (hb : Binds X.K fd ps []) (hm : X.mg x = some (.ref C)) (ha : SL hox X W (e :: es) ml) (hg : Gl X x := by rfl) (hdb : (x == ("__debug__" : Str)) = false := by decide)
    (he : starEach (e :: es) X.env = (false, eval e X.env) :: starEach es X.env := by rfl) (hpl : (backTo pos (starEach es X.env)).any (·.1) = false := by rfl) :
    SS hox X W (.Raise (some (.Call (.Name x p) (e :: es) [] pos)) none rpos) (mRaiseX x fls ml) :=
  PS.imp (L2N.ps_raise hc tk (mk_oexN T iC tI F1 hr hb (fun pins σ H s e s' I h => (cx_never h).elim) hg hm ha hdb he hpl)) fun D σ H ⟨c, s, st, q⟩ => ⟨c, s, st, (ResS.split q).imp fun ds s1 H1 g q1 ys ry => by
    by_cases z : ds.length = fls.length
    · rw [if_pos z] at q1
      have ly := repL_len ry
      refine ⟨by rw [ly, z]; omega, fun a na => ⟨a, ys, by rw [List.append_nil], by rw [ly, z], upd_same, fun dx H2 nd ne e1 e2 e3 => ?_⟩⟩
      have nd1 : H1 dx = none := by rw [upd_ne ne] at nd; exact nd
      have eq : upd (del H2 a) dx (.xd (fls.zip ys).reverse) = upd H1 dx (.xd (fls.zip ys).reverse) := by
        funext b
        by_cases b1 : b = dx
        · rw [b1, upd_same, upd_same]
        · rw [upd_ne b1, upd_ne b1]
          by_cases b2 : b = a
          · rw [b2, del_same, na]
          · rw [del_ne b2, e3 b b2 b1, upd_ne b2]
      refine ⟨rfl, dx, _, e1, e2, nd1, ?_⟩
      rw [eq]
      have gr := Go.grow (H' := upd H1 dx (.xd (fls.zip ys).reverse)) g.1 (same_new nd1)
      refine q1 (.ref C) (some dx) σ _ gr ⟨⟨C, rfl, hm⟩, .inr ⟨dx, _, rfl, by rw [vis, hid_no (g.1.newHid nd1)]; exact upd_same, repF_rev (repF_zip (ry.mono gr.2))⟩⟩
    · rw [if_neg z] at q1
      exact q1.elim⟩
end
end Den
namespace Den
open PySem PySem.Spec PyProof.Rows L2
open NdefX (NScope)
/-- what the written part says of such a class and its __init__ -/
structure SupF (P : Program) (K : PySem.W.Frag) (mg : Str → Option Value) (qual : Str) (st : Stmt) (C f : Addr) (fd : FuncData) : Prop where
  ex : ∃ (cc cda : Addr) (oc : Value) (od : Option Addr) (kV doc pm : Value) (an : Option Addr) (ct : Value) (osl : Array (Option Value)), SupC P K C cc cda ∧
    fd = PySem.W.fnX "__init__" qual (defArgs st) (defBody st) (defScope st) [("__class__", cc)] .none kV doc pm an (.ref cda) ct ∧ K.lookup f = some ⟨oc, od, .func fd, osl⟩ ∧ PySem.W.codeIn K (.ref cda) qual = true
  oex : OexC K C
  ini : PySem.W.findIn K (.ref C) "__init__" = some (some (.ref f))
  ty : PySem.W.typeIn K (.ref f) = some (.type "function")
  sp : mg "super" = none
section
variable {P : Program} {w : World} {K : PySem.W.Frag} {mg : Str → Option Value} {base : Heap} {qual m x1 x2 f1 f2 : Str} {st : Stmt} {C f : Addr} {fd : FuncData} {j : Nat} {p0 p1 p2 p3 p4 p5 q1 q2 q3 q4 q5 q6 q7 q8 : Pos} {ar : Arg} {ps : List Str}
theorem SupF.binds (F : SupF P K mg qual st C f fd)
    (h : ∀ (cc : Addr) (kV doc pm : Value) (an : Option Addr) (cdv ct : Value) (us : List Value), us.length = ps.length → bindArgs (PySem.W.fnX "__init__" qual (defArgs st) (defBody st) (defScope st) [("__class__", cc)] .none kV doc pm an cdv ct) ⟨us, []⟩ = pure (ps.zip us)) : Binds K fd ps [] := by
  obtain ⟨cc, cda, oc, od, kV, doc, pm, an, ct, osl, _, rfl, _, _⟩ := F.ex
  exact .all (h cc kV doc pm an _ ct)
theorem SupF.ok1 (F : SupF P K mg qual st C f fd) (hb : defBody st = supStmt p0 p1 p2 p3 p4 p5 m j :: [setSt f1 x1 q1 q2 q3 q4]) (S : NScope ["self", x1, "__class__"] ["self", x1] ["__class__"] (defScope st)) (hks : (defScope st).names.lookup ("super" : Str) = some .globalImplicit)
    (hp : ((defArgs st).posonlyargs ++ (defArgs st).args).head? = some ar) (har : ar.arg = ("self" : Str)) (hc : ∀ env : Env, ∃ pl, SupEv env p0 p1 p2 p3 p4 m j pl) (n1 : PySem.W.findIn K (.ref C) f1 = some none) (d1 : (x1 == ("__debug__" : Str)) = false) (c1 : (x1 == ("__classdict__" : Str)) = false) :
    FnOk P w K mg base (L2N.CX P w) 1 f fd ["self", x1] (spX C [f1]) := by
  obtain ⟨cc, cda, oc, od, kV, doc, pm, an, ct, osl, T, rfl, lk, hcd⟩ := F.ex
  rw [hb] at lk ⊢
  exact fn_sup1 T lk hcd S F.sp hks hp har hc n1 d1 c1
theorem SupF.ok2 (F : SupF P K mg qual st C f fd) (hb : defBody st = supStmt p0 p1 p2 p3 p4 p5 m j :: [setSt f1 x1 q1 q2 q3 q4, setSt f2 x2 q5 q6 q7 q8]) (S : NScope ["self", x1, x2, "__class__"] ["self", x1, x2] ["__class__"] (defScope st)) (hks : (defScope st).names.lookup ("super" : Str) = some .globalImplicit)
    (hp : ((defArgs st).posonlyargs ++ (defArgs st).args).head? = some ar) (har : ar.arg = ("self" : Str)) (hc : ∀ env : Env, ∃ pl, SupEv env p0 p1 p2 p3 p4 m j pl) (n1 : PySem.W.findIn K (.ref C) f1 = some none) (n2 : PySem.W.findIn K (.ref C) f2 = some none)
    (d1 : (x1 == ("__debug__" : Str)) = false) (c1 : (x1 == ("__classdict__" : Str)) = false) (d2 : (x2 == ("__debug__" : Str)) = false) (c2 : (x2 == ("__classdict__" : Str)) = false) :
    FnOk P w K mg base (L2N.CX P w) 1 f fd ["self", x1, x2] (spX C [f1, f2]) := by
  obtain ⟨cc, cda, oc, od, kV, doc, pm, an, ct, osl, T, rfl, lk, hcd⟩ := F.ex
  rw [hb] at lk ⊢
  exact fn_sup2 T lk hcd S F.sp hks hp har hc n1 n2 d1 c1 d2 c2
end
end Den

set_option Elab.async false
set_option linter.all false
set_option maxRecDepth 100000
set_option maxHeartbeats 4000000
/-! except X as n: y = (.. n.f ..) -/
namespace Den
variable {hox : Option Addr}
open PySem PySem.Spec PyProof.Rows L2
/-- an expression of the suite: what it makes of the exception -/
def SE (X : Cx) (i : Nat) (e : Expr) (g : Exc → Option D) : Prop := ∃ te : Addr → Value → Option Addr → TE,
  (∀ (a : Addr) (oe : Obj) (cls : Value) (d : Option Addr) (pn : List (Addr × Obj)), Zc cls d oe → (∃ vs, oe.data = .fields vs) → PE (X.suite a ((a, oe) :: pn)) e (te a cls d)) ∧
  ∀ (h : Addr → Prop) (a : Addr) (cls : Value) (d : Option Addr) (σ : St) (H : Hp) (x : Exc) (z : D) (Q : VK), (∀ p, h p → ∃ o, H p = some o) → σ[i]? = some (some (V.ref a)) → ExcR X.K X.mg (hid h H) cls d x → g x = some z →
    (∀ v H', Same H H' → Rep X.K X.mg (hid h H') v z → Q v H') → te a cls d σ H Q
def xFld (cn fl : Str) : Exc → Option D := fun x => if x.c = cn then x.fs.lookup fl else none
def xK (d : D) : Exc → Option D := fun _ => some d
def xTup2 (g1 g2 : Exc → Option D) : Exc → Option D := fun x => match g1 x, g2 x with
  | some a, some b => some (.tup [a, b])
  | _, _ => none
section
variable {X : Cx} {W : WX} {i jx : Nat} {n cn fl y cx : Str} {C : Addr} {p p1 p2 p3 p4 np pos pos' : Pos} {e e1 e2 : Expr} {g g1 g2 : Exc → Option D}
/-- the name's slot empty, the target written -/
def asEnd (i jx : Nat) (z : D) (s1 : S) : Out Fl := if (free s1 i && (free (s1.set i none) jx && free ((s1.set i none).set jx (some (.val z))) i)) = true then .ok .nx (((s1.set i none).set jx (some (.val z))).set i none) else .bad
def mTryAs (t : Str → Option Bool) (mb : MS) (i jx : Nat) (g : Exc → Option D) : MS := fun s => match mb s with
  | .exc x s1 => match t x.c with
    | some true => match g x with
      | some z => asEnd i jx z s1
      | none => .bad
    | some false => .exc x s1
    | none => .bad
  | o => o
end
end Den

set_option Elab.async false
set_option linter.all false
set_option maxRecDepth 100000
set_option maxHeartbeats 4000000
/-! isinstance(x, an own class) and own == where the other side may be a tuple; len of an own object -/
namespace Den
variable {hox : Option Addr}
open PySem PySem.Spec PyProof.Rows L2
def gIsiD (cn : Str) (d : D) : Option D := match d with
  | .obj c _ => if c = cn then some (.bl true) else none
  | .tup _ => some (.bl false)
  | _ => none
def mIsiD (cn : Str) (m : MD) : MD := mUn (gIsiD cn) m
section
variable {X : Cx} {W : WX} {C f : Addr} {e : Expr} {p py pos : Pos} {m : MD} {y : Str}
end
/-- what stands at the right of the own == -/
def RhsOk (C : Addr) (H : Hp) (y : V) : Prop := ∃ b, y = .ref b ∧ ((∃ dy gs, H b = some (.ins C dy gs)) ∨ ∃ ys, H b = some (.tup ys))
def rEqOT (K : PySem.W.Frag) (mg : Str → Option Value) (C : Addr) (F : FP) : R2 := fun x y H Q => ∃ a dx fs, x = .ref a ∧ H a = some (.ins C dx fs) ∧ RhsOk C H y ∧
  spP K mg 2 F [x, y] H (fun v H' => (∃ k, v = .bl k) ∧ Q v H') (fun _ _ _ => False)
def isOT (cn : Str) : D → Bool
  | .obj c _ => decide (c = cn)
  | .tup _ => true
  | _ => false
def gEqOT (cn : Str) (F : FP) (x y : D) : Option D := if (isOb cn x && isOT cn y) = true then match F [x, y] with
  | .ok (.val (.bl b)) _ => some (.bl b)
  | _ => none
  else none
section
variable {X : Cx} {k : Nat} {C f : Addr} {fd : FuncData} {ps : List Str} {F : FP}
end

/-- len of an own object -/
def rLenO (K : PySem.W.Frag) (mg : Str → Option Value) (C : Addr) (F : FP) : List V → Hp → VK → Prop := fun xs H Q => ∃ a dx fs, xs = [.ref a] ∧ H a = some (.ins C dx fs) ∧
  spP K mg 1 F [.ref a] H (fun v H' => (∃ n, v = .int n ∧ 0 ≤ n ∧ n < 4611686018427387904) ∧ Q v H') (fun _ _ _ => False)
def gLenO (cn : Str) (F : FP) : List D → Option D
  | [x] => if isOb cn x = true then match F [x] with
    | .ok (.val (.int n)) _ => if 0 ≤ n ∧ n < 4611686018427387904 then some (.int n) else none
    | _ => none
    else none
  | _ => none
section
variable {X : Cx} {k : Nat} {C f : Addr} {fd : FuncData} {ps : List Str} {F : FP}
end
end Den

set_option Elab.async false
set_option linter.all false
set_option maxRecDepth 100000
set_option maxHeartbeats 4000000
/-! text * int -/
namespace Den
variable {hox : Option Addr}
open PySem PySem.Spec PyProof.Rows L2
def strRep (a : Str) (k : Nat) : Str := ⟨(List.replicate k a.cps).foldl (· ++ ·) #[]⟩
def rMulS : R2 := fun x y H Q => ∃ a k, x = .str a ∧ y = .int k ∧ 2 ≤ k ∧ k ≤ 100 ∧ 1 ≤ a.length ∧ a.length ≤ 1000 ∧ Q (.str (strRep a k.toNat)) H
def gMulS : D → D → Option D
  | .str a, .int k => if (decide (2 ≤ k) && decide (k ≤ 100) && decide (1 ≤ a.length) && decide (a.length ≤ 1000)) = true then some (.str (strRep a k.toNat)) else none
  | _, _ => none
end Den

set_option Elab.async false
set_option linter.all false
set_option maxRecDepth 100000
set_option maxHeartbeats 4000000
/-! x in a constant dict, x any text -/
namespace Den
variable {hox : Option Addr}
open PySem PySem.Spec PyProof.Rows L2
/-- the dict's keys are all in the table -/
def keysB (K : PySem.W.Frag) (a : Addr) (tb : Tb) : Bool := match K.lookup a with
  | some ⟨_, _, .dict es _, _⟩ => es.toList.all fun e => match e.key with
    | .str k _ => (tb.lookup k).isSome && !e.refKey
    | _ => false
  | _ => false
def mKInA (neg : Bool) (tb : Tb) (m : MD) : MD := fun s => (m s).bind fun d s1 => match d with
  | .str z => match tb.lookup z with
    | some r => .ok (.bl (if neg = true then !r.isSome else r.isSome)) s1
    | none => .ok (.bl (if neg = true then true else false)) s1
  | _ => .bad
section
variable {X : Cx} {W : WX} {a : Addr} {tb : Tb} {e : Expr} {m : MD} {x : Str} {p pos : Pos}
end
end Den

set_option Elab.async false
set_option linter.all false
set_option maxRecDepth 100000
set_option maxHeartbeats 4000000
/-! x != e, x an own list that stays own -/
namespace Den
variable {hox : Option Addr}
open PySem PySem.Spec PyProof.Rows L2
def mNeO (i : Nat) (m : MD) : MD := fun s => match Den.mutL s i with
  | none => .bad
  | some _ => (m s).bind fun y s1 => match Den.mutL s1 i with
    | none => .bad
    | some (_, ds) => o2 (gNe (.lst ds) y) s1
section
variable {X : Cx} {W : WX} {b : Expr} {m : MD} {y : Str} {py pos : Pos}
end
section
variable {X : Cx} {W : WX} {a : Addr} {tb : Tb} {e : Expr} {m : MD} {x : Str} {p pos : Pos}
end
end Den

set_option Elab.async false
set_option linter.all false
set_option maxRecDepth 100000
set_option maxHeartbeats 4000000
/-! except X as n, the exception held as a thing of its own: it may be handed to defs -/
namespace Den
variable {hox : Option Addr}
open PySem PySem.Spec PyProof.Rows L2
section
variable {X : Cx} {pins : List (Addr × Obj)} {σ : St} {H : Hp}
theorem Inv.inSuite (I : Inv X pins σ H s) (a : Addr) : Inv (X.suite a (X.pn ++ pins)) [] σ H s :=
  ⟨I.ok.suite _ _, I.os, I.bare, I.base, I.loc, I.cell, I.free, I.freeC, fun p hp => I.pin p (by simpa using hp), I.hok, I.len⟩
theorem Inv.offSuite {a : Addr} (I : Inv (X.suite a (X.pn ++ pins)) [] σ H s) (ok : X.Ok) : Inv X pins σ H s :=
  ⟨ok, I.os, I.bare, I.base, I.loc, I.cell, I.free, I.freeC, fun p hp => I.pin p (by simpa using hp), I.hok, I.len⟩
end
end Den

set_option Elab.async false
set_option linter.all false
set_option maxRecDepth 100000
set_option maxHeartbeats 4000000
/-! except X as n: .., clause by clause, the exception held -/
namespace Den
variable {hox : Option Addr}
open PySem PySem.Spec PyProof.Rows L2
/-- a clause: its class, its name's slot, its suite's wish -/
structure Cl where
  c : Value
  i : Nat
  ts : Addr → Obj → TS
/-- behind the suite the name is gone -/
def offN (D : Ends) (i : Nat) : Ends :=
  ⟨fun τ M => D.nx (τ.set i none) M, D.rt, fun τ M => D.bk (τ.set i none) M, fun τ M => D.ct (τ.set i none) M⟩
def wHeld (K : PySem.W.Frag) (W0 : WX) (D : Ends) : List Cl → WX
  | [] => W0
  | k :: r => fun cl dd τ M => ∃ b, PySem.W.exmOne K cl k.c = some b ∧
      (b = true → ∀ x oe, M x = none → L2N.Zn cl dd oe → (∃ vs, oe.data = .fields vs) →
        k.ts x oe (offN D k.i) (τ.set k.i (some (.ref x))) (upd M x (ExA x oe))) ∧
      (b = false → wHeld K W0 D r cl dd τ M)
inductive ClsOk (X : Cx) : List ExceptHandler → List Cl → Prop
  | nil : ClsOk X [] []
  | cons {y n : Str} {k : Cl} {st : Stmt} {more : List Stmt} {p1 p2 : Pos} {hds : List ExceptHandler} {l : List Cl} (hc : Names X y k.c) (hi : X.N[k.i]? = some n)
      (hl : X.env.kindOf n = some .local) (hsu : ∀ x oe pn, PSs (X.suite x pn) (st :: more) (k.ts x oe)) (r : ClsOk X hds l) :
      ClsOk X (.ExceptHandler (some (.Name y p1)) (some n) (st :: more) p2 :: hds) (k :: l)
section
variable {X : Cx} {body : List Stmt} {h0 : ExceptHandler} {hds : List ExceptHandler} {l : List Cl} {pos : Pos} {tb : WX → TS} {W0 : WX}
end
end Den

set_option Elab.async false
set_option linter.all false
set_option maxRecDepth 100000
set_option maxHeartbeats 4000000
/-! try: .. except X as n: .., each clause's suite whole, the exception a datum -/
namespace Den
variable {hox : Option Addr}
open PySem PySem.Spec PyProof.Rows L2
/-- a clause's mirror: which classes it takes, its name's slot, its suite -/
abbrev HC := (Str → Option Bool) × Nat × MS
def mOff (i : Nat) (s2 : S) (f : Fl) : Out Fl := match f with
  | .rt r => match r with
    | .val d => if free s2 i = true then .ok (.rt (.val d)) (s2.set i none) else .bad
    | _ => .bad
  | f => if free s2 i = true then .ok f (s2.set i none) else .bad
def mHdH : List HC → Exc → MS
  | [], x => fun s => .exc x s
  | k :: r, x => fun s => match k.1 x.c with
    | some true => if free s k.2.1 = true then match k.2.2 (s.set k.2.1 (some (.val (.exn x.c x.fs)))) with
        | .ok f s2 => mOff k.2.1 s2 f
        | _ => .bad
      else .bad
    | some false => mHdH r x s
    | none => .bad
def mTryH (b : MS) (l : List HC) : MS := fun s => match b s with
  | .exc x s1 => mHdH l x s1
  | o => o
/-- the suite's entry: the exception is there, and stays -/
def Ct.heat (c : Ct) (a : Addr) (oe : Obj) : Ct := { c with H0 := upd c.H0 a (ExA a oe) }
section
variable {K : PySem.W.Frag} {mg : Str → Option Value} {c : Ct} {s s2 : S} {σ τ : St} {H M : Hp} {D : Ends} {W : WX} {a : Addr} {oe : Obj}
theorem StR.heat (x : StR none K mg c s σ H) (ea : H a = some (ExA a oe)) (nh : ¬ hs c s σ a) (ct : CtxF oe) : StR (some a) K mg (c.heat a oe) s σ H := by
  have ne : ∀ {b : Addr}, hs c s σ b → b ≠ a := fun h z => nh (z ▸ h)
  have nA : ¬ c.A a := fun h => nh (.inl h)
  refine ⟨x.len, x.val, fun i o e => ?_, x.bor, x.brw, x.uni, x.bun, x.lnt, fun b o n e => ?_, fun p h => ?_, fun p ho e => ?_, fun b e => ?_⟩
  · obtain ⟨p, e1, n, r⟩ := x.own i o e
    refine ⟨p, e1, fun b f => ⟨(n b f).1, ?_⟩, r⟩
    show upd c.H0 a _ b = none
    rw [upd_ne (ne (.inr (.inr ⟨i, o, p, e, e1, f⟩)))]
    exact (n b f).2
  · by_cases z : b = a
    · subst z
      have e : upd c.H0 b (ExA b oe) b = some o := e
      rw [upd_same] at e
      rw [← e]; exact ea
    · have e : upd c.H0 a (ExA a oe) b = some o := e
      rw [upd_ne z] at e
      exact x.keep b o n e
  · obtain ⟨o, e⟩ := x.act p h
    refine ⟨o, ?_⟩
    show upd c.H0 a _ p = _
    rw [upd_ne (ne (.inl h))]; exact e
  · obtain ⟨h1, h2, h3, h4⟩ := x.tmp p ho e
    refine ⟨?_, h2, h3, h4⟩
    show upd c.H0 a _ p = none
    rw [upd_ne (ne (.inr (.inl ⟨ho, e⟩)))]; exact h1
  · cases e
    refine ⟨oe, upd_same, ct, fun h => ?_⟩
    obtain ⟨i, o, p, e1, e2, f⟩ := x.lnt a h
    obtain ⟨p', _, e4, k, _⟩ := x.bor i o e1
    rw [e2] at e4; cases e4
    exact nA (k a f).1
theorem StR.cool (x : StR (some a) K mg (c.heat a oe) s σ H) (na : c.H0 a = none) (ac : ∀ p, c.A p → ∃ o, c.H0 p = some o) : StR none K mg c s σ H := by
  have off : ∀ {b : Addr}, (c.heat a oe).H0 b = none → c.H0 b = none := fun {b} e => by
    have e : upd c.H0 a (ExA a oe) b = none := e
    by_cases z : b = a
    · subst z; exact na
    · rw [upd_ne z] at e; exact e
  refine ⟨x.len, x.val, fun i o e => ?_, x.bor, x.brw, x.uni, x.bun, x.lnt, fun b o n e => x.keep b o n ?_, ac, fun p ho e => ?_, fun b e => (by cases e)⟩
  · obtain ⟨p, e1, n, r⟩ := x.own i o e
    exact ⟨p, e1, fun b f => ⟨(n b f).1, off (n b f).2⟩, r⟩
  · show upd c.H0 a _ b = _
    rw [upd_ne (fun z => by rw [z, na] at e; cases e)]; exact e
  · obtain ⟨h1, h2, h3, h4⟩ := x.tmp p ho e
    exact ⟨off h1, h2, h3, h4⟩
theorem off_res {i : Nat} {r : Out Fl} (na : c.H0 a = none) (ac : ∀ p, c.A p → ∃ o, c.H0 p = some o) (h : match r with | .ok f s2 => ResS none K mg W c s σ H D (mOff i s2 f) | _ => False) : ResS (some a) K mg (fun _ _ _ _ => False) (c.heat a oe) s σ H (offN D i) r := by
  have off : ∀ {s2 : S} {τ : St} {M : Hp}, Go (some a) K mg (c.heat a oe) s σ H s2 τ M → Go none K mg c s σ H s2 τ M := fun g => ⟨g.1.cool na ac, g.2⟩
  cases r with
  | exc x s' => exact h.elim
  | bad => exact h.elim
  | ok f s2 =>
    simp only at h
    unfold mOff at h
    cases f with
    | nx =>
      by_cases e : free s2 i = true
      · simp only [e, if_true] at h
        exact fun τ M g => h _ _ ((off g).trans ((off g).1.put e none none (fun d e => by cases e) (.inr rfl)))
      · simp only [e] at h; exact h.elim
    | bk =>
      by_cases e : free s2 i = true
      · simp only [e, if_true] at h
        exact fun τ M g => h _ _ ((off g).trans ((off g).1.put e none none (fun d e => by cases e) (.inr rfl)))
      · simp only [e] at h; exact h.elim
    | ct =>
      by_cases e : free s2 i = true
      · simp only [e, if_true] at h
        exact fun τ M g => h _ _ ((off g).trans ((off g).1.put e none none (fun d e => by cases e) (.inr rfl)))
      · simp only [e] at h; exact h.elim
    | rt r =>
      cases r with
      | own o => exact h.elim
      | bor o => exact h.elim
      | val d =>
        by_cases e : free s2 i = true
        · simp only [e, if_true] at h
          refine fun v τ M g => h v (τ.set i none) M ?_
          have G := (off g.1).1.put e none none (fun d e => by cases e) (.inr rfl)
          exact ⟨(off g.1).trans G, Rep.mono G.2 g.2⟩
        · simp only [e] at h; exact h.elim
end
/-- the clauses held to the code -/
inductive HdOk (X : Cx) : List ExceptHandler → List HC → List Cl → Prop
  | nil : HdOk X [] [] []
  | cons {y n : Str} {c : Value} {t : Str → Option Bool} {i : Nat} {m : MS} {st : Stmt} {more : List Stmt} {p1 p2 : Pos} {hds : List ExceptHandler} {l : List HC} {ts : List Cl} (hc : Names X y c)
      (ht : ∀ n b, t n = some b → ∃ C, X.mg n = some (.ref C) ∧ PySem.W.exmOne X.K (.ref C) c = some b) (hi : X.N[i]? = some n) (hl : X.env.kindOf n = some .local)
      (hsu : ∀ x pn, SSs (some x) (X.suite x pn) W0 (st :: more) m) (r : HdOk X hds l ts) :
      HdOk X (.ExceptHandler (some (.Name y p1)) (some n) (st :: more) p2 :: hds) ((t, i, m) :: l) (⟨c, i, fun x _ => tS (some x) X.K X.mg W0 m⟩ :: ts)
theorem HdOk.ok {X : Cx} {hds : List ExceptHandler} {l : List HC} {ts : List Cl} (h : HdOk X hds l ts) : ClsOk X hds ts := by
  induction h with
  | nil => exact .nil
  | cons hc ht hi hl hsu r ih => exact .cons (k := ⟨_, _, _⟩) hc hi hl (fun x oe pn => hsu x pn) ih
theorem HdOk.wish {X : Cx} {hds : List ExceptHandler} {l : List HC} {ts : List Cl} (h : HdOk X hds l ts) {Wout : WX} {D : Ends} {x : Exc} {c : Ct} {s : S} {σ : St} {H : Hp} {cls : Value} {dd : Option Addr} (st : StR none X.K X.mg c s σ H)
    (r : ExcR X.K X.mg (vis c s σ H) cls dd x) (q : ResS none X.K X.mg Wout c s σ H D (mHdH l x s)) : wHeld X.K Wout D ts cls dd σ H := by
  induction h with
  | nil => exact q cls dd σ H (.refl st) r
  | @cons y n c0 t i m st0 more p1 p2 hds l ts hc ht hi hl hsu r0 ih =>
    unfold mHdH at q
    obtain ⟨⟨C, rfl, hC⟩, r2⟩ := id r
    cases e : t x.c with
    | none => simp only [e] at q; exact q.elim
    | some b =>
      obtain ⟨C', hC', hx⟩ := ht _ _ e
      rw [hC] at hC'; cases hC'
      refine ⟨b, hx, fun hb a oe na hz hf => ?_, fun hb => ?_⟩
      · subst hb
        simp only [e] at q
        by_cases fr : free s i = true
        · simp only [fr, if_true] at q
          have sm : Same H (upd H a (ExA a oe)) := same_new na
          have G1 := Go.grow st sm
          have nh : ¬ hs c s σ a := st.newHid na
          have hG : vis c s σ (upd H a (ExA a oe)) a = some (ExA a oe) := by
            show hid (hs c s σ) _ a = _
            rw [hid_no nh]; exact upd_same
          have ze : ExIs C dd oe := ⟨hz.1, hz.2.1, hf⟩
          have rx : Rep X.K X.mg (vis c s σ (upd H a (ExA a oe))) (.ref a) (.exn x.c x.fs) := by
            rcases (r.mono G1.2).2 with ⟨e1, e2⟩ | ⟨d, xs, e1, e2, e3⟩
            · rw [e1]; subst e2; exact .exn0 hC ze hG
            · subst e1; exact .exnD hC ze hG e2 e3
          have G2 := G1.1.put fr (some (.val (.exn x.c x.fs))) (some (V.ref a)) (fun d e => by cases e; exact ⟨_, rfl, rx⟩) (.inl ⟨_, rfl⟩)
          have G := G1.trans G2
          have na0 : c.H0 a = none := st.newBase na
          have nh2 : ¬ hs c (s.set i (some (.val (.exn x.c x.fs)))) (σ.set i (some (V.ref a))) a := fun z => by
            have k := G2.2
            have e0 : vis c (s.set i (some (.val (.exn x.c x.fs)))) (σ.set i (some (V.ref a))) (upd H a (ExA a oe)) a = some (ExA a oe) := k.ext a _ hG
            exact (hid_some e0).1 z
          refine ⟨c.heat a oe, _, G2.1.heat upd_same nh2 ⟨_, hf.choose_spec, hz.2.2 _ hf.choose_spec⟩, off_res (W := Wout) na0 st.act ?_⟩
          cases e2 : m (s.set i (some (.val (.exn x.c x.fs)))) with
          | ok f s2 =>
            rw [e2] at q
            exact ResS.after q G
          | exc y s' => rw [e2] at q; exact q.elim
          | bad => rw [e2] at q; exact q.elim
        · simp only [fr] at q; exact q.elim
      · subst hb
        simp only [e] at q
        exact ih q
section
variable {X : Cx} {W : WX} {pos : Pos}
end
end Den

set_option Elab.async false
set_option linter.all false
set_option maxRecDepth 100000
set_option maxHeartbeats 4000000
/-! a held exception: isinstance, its fields -/
namespace Den
variable {hox : Option Addr}
open PySem PySem.Spec PyProof.Rows L2
def excB (K : PySem.W.Frag) (D : Addr) : Bool :=
  decide (PySem.W.findIn K (.ref D) "__getattribute__" = some (some (.builtin "BaseException.__getattribute__"))) && (decide (PySem.W.findIn K (.ref D) "__getattr__" = some none) && (decide (PySem.W.subIn K (.ref D) (.type "BaseException") = some true) && (PySem.W.hasDictIn K D &&
  (decide (PySem.W.findIn K (.ref D) "__class__" = some (some (.builtin "object.__class__"))) && (decide (PySem.W.specialIn K (.builtin "object.__class__") "__get__" = some (some (.builtin "getset_descriptor.__get__"))) && (decide (PySem.W.takesIn K (.builtin "object.__class__") = some true) && decide (PySem.W.mroIn K D (.type "object") = some true)))))))
/-- the machine's thing: a held exception of class C -/
def XAt (H : Hp) (a C : Addr) : Prop := ∃ (dd : Option Addr) (oe : Obj), ExIs C dd oe ∧ H a = some (ExA a oe) ∧ ∀ d, dd = some d → ∃ fs, H d = some (.xd fs)
theorem XAt.inst {X : Cx} {pins : List (Addr × Obj)} {σ : St} {H : Hp} {s : Shared} {a C : Addr} (I : Inv X pins σ H s) (h : XAt H a C) : ∃ ox od, PySem.W.InstAt s.heap a ox C od := by
  obtain ⟨dd, oe, z, ea, hd⟩ := h
  have hget : s.heap.get? a = some oe := (I.hok a _ ea).1
  obtain ⟨vs, hv⟩ := z.data
  have nc : PySem.W.notCls oe := by unfold PySem.W.notCls; rw [hv] <;> rfl
  cases dd with
  | none => exact ⟨oe, none, hget, z.cls, nc, by rw [z.dict]; trivial⟩
  | some d =>
    obtain ⟨fs, hf⟩ := hd d rfl
    have hx : ObjOk X.prog X.w H s.heap d (.xd fs) := I.hok d _ hf
    obtain ⟨mA, hns, hr⟩ := hx
    obtain ⟨od, ho, hl⟩ := lookIn_ns hns
    exact ⟨oe, some od, hget, z.cls, nc, by rw [z.dict]; exact ho⟩
def rIsX (K : PySem.W.Frag) : List V → Hp → VK → Prop := fun xs H Q => ∃ (a D : Addr) (c : V) (cv : Value) (b : Bool), xs = [.ref a, c] ∧ ExcC K D ∧ XAt H a D ∧ (∀ u, RelV c u → u = cv) ∧ PySem.W.kitOne K (.ref D) cv = some b ∧ Q (.bl b) H
def gIsX (t : Str → Option Bool) (d : D) : Option D := match d with
  | .exn c _ => match t c with
    | some b => some (.bl b)
    | none => none
  | _ => none
def mIsX (t : Str → Option Bool) (m : MD) : MD := mUn (gIsX t) m
section
variable {X : Cx} {W : WX} {e : Expr} {p py pos : Pos} {m : MD} {y : Str} {t : Str → Option Bool}
/-! ### a field -/
def tXg (K : PySem.W.Frag) (n : Str) (te : TE) : TE := fun σ H Q => te σ H fun x H1 => ∃ (a C dd : Addr) (oe : Obj) (fs : List (Str × V)) (v : V), x = .ref a ∧ XfC K C ∧ PySem.W.findIn K (.ref C) n = some none ∧ ExIs C (some dd) oe ∧ H1 a = some (ExA a oe) ∧ H1 dd = some (.xd fs) ∧ fs.lookup n = some v ∧ Q v H1
def gXf (cl : Str → Bool) (fl : Str) (d : D) : Option D := match d with
  | .exn c fs => if cl c = true then fs.lookup fl else none
  | _ => none
def mXf (cl : Str → Bool) (fl : Str) (m : MD) : MD := mUn (gXf cl fl) m
end
end Den

set_option Elab.async false
set_option linter.all false
set_option maxRecDepth 100000
set_option maxHeartbeats 4000000
/-! where an exception is handled: a list comprehension over range(..), all(..) of a list -/
namespace Den
variable {hox : Option Addr}
open PySem PySem.Spec PyProof.Rows L2
/-- the handled exception is told in H, its context None -/
def Hot (a : Addr) (H : Hp) : Prop := ∃ oe, H a = some (ExA a oe) ∧ CtxF oe
theorem StR.isHot {a : Addr} {K : PySem.W.Frag} {mg : Str → Option Value} {c : Ct} {s : S} {σ : St} {H : Hp} (x : StR (some a) K mg c s σ H) : Hot a H := by
  obtain ⟨oe, e, k, n⟩ := x.hot a rfl
  exact ⟨oe, x.keep a _ n e, k⟩
theorem Hot.at {X : Cx} {pins : List (Addr × Obj)} {σ : St} {H : Hp} {s : Shared} {a : Addr} (h : Hot a H) (hh : X.A.handled = some (.ref a)) (I : Inv X pins σ H s) : HotX.HotAt X.A a s.heap := by
  obtain ⟨oe, e, vs, e1, e2⟩ := h
  exact ⟨hh, oe, vs, (I.hok a _ e).1, e1, e2⟩
/-- an iterator over 0, 1, .. -/
structure RgIt (X : Cx) (iter : Expr) (wi : TI) : Prop where
  run : ∀ (pins : List (Addr × Obj)) (s : Shared) (σ : St) (H : Hp) (R : It → Hp → Prop), Inv X pins σ H s → wi σ H R → wpAny (model X.prog X.w) X.A (eval iter X.env) (fun v s1 => wpAny (model X.prog X.w) X.A (pyIter v)
    (fun iv s2 => ∃ (q : Addr) (n : Nat) (H2 : Hp), iv = .ref q ∧ Inv X pins σ H2 s2 ∧ IsRangeIter s2.heap q 0 (n : Int) 1 ∧ FpOk X pins H2 q ∧ R (Itr 0 n) H2) X.xe s1) X.xe s
section
variable {X : Cx}
theorem RgIt.imp {iter : Expr} {t t' : TI} (h : RgIt X iter t) (i : ∀ σ H R, t' σ H R → t σ H R) : RgIt X iter t' := ⟨fun pins s σ H R I q => h.run pins s σ H R I (i σ H R q)⟩
end
section
variable {X : Cx}
end
/-! ### all(..) of a list -/
section
variable {prog : Program} {w : World} {A : Around} {E : Value → Shared → Prop} {s : Shared}
end
end Den

set_option Elab.async false
set_option linter.all false
set_option maxRecDepth 100000
set_option maxHeartbeats 4000000
/-! where an exception is handled: all(..), comprehensions, calls of defs -/
namespace Den
variable {hox : Option Addr}
open PySem PySem.Spec PyProof.Rows L2
section
variable {X : Cx} {a : Addr}
variable {W : WX} {e : Expr} {es : List Expr} {ml : ML} {p pos : Pos}
/-- what is not reached -/
def mDead {α : Type} : S → Out α := fun _ => .bad
/-! ### a comprehension over range(..) -/
abbrev SR (hox : Option Addr) (X : Cx) (W : WX) (iter : Expr) (m : MI) : Prop := RgIt X iter (tI hox X.K X.mg W m)
end
end Den

set_option Elab.async false
set_option linter.all false
set_option maxRecDepth 100000
set_option maxHeartbeats 4000000
/-! defs called where an exception is handled -/
namespace Den
variable {hox : Option Addr}
open PySem PySem.Spec PyProof.Rows L2
/-- what such a def promises; it lets no exception out -/
def FnT (P : Program) (w : World) (K : PySem.W.Frag) (mg : Str → Option Value) (base : Heap) (k : Nat) (f : Addr) (fd : FuncData) (ps : List Str) (n : Nat) (F : FP) : Prop :=
  ∀ (a : Addr) (A : Around) (outer : List Env) (s : Shared) (H : Hp) (args : Args) (us : List Value) (vs : List V) (Q : VK), L2H.RoomH k A → A.handled = some (.ref a) → Hot a H → Env0 P w K mg base A outer s H → BindsTo s fd args (ps.zip us) → Vals vs us →
    spP K mg n F vs H Q (fun _ _ _ => False) → codeAny (model P w) A (.call (.ref f) args) (fun r s' => ∃ u, r = .ok (.ret u) ∧ CE outer P w H s Q u s') s
/-- its body's context -/
def cxT (P : Program) (w : World) (K : PySem.W.Frag) (mg : Str → Option Value) (base : Heap) (N : List Str) (qual : Str) (scope : Scope) (f : Addr) (cd : Value) (A : Around) (outer : List Env) (s : Shared) (H : Hp) : Cx :=
  { cxOf (L2N.CX P w) P w K mg base N qual scope f cd A outer s H (fun _ _ _ => False) with calm := false, xe := fun _ _ => False }
section
variable {P : Program} {w : World} {K : PySem.W.Frag} {mg : Str → Option Value} {base : Heap} {k : Nat} {f : Addr} {fd : FuncData} {N ps : List Str} {x qual : Str} {st : Stmt} {m : MS} {n : Nat} {F : FP}
theorem FnT.mono {j : Nat} (h : FnT P w K mg base j f fd ps n F) (l : j ≤ k) : FnT P w K mg base k f fd ps n F := fun a A outer s H args us vs Q r => h a A outer s H args us vs Q (r.mono l)
end
/-! ### the call -/
def mCallT (F : FP) (n : Nat) (ml : ML) : MO := fun s => (ml s).bind fun ds s1 => if ds.length = n then match F ds with
  | .ok (.val d) _ => .ok (.val d) s1
  | .ok (.own o) _ => .ok (.own o) s1
  | _ => .bad
  else .bad
section
variable {X : Cx} {W : WX} {k n : Nat} {f a : Addr} {fd : FuncData} {ps : List Str} {e : Expr} {es : List Expr} {ml : ML} {x : Str} {p pos : Pos} {F : FP} {ta : TA}
def tCallT (K : PySem.W.Frag) (mg : Str → Option Value) (a : Addr) (ps : List Str) (n : Nat) (F : FP) (ta : TA) : TE := fun σ H Q => ta σ H fun vs H1 => Hot a H1 ∧ vs.length = ps.length ∧ spP K mg n F vs H1 Q (fun _ _ _ => False)
end
end Den
namespace Den
open PySem PySem.Spec PyProof.Rows L2
theorem takes_noneN {X : Cx} : L2N.Takes X (fun _ _ _ _ => False) := fun _ _ ⟨_, _, _, _, _, _, _, _, _, _, _, _, _, _, _, _, w⟩ => w.elim
end Den

set_option Elab.async false
set_option linter.all false
set_option maxRecDepth 100000
set_option maxHeartbeats 4000000
/-! a Walk: its size, its two lists -/
namespace Den
variable {hox : Option Addr}
open PySem PySem.Spec PyProof.Rows L2
structure Wk where
  p1 : Addr
  p2 : Addr
  n : D
  ts : List D
  ns : List D
def Wk.o (k : Wk) : O := .wlk k.p1 k.p2 k.n k.ts k.ns
def wlkAt (s : S) (i : Nat) : Option (Sl × Wk) := match s[i]? with
  | some (some (.own (.wlk a b n ts ns))) => some (.own (.wlk a b n ts ns), ⟨a, b, n, ts, ns⟩)
  | some (some (.bor (.wlk a b n ts ns))) => some (.bor (.wlk a b n ts ns), ⟨a, b, n, ts, ns⟩)
  | _ => none
theorem wlkAt_at {s : S} {i : Nat} {w : Sl} {k : Wk} (h : wlkAt s i = some (w, k)) : s[i]? = some (some w) ∧ w.mu = some k.o := by
  unfold wlkAt at h
  split at h
  · rename_i a b n ts ns e; cases h; exact ⟨e, rfl⟩
  · rename_i a b n ts ns e; cases h; exact ⟨e, rfl⟩
  · cases h
section
variable {K : PySem.W.Frag} {mg : Str → Option Value} {c : Ct} {s : S} {σ : St} {H : Hp} {i : Nat} {w : Sl} {k : Wk}
/-- what stands in the machine -/
structure WkR (K : PySem.W.Frag) (mg : Str → Option Value) (G H : Hp) (p : Addr) (k : Wk) (C : Addr) (dx : Addr) (v : V) (xs ys : List V) : Prop where
  ob : H p = some (.ins C dx [("size", v), ("texts", .ref k.p1), ("noted", .ref k.p2)])
  cl : mg "Walk" = some (.ref C)
  n1 : p ≠ k.p1
  n2 : p ≠ k.p2
  n3 : k.p1 ≠ k.p2
  h1 : H k.p1 = some (.lst xs)
  h2 : H k.p2 = some (.lst ys)
  rn : Rep K mg G v k.n
  rt : RepL K mg G xs k.ts
  rs : RepL K mg G ys k.ns
theorem StR.wk (x : StR hox K mg c s σ H) (h : wlkAt s i = some (w, k)) : ∃ p C dx v xs ys, σ[i]? = some (some (.ref p)) ∧ (∀ b, foot p k.o b → hs c s σ b) ∧ WkR K mg (vis c s σ H) H p k C dx v xs ys := by
  obtain ⟨e1, e2⟩ := wlkAt_at h
  obtain ⟨p, e3, f, r⟩ := x.mutF e1 e2
  obtain ⟨C, dx, v, xs, ys, r1, r2, r3, r4, r5, r6, r7, r8, r9, r10⟩ := r
  exact ⟨p, C, dx, v, xs, ys, e3, f, ⟨r1, r2, r3, r4, r5, r6, r7, r8, r9, r10⟩⟩
def Wk.wt (k : Wk) (ts : List D) : Wk := { k with ts := ts }
def Wk.wn (k : Wk) (ns : List D) : Wk := { k with ns := ns }
theorem foot1 {p : Addr} : foot p k.o k.p1 := .inr (by simp [Wk.o, O.sub])
theorem foot2 {p : Addr} : foot p k.o k.p2 := .inr (by simp [Wk.o, O.sub])
theorem StR.putT {xs ys us : List V} {ts : List D} {p C dx : Addr} {v : V} (x : StR hox K mg c s σ H) (h : wlkAt s i = some (w, k)) (hp : σ[i]? = some (some (.ref p))) (f : ∀ b, foot p k.o b → hs c s σ b) (r : WkR K mg (vis c s σ H) H p k C dx v xs ys) (ru : RepL K mg (vis c s σ H) us ts) :
    Go hox K mg c s σ H (s.set i (some (w.re (k.wt ts).o))) σ (upd H k.p1 (.lst us)) := by
  obtain ⟨e1, e2⟩ := wlkAt_at h
  have l : Le (vis c s σ H) (hid (hs c s σ) (upd H k.p1 (.lst us))) := hid_le fun b o n e => ⟨n, by rw [upd_ne (fun z => n (by rw [z]; exact f _ foot1))]; exact e⟩
  refine x.writeF e1 e2 hp (fun b nb u e => by rw [upd_ne (fun z => nb (by rw [z]; exact foot1))]; exact e) rfl ?_
  exact ⟨C, dx, v, us, ys, by rw [upd_ne r.n1]; exact r.ob, r.cl, r.n1, r.n2, r.n3, upd_same, (upd_ne (Ne.symm r.n3)).trans r.h2, r.rn.mono l, ru.mono l, r.rs.mono l⟩
theorem StR.putN {xs ys us : List V} {ns : List D} {p C dx : Addr} {v : V} (x : StR hox K mg c s σ H) (h : wlkAt s i = some (w, k)) (hp : σ[i]? = some (some (.ref p))) (f : ∀ b, foot p k.o b → hs c s σ b) (r : WkR K mg (vis c s σ H) H p k C dx v xs ys) (ru : RepL K mg (vis c s σ H) us ns) :
    Go hox K mg c s σ H (s.set i (some (w.re (k.wn ns).o))) σ (upd H k.p2 (.lst us)) := by
  obtain ⟨e1, e2⟩ := wlkAt_at h
  have l : Le (vis c s σ H) (hid (hs c s σ) (upd H k.p2 (.lst us))) := hid_le fun b o n e => ⟨n, by rw [upd_ne (fun z => n (by rw [z]; exact f _ foot2))]; exact e⟩
  refine x.writeF e1 e2 hp (fun b nb u e => by rw [upd_ne (fun z => nb (by rw [z]; exact foot2))]; exact e) rfl ?_
  exact ⟨C, dx, v, xs, us, by rw [upd_ne r.n2]; exact r.ob, r.cl, r.n1, r.n2, r.n3, (upd_ne r.n3).trans r.h1, upd_same, r.rn.mono l, r.rt.mono l, ru.mono l⟩
end
end Den

set_option Elab.async false
set_option linter.all false
set_option maxRecDepth 100000
set_option maxHeartbeats 4000000
/-! a Walk: what its methods do with its size and its lists -/
namespace Den
variable {hox : Option Addr}
open PySem PySem.Spec PyProof.Rows L2
/-- self.size -/
def mWSize (i : Nat) : MD := fun s => match wlkAt s i with
  | some (_, k) => .ok k.n s
  | none => .bad
/-- self.texts[b] -/
def mWIx (i : Nat) (m : MD) : MD := fun s => match wlkAt s i with
  | none => .bad
  | some (_, k0) => (m s).bind fun d s1 => match wlkAt s1 i with
    | some (_, k) => match d with
      | .int j => if k.p1 = k0.p1 then match atI k.ts j with
        | some z => .ok z s1
        | none => .bad
        else .bad
      | _ => .bad
    | none => .bad
/-- self.texts.append(b); self.noted.append(b) -/
def mWAppT (i : Nat) (m : MD) : MO := fun s => match wlkAt s i with
  | none => .bad
  | some (_, k0) => (m s).bind fun d s1 => match wlkAt s1 i with
    | some (w, k) => if (decide (k.p1 = k0.p1) && fits (k.ts.length + 1)) = true then .ok (.val .non) (s1.set i (some (w.re (k.wt (k.ts ++ [d])).o))) else .bad
    | none => .bad
def mWAppN (i : Nat) (m : MD) : MO := fun s => match wlkAt s i with
  | none => .bad
  | some (_, k0) => (m s).bind fun d s1 => match wlkAt s1 i with
    | some (w, k) => if (decide (k.p2 = k0.p2) && fits (k.ns.length + 1)) = true then .ok (.val .non) (s1.set i (some (w.re (k.wn (k.ns ++ [d])).o))) else .bad
    | none => .bad
/-- self.texts.pop(); self.noted.pop() -/
def mWPopT (i : Nat) : MO := fun s => match wlkAt s i with
  | some (w, k) => match k.ts[k.ts.length - 1]? with
    | some d => .ok (.val d) (s.set i (some (w.re (k.wt k.ts.dropLast).o)))
    | none => .bad
  | none => .bad
def mWPopN (i : Nat) : MO := fun s => match wlkAt s i with
  | some (w, k) => match k.ns[k.ns.length - 1]? with
    | some d => .ok (.val d) (s.set i (some (w.re (k.wn k.ns.dropLast).o)))
    | none => .bad
  | none => .bad
/-- len(self.noted), list(self.noted), tuple(self.noted) -/
def mWLen (i : Nat) : MD := fun s => match wlkAt s i with
  | some (_, k) => .ok (.int (k.ns.length : Nat)) s
  | none => .bad
def mWList (i : Nat) : MO := fun s => match wlkAt s i with
  | some (_, k) => .ok (.own (.lst k.ns)) s
  | none => .bad
def mWTup (i : Nat) : MD := fun s => match wlkAt s i with
  | some (_, k) => .ok (.tup k.ns) s
  | none => .bad
/-- self.noted == [] -/
def mWEmp (i : Nat) : MD := fun s => match wlkAt s i with
  | some (_, k) => .ok (.bl k.ns.isEmpty) s
  | none => .bad
theorem repL_init {K : PySem.W.Frag} {mg : Str → Option Value} {G : Hp} : ∀ {vs : List V} {ds : List D}, RepL K mg G vs ds → RepL K mg G vs.dropLast ds.dropLast
  | [], [], .nil => .nil
  | [_], [_], .cons _ .nil => .nil
  | _ :: _ :: _, _ :: _ :: _, .cons a (.cons b r) => .cons a (repL_init (.cons b r))
theorem repL_at {K : PySem.W.Frag} {mg : Str → Option Value} {G : Hp} {d : D} : ∀ {j : Nat} {vs : List V} {ds : List D}, RepL K mg G vs ds → ds[j]? = some d → ∃ v, vs[j]? = some v ∧ Rep K mg G v d
  | _, [], [], .nil, e => by cases e
  | 0, _ :: _, _ :: _, .cons r _, e => by cases e; exact ⟨_, rfl, r⟩
  | j + 1, _ :: _, _ :: _, .cons _ t, e => repL_at (j := j) t e
section
variable {X : Cx} {W : WX} {b : Expr} {m : MD} {pos p p2 p3 py apos : Pos} {y : Str} {C : Addr}
/-- the class tells nothing of these names -/
structure WkC (X : Cx) (C : Addr) : Prop where
  g : X.mg "Walk" = some (.ref C)
  c : Cls X.K C
  a1 : NoAttr X.K C "size"
  a2 : NoAttr X.K C "texts"
  a3 : NoAttr X.K C "noted"
def tNm (i : Nat) (fl : Str) (K : PySem.W.Frag) : TE := tFld K (tVar i) fl
theorem pe_nm (i : Nat) {fl : Str} (hN : X.N[i]? = some y) (hv : Vis X.env.scope y) (hd : (y == ("__debug__" : Str)) = false) (hcd : (y == ("__classdict__" : Str)) = false) (hb : attributeBase (.Name y py) fl X.env (eval (.Name y py) X.env) = eval (.Name y py) X.env) : PE X (.Attribute (.Name y py) fl p) (tNm i fl X.K) :=
  pe_fld (pe_var hN hv hd hcd) hb
theorem sd_wsize (i : Nat) (T : WkC X C) (hN : X.N[i]? = some y := by rfl) (hv : Vis X.env.scope y := by first | exact Or.inl rfl | exact Or.inr (Or.inl rfl) | exact Or.inr (Or.inr rfl)) (hd : (y == ("__debug__" : Str)) = false := by decide) (hcd : (y == ("__classdict__" : Str)) = false := by decide)
    (hb : attributeBase (.Name y py) "size" X.env (eval (.Name y py) X.env) = eval (.Name y py) X.env := by rfl) : SD hox X W (.Attribute (.Name y py) "size" p) (mWSize i) :=
  PE.imp (pe_nm i hN hv hd hcd hb) fun σ H Q ⟨c, s, st, q⟩ => by
    unfold mWSize at q
    cases e0 : wlkAt s i with
    | none => simp only [e0] at q; exact q.elim
    | some wk =>
      obtain ⟨w, k⟩ := wk
      simp only [e0] at q
      obtain ⟨a, C', dx, v, xs, ys, hp, f, r⟩ := st.wk e0
      have hC := r.cl
      rw [T.g] at hC; cases hC
      exact ⟨_, hp, a, C, dx, _, v, rfl, r.ob, T.c, T.a1, rfl, q H (.refl st) v r.rn⟩
/-- the list behind a name, then what is done with it -/
theorem nm_texts {i : Nat} {c : Ct} {s : S} {σ : St} {H : Hp} {Q : VK} {w : Sl} {k : Wk} (T : WkC X C) (st : StR hox X.K X.mg c s σ H) (e0 : wlkAt s i = some (w, k)) (q : Q (.ref k.p1) H) : tNm i "texts" X.K σ H Q := by
  obtain ⟨a, C', dx, v, xs, ys, hp, f, r⟩ := st.wk e0
  have hC := r.cl
  rw [T.g] at hC; cases hC
  exact ⟨_, hp, a, C, dx, _, .ref k.p1, rfl, r.ob, T.c, T.a2, rfl, q⟩
theorem nm_noted {i : Nat} {c : Ct} {s : S} {σ : St} {H : Hp} {Q : VK} {w : Sl} {k : Wk} (T : WkC X C) (st : StR hox X.K X.mg c s σ H) (e0 : wlkAt s i = some (w, k)) (q : Q (.ref k.p2) H) : tNm i "noted" X.K σ H Q := by
  obtain ⟨a, C', dx, v, xs, ys, hp, f, r⟩ := st.wk e0
  have hC := r.cl
  rw [T.g] at hC; cases hC
  exact ⟨_, hp, a, C, dx, _, .ref k.p2, rfl, r.ob, T.c, T.a3, rfl, q⟩
end
end Den

set_option Elab.async false
set_option linter.all false
set_option maxRecDepth 100000
set_option maxHeartbeats 4000000
/-! a Walk: the rules -/
namespace Den
variable {hox : Option Addr}
open PySem PySem.Spec PyProof.Rows L2
section
variable {X : Cx} {W : WX} {b : Expr} {m : MD} {pos p p2 p3 py apos : Pos} {y : Str} {C : Addr}
theorem sd_wix (i : Nat) (T : WkC X C) (hb : SD hox X W b m) (hN : X.N[i]? = some y := by rfl) (hv : Vis X.env.scope y := by first | exact Or.inl rfl | exact Or.inr (Or.inl rfl) | exact Or.inr (Or.inr rfl)) (hd : (y == ("__debug__" : Str)) = false := by decide) (hcd : (y == ("__classdict__" : Str)) = false := by decide)
    (hba : attributeBase (.Name y py) "texts" X.env (eval (.Name y py) X.env) = eval (.Name y py) X.env := by rfl) (hs : PlainIx b := by exact fun _ _ => rfl) : SD hox X W (.Subscript (.Attribute (.Name y py) "texts" p) b pos) (mWIx i m) :=
  PE.imp (pe_ix ix_list (pe_nm i hN hv hd hcd hba) hb hs) fun σ H Q ⟨c, s, st, q⟩ => by
    unfold mWIx at q
    cases e0 : wlkAt s i with
    | none => simp only [e0] at q; exact q.elim
    | some wk =>
      obtain ⟨w, k⟩ := wk
      simp only [e0] at q
      refine nm_texts T st e0 ⟨c, s, st, q.split.imp fun d s1 H1 g1 q1 v r => ?_⟩
      cases e1 : wlkAt s1 i with
      | none => simp only [e1] at q1; exact q1.elim
      | some wk1 =>
        obtain ⟨w1, k1⟩ := wk1
        simp only [e1] at q1
        cases r with
        | int j =>
          simp only at q1
          by_cases same : k1.p1 = k.p1
          · rw [if_pos same] at q1
            obtain ⟨a, C', dx, v0, xs, ys, hp, f, r0⟩ := g1.1.wk e1
            cases e2 : atI k1.ts j with
            | none => rw [e2] at q1; exact q1.elim
            | some d =>
              rw [e2] at q1
              obtain ⟨v, e3, rv⟩ := repL_atI r0.rt e2
              exact ⟨k.p1, xs, j, v, rfl, rfl, .of (by rw [← same]; exact r0.h1), e3, q1 H1 (.refl g1.1) v rv⟩
          · rw [if_neg same] at q1; exact q1.elim
        | _ => exact q1.elim
theorem so_wappT (i : Nat) (T : WkC X C) (hb : SD hox X W b m) (hN : X.N[i]? = some y := by rfl) (hv : Vis X.env.scope y := by first | exact Or.inl rfl | exact Or.inr (Or.inl rfl) | exact Or.inr (Or.inr rfl)) (hd : (y == ("__debug__" : Str)) = false := by decide) (hcd : (y == ("__classdict__" : Str)) = false := by decide)
    (hba : attributeBase (.Name y py) "texts" X.env (eval (.Name y py) X.env) = eval (.Name y py) X.env := by rfl)
    (hbase : attributeBase (.Attribute (.Name y py) "texts" p) "append" X.env (eval (.Attribute (.Name y py) "texts" p) X.env) = eval (.Attribute (.Name y py) "texts" p) X.env := by rfl)
    (hfew : ((backTo pos (starEach [b] X.env)).all (fun x => !x.1) && (backToKw pos (keywordEach [] X.env)).all (fun x => x.1.isSome)
      && decide (([b] : List Expr).length + ([] : List Keyword).length + (if ([] : List Keyword).isEmpty then 0 else 1) < 30)) = true := by rfl)
    (hline : (apos.endLine == pos.line) = true := by rfl) (hs : starEach [b] X.env = (false, eval b X.env) :: starEach [] X.env := by rfl) (hplain : (backTo pos (starEach [] X.env)).any (·.1) = false := by rfl) :
    SO hox X W (.Call (.Attribute (.Attribute (.Name y py) "texts" p) "append" apos) [b] [] pos) (mWAppT i m) :=
  PE.imp (pe_bm PySem.F.plainAttrs_list PySem.F.slot_list_append PySem.F.type_list_append (mt_append : MtR X "list.append" rAppend) (pe_nm i hN hv hd hcd hba) (pa_cons hb pa_nil hs) hbase hfew hline hs hplain) fun σ H Q ⟨c, s, st, q⟩ => by
    unfold mWAppT at q
    cases e0 : wlkAt s i with
    | none => simp only [e0] at q; exact q.elim
    | some wk =>
      obtain ⟨w, k⟩ := wk
      simp only [e0] at q
      obtain ⟨a0, C0, dx0, v0, xs0, ys0, hp0, f0, r0⟩ := st.wk e0
      refine nm_texts T st e0 ⟨.inl ⟨rfl, _, .of r0.h1⟩, c, s, st, q.split.imp fun d s1 H1 g1 q1 v r => ?_⟩
      cases e1 : wlkAt s1 i with
      | none => simp only [e1] at q1; exact q1.elim
      | some wk1 =>
        obtain ⟨w1, k1⟩ := wk1
        simp only [e1] at q1
        obtain ⟨a, C', dx, v1, xs, ys, hp, f, r1⟩ := g1.1.wk e1
        by_cases z : (decide (k1.p1 = k.p1) && fits (k1.ts.length + 1)) = true
        · rw [if_pos z] at q1
          obtain ⟨z1, z2⟩ := Bool.and_eq_true_iff.mp z
          have same := of_decide_eq_true z1
          have len := r1.rt.length
          have G := g1.1.putT e1 hp f r1 (r1.rt.append (.cons r .nil))
          rw [same] at G
          exact ⟨k.p1, _, v, rfl, rfl, by rw [← same]; exact r1.h1, by rw [len]; exact fits_le z2, q1 _ _ ⟨G, .non⟩⟩
        · rw [if_neg z] at q1; exact q1.elim
theorem so_wpopT (i : Nat) (T : WkC X C) (hN : X.N[i]? = some y := by rfl) (hv : Vis X.env.scope y := by first | exact Or.inl rfl | exact Or.inr (Or.inl rfl) | exact Or.inr (Or.inr rfl)) (hd : (y == ("__debug__" : Str)) = false := by decide) (hcd : (y == ("__classdict__" : Str)) = false := by decide)
    (hba : attributeBase (.Name y py) "texts" X.env (eval (.Name y py) X.env) = eval (.Name y py) X.env := by rfl)
    (hbase : attributeBase (.Attribute (.Name y py) "texts" p) "pop" X.env (eval (.Attribute (.Name y py) "texts" p) X.env) = eval (.Attribute (.Name y py) "texts" p) X.env := by rfl) (hline : (apos.endLine == pos.line) = true := by rfl) :
    SO hox X W (.Call (.Attribute (.Attribute (.Name y py) "texts" p) "pop" apos) [] [] pos) (mWPopT i) :=
  PE.imp (pe_bm0 PySem.F.plainAttrs_list PySem.F.slot_list_pop PySem.F.type_list_pop (mt_pop : MtR X "list.pop" rPop) (pe_nm i hN hv hd hcd hba) hbase hline) fun σ H Q ⟨c, s, st, q⟩ => by
    unfold mWPopT at q
    cases e0 : wlkAt s i with
    | none => simp only [e0] at q; exact q.elim
    | some wk =>
      obtain ⟨w, k⟩ := wk
      simp only [e0] at q
      obtain ⟨a0, C0, dx0, v0, xs, ys, hp, f, r0⟩ := st.wk e0
      cases e1 : k.ts[k.ts.length - 1]? with
      | none => simp only [e1] at q; exact q.elim
      | some d =>
        simp only [e1] at q
        have len := r0.rt.length
        obtain ⟨v, e2, rv⟩ := repL_at r0.rt e1
        have G := st.putT e0 hp f r0 (repL_init r0.rt)
        exact nm_texts T st e0 ⟨.inl ⟨rfl, _, .of r0.h1⟩, k.p1, _, v, rfl, rfl, r0.h1, by rw [len]; exact e2, q v _ ⟨G, rv.mono G.2⟩⟩
theorem so_wappN (i : Nat) (T : WkC X C) (hb : SD hox X W b m) (hN : X.N[i]? = some y := by rfl) (hv : Vis X.env.scope y := by first | exact Or.inl rfl | exact Or.inr (Or.inl rfl) | exact Or.inr (Or.inr rfl)) (hd : (y == ("__debug__" : Str)) = false := by decide) (hcd : (y == ("__classdict__" : Str)) = false := by decide)
    (hba : attributeBase (.Name y py) "noted" X.env (eval (.Name y py) X.env) = eval (.Name y py) X.env := by rfl)
    (hbase : attributeBase (.Attribute (.Name y py) "noted" p) "append" X.env (eval (.Attribute (.Name y py) "noted" p) X.env) = eval (.Attribute (.Name y py) "noted" p) X.env := by rfl)
    (hfew : ((backTo pos (starEach [b] X.env)).all (fun x => !x.1) && (backToKw pos (keywordEach [] X.env)).all (fun x => x.1.isSome)
      && decide (([b] : List Expr).length + ([] : List Keyword).length + (if ([] : List Keyword).isEmpty then 0 else 1) < 30)) = true := by rfl)
    (hline : (apos.endLine == pos.line) = true := by rfl) (hs : starEach [b] X.env = (false, eval b X.env) :: starEach [] X.env := by rfl) (hplain : (backTo pos (starEach [] X.env)).any (·.1) = false := by rfl) :
    SO hox X W (.Call (.Attribute (.Attribute (.Name y py) "noted" p) "append" apos) [b] [] pos) (mWAppN i m) :=
  PE.imp (pe_bm PySem.F.plainAttrs_list PySem.F.slot_list_append PySem.F.type_list_append (mt_append : MtR X "list.append" rAppend) (pe_nm i hN hv hd hcd hba) (pa_cons hb pa_nil hs) hbase hfew hline hs hplain) fun σ H Q ⟨c, s, st, q⟩ => by
    unfold mWAppN at q
    cases e0 : wlkAt s i with
    | none => simp only [e0] at q; exact q.elim
    | some wk =>
      obtain ⟨w, k⟩ := wk
      simp only [e0] at q
      obtain ⟨a0, C0, dx0, v0, xs0, ys0, hp0, f0, r0⟩ := st.wk e0
      refine nm_noted T st e0 ⟨.inl ⟨rfl, _, .of r0.h2⟩, c, s, st, q.split.imp fun d s1 H1 g1 q1 v r => ?_⟩
      cases e1 : wlkAt s1 i with
      | none => simp only [e1] at q1; exact q1.elim
      | some wk1 =>
        obtain ⟨w1, k1⟩ := wk1
        simp only [e1] at q1
        obtain ⟨a, C', dx, v1, xs, ys, hp, f, r1⟩ := g1.1.wk e1
        by_cases z : (decide (k1.p2 = k.p2) && fits (k1.ns.length + 1)) = true
        · rw [if_pos z] at q1
          obtain ⟨z1, z2⟩ := Bool.and_eq_true_iff.mp z
          have same := of_decide_eq_true z1
          have len := r1.rs.length
          have G := g1.1.putN e1 hp f r1 (r1.rs.append (.cons r .nil))
          rw [same] at G
          exact ⟨k.p2, _, v, rfl, rfl, by rw [← same]; exact r1.h2, by rw [len]; exact fits_le z2, q1 _ _ ⟨G, .non⟩⟩
        · rw [if_neg z] at q1; exact q1.elim
theorem so_wpopN (i : Nat) (T : WkC X C) (hN : X.N[i]? = some y := by rfl) (hv : Vis X.env.scope y := by first | exact Or.inl rfl | exact Or.inr (Or.inl rfl) | exact Or.inr (Or.inr rfl)) (hd : (y == ("__debug__" : Str)) = false := by decide) (hcd : (y == ("__classdict__" : Str)) = false := by decide)
    (hba : attributeBase (.Name y py) "noted" X.env (eval (.Name y py) X.env) = eval (.Name y py) X.env := by rfl)
    (hbase : attributeBase (.Attribute (.Name y py) "noted" p) "pop" X.env (eval (.Attribute (.Name y py) "noted" p) X.env) = eval (.Attribute (.Name y py) "noted" p) X.env := by rfl) (hline : (apos.endLine == pos.line) = true := by rfl) :
    SO hox X W (.Call (.Attribute (.Attribute (.Name y py) "noted" p) "pop" apos) [] [] pos) (mWPopN i) :=
  PE.imp (pe_bm0 PySem.F.plainAttrs_list PySem.F.slot_list_pop PySem.F.type_list_pop (mt_pop : MtR X "list.pop" rPop) (pe_nm i hN hv hd hcd hba) hbase hline) fun σ H Q ⟨c, s, st, q⟩ => by
    unfold mWPopN at q
    cases e0 : wlkAt s i with
    | none => simp only [e0] at q; exact q.elim
    | some wk =>
      obtain ⟨w, k⟩ := wk
      simp only [e0] at q
      obtain ⟨a0, C0, dx0, v0, xs, ys, hp, f, r0⟩ := st.wk e0
      cases e1 : k.ns[k.ns.length - 1]? with
      | none => simp only [e1] at q; exact q.elim
      | some d =>
        simp only [e1] at q
        have len := r0.rs.length
        obtain ⟨v, e2, rv⟩ := repL_at r0.rs e1
        have G := st.putN e0 hp f r0 (repL_init r0.rs)
        exact nm_noted T st e0 ⟨.inl ⟨rfl, _, .of r0.h2⟩, k.p2, _, v, rfl, rfl, r0.h2, by rw [len]; exact e2, q v _ ⟨G, rv.mono G.2⟩⟩
theorem sd_wlen (i : Nat) (T : WkC X C) (hG : Gl X "len") (hm : X.mg "len" = none) (hN : X.N[i]? = some y := by rfl) (hv : Vis X.env.scope y := by first | exact Or.inl rfl | exact Or.inr (Or.inl rfl) | exact Or.inr (Or.inr rfl)) (hd : (y == ("__debug__" : Str)) = false := by decide) (hcd : (y == ("__classdict__" : Str)) = false := by decide)
    (hba : attributeBase (.Name y py) "noted" X.env (eval (.Name y py) X.env) = eval (.Name y py) X.env := by rfl) (he : starEach [.Attribute (.Name y py) "noted" p] X.env = (false, eval (.Attribute (.Name y py) "noted" p) X.env) :: starEach [] X.env := by rfl) (hpl : (backTo pos (starEach [] X.env)).any (·.1) = false := by rfl)
    (hb : bootBuiltins "len" = some (.builtin "len") := by decide +kernel) : SD hox X W (.Call (.Name "len" p2) [.Attribute (.Name y py) "noted" p] [] pos) (mWLen i) :=
  PE.imp (pe_callB call_len_seq hG hm hb (pa_cons (pe_nm i hN hv hd hcd hba) pa_nil he) (by decide) (by decide) he hpl) fun σ H Q ⟨c, s, st, q⟩ => by
    unfold mWLen at q
    cases e0 : wlkAt s i with
    | none => simp only [e0] at q; exact q.elim
    | some wk =>
      obtain ⟨w, k⟩ := wk
      simp only [e0] at q
      obtain ⟨a0, C0, dx0, v0, xs, ys, hp, f, r0⟩ := st.wk e0
      exact nm_noted T st e0 ⟨k.p2, ys, rfl, .inl (.of r0.h2), by rw [r0.rs.length]; exact q H (.refl st) _ (.int _)⟩
theorem so_wlist (i : Nat) (T : WkC X C) (hG : Gl X "list") (hm : X.mg "list" = none) (hN : X.N[i]? = some y := by rfl) (hv : Vis X.env.scope y := by first | exact Or.inl rfl | exact Or.inr (Or.inl rfl) | exact Or.inr (Or.inr rfl)) (hd : (y == ("__debug__" : Str)) = false := by decide) (hcd : (y == ("__classdict__" : Str)) = false := by decide)
    (hba : attributeBase (.Name y py) "noted" X.env (eval (.Name y py) X.env) = eval (.Name y py) X.env := by rfl) (he : starEach [.Attribute (.Name y py) "noted" p] X.env = (false, eval (.Attribute (.Name y py) "noted" p) X.env) :: starEach [] X.env := by rfl) (hpl : (backTo pos (starEach [] X.env)).any (·.1) = false := by rfl)
    (hb : bootBuiltins "list" = some (.type "list") := by decide +kernel) : SO hox X W (.Call (.Name "list" p2) [.Attribute (.Name y py) "noted" p] [] pos) (mWList i) :=
  PE.imp (pe_callTy call_list_of hG hm hb (pa_cons (pe_nm i hN hv hd hcd hba) pa_nil he) (by decide) (by decide) he hpl) fun σ H Q ⟨c, s, st, q⟩ => by
    unfold mWList at q
    cases e0 : wlkAt s i with
    | none => simp only [e0] at q; exact q.elim
    | some wk =>
      obtain ⟨w, k⟩ := wk
      simp only [e0] at q
      obtain ⟨a0, C0, dx0, v0, xs, ys, hp, f, r0⟩ := st.wk e0
      refine nm_noted T st e0 ⟨k.p2, ys, rfl, .inl (.of r0.h2), fun l nl => ?_⟩
      obtain ⟨a1, a2, a3⟩ := st.alloc (ho := .lst ys) nl
      exact q _ _ ⟨l, .lst ys, rfl, rfl, fun z => a3 z, a1, a2, ys, upd_same, r0.rs.mono a2⟩
/-- self.noted == m -/
def mWEq (i : Nat) (m : MD) : MD := fun s => match wlkAt s i with
  | none => .bad
  | some (_, k0) => (m s).bind fun d s1 => match wlkAt s1 i with
    | some (_, k) => if k.p2 = k0.p2 then o2 (gEq (.lst k.ns) d) s1 else .bad
    | none => .bad
end
end Den

set_option Elab.async false
set_option linter.all false
set_option maxRecDepth 100000
set_option maxHeartbeats 4000000
/-! methods of an object that is one's own -/
namespace Den
variable {hox : Option Addr}
open PySem PySem.Spec PyProof.Rows L2
section
variable {X : Cx} {W : WX} {k n i : Nat} {f C p : Addr} {fd : FuncData} {ps : List Str} {e : Expr} {es : List Expr} {ml : ML} {y m : Str} {py p0 pos apos : Pos} {F : FL} {c : Ct} {s s1 : S} {σ : St} {H H1 : Hp} {Q : VK} {w : Sl} {o : O} {vs : List V} {ds : List D}
/-- the call's wish, from the mirror's answer -/
theorem lent_sp (st1 : StR hox X.K X.mg c s1 σ H1) (e3 : mutAt s1 i = some (w, o)) (hp : σ[i]? = some (some (.ref p))) (hl : ds.length + 1 = n) (rs : RepL X.K X.mg (vis c s1 σ H1) vs ds) (q1 : ResO hox X.K X.mg W c s1 σ H1 Q (lentOut i w s1 (F o ds))) : spL X.K X.mg n F (.ref p :: vs) H1 Q (WE W σ) := by
  obtain ⟨e4, e5⟩ := mutAt_some e3
  obtain ⟨p', hp', hh, ro⟩ := st1.mutF e4 e5
  rw [hp] at hp'; cases hp'
  refine ⟨hs c s1 σ, p, o, vs, ds, rfl, fun p h => st1.hidden h, hh, hl, ro, rs, ?_⟩
  unfold lentOut at q1
  have go : ∀ {H' : Hp} {o' : O}, w.sub = o'.sub → Keep (foot p o) H1 H' → RepO X.K X.mg (hid (hs c s1 σ) H') H' p o' → Go hox X.K X.mg c s1 σ H1 (s1.set i (some (w.re o'))) σ H' := fun {H' o'} hz kp r => st1.writeF e4 e5 hp (fun b nb u e => kp b u nb e) (hz.symm.trans (sub_mu e5)) r
  have sub : ∀ (o' : O), w.sub = o'.sub → ∀ b, hs c (s1.set i (some (w.re o'))) σ b → hs c s1 σ b := fun o' hz b z => by
    rcases z with z | z | ⟨j, o2, p2, e2, e3, f⟩
    · exact .inl z
    · exact .inr (.inl z)
    · rcases set_at e2 with ⟨rfl, _, z⟩ | ⟨ne, e2⟩
      · rw [hp] at e3; cases e3
        refine hh b ?_
        have ez : o2.sub = o.sub := by
          cases w with
          | val d => cases e5
          | own ow =>
            cases z
            exact hz.symm.trans (sub_mu e5)
          | bor ow => cases z
        unfold foot at f ⊢
        rw [ez] at f
        exact f
      · exact .inr (.inr ⟨j, o2, p2, e2, e3, f⟩)
  cases e6 : F o ds with
  | ok r s' =>
    cases r with
    | val d =>
      simp only [e6] at q1
      intro v H' kp lr rv
      split at q1
      · rename_i d' o' heq1 heq2
        cases heq1
        by_cases hz : w.sub = o'.sub
        · rw [if_pos hz] at q1
          have g := go hz kp (lr o' heq2)
          exact q1 v H' ⟨g, rv.mono (Le.hsub (sub o' hz))⟩
        · rw [if_neg hz] at q1
          exact q1.elim
      · exact q1.elim
    | own u => simp only [e6] at q1; exact q1.elim
    | bor u => simp only [e6] at q1; exact q1.elim
  | exc z s' =>
    simp only [e6] at q1
    intro cls dd H' kp lr r
    split at q1
    · rename_i o' heq2
      by_cases hz : w.sub = o'.sub
      · rw [if_pos hz] at q1
        have g := go hz kp (lr o' heq2)
        exact q1 cls dd H' g (r.mono (Le.hsub (sub o' hz)))
      · rw [if_neg hz] at q1
        exact q1.elim
    · exact q1.elim
  | bad => simp only [e6] at q1; exact q1.elim
/-- o.m(..) -/
def tMethE (C : Addr) (m : Str) (sp : Sp) (E : St → XK) (to : TE) (t : TA) : TE := fun σ H Q => to σ H fun x H1 => ∃ a dx fs, x = .ref a ∧ H1 a = some (.ins C dx fs) ∧ fs.lookup m = none ∧ t σ H1 fun vs H2 => sp (x :: vs) H2 Q (E σ)
theorem pe_methE {CX : CXT} {sp : Sp} {E : St → XK} {to : TE} {t : TA} {b : Expr} {pl : Sem Bool} (ho : PE X b to) (hc : Cls X.K C) (hm : Meth X.K C m f) (FK : FnOk X.prog X.w X.K X.mg X.base CX k f fd ps sp) (hr : Room k X.A) (hb : Binds X.K fd ps []) (hx : ∀ σ, PassesAt CX X σ (E σ)) (ha : PA X (e :: es) t)
    (he : starEach (e :: es) X.env = (false, eval e X.env) :: starEach es X.env) (hpl : (backTo pos (starEach es X.env)).any (·.1) = false)
    (ht : eval (.Call (.Attribute b m apos) (e :: es) [] pos) X.env = (do let ov ← eval b X.env; standAt apos.atName; let (f, first) ← holding [ov] (getMethod ov m pl); callWith pos f first (backTo pos (starEach (e :: es) X.env)) (backToKw pos (keywordEach [] X.env)))) :
    PE X (.Call (.Attribute b m apos) (e :: es) [] pos) (tMethE C m sp E to t) := by
  constructor
  intro pins s σ H Q I wish
  refine PySem.W.methodCall_KW (pl := pl) (thn (ho.run pins s σ H _ I wish) ?_) ht
  rintro u s1 ⟨x, H1, J, rx, a, dx, fs, rfl, ea, l, q⟩
  obtain rfl : u = Value.ref a := rx
  refine getmeth_ok J ea hc hm l (PySem.W.callWith_K (first := [.ref a]) (h₀ := X.base) I.ok.mod.kin hm.kp (thn (ha.run pos pins s1 σ H1 _ J q) ?_) he hpl)
  rintro us s2 ⟨vs, H2, J2, rv, q2⟩
  exact ⟨J2.kIn, run_fnS (us := .ref a :: us) (vs := .ref a :: vs) FK hr hb (hx σ) J2 (.cons rfl rv) q2⟩
theorem pe_methE0 {CX : CXT} {sp : Sp} {E : St → XK} {to : TE} {b : Expr} {pl : Sem Bool} (ho : PE X b to) (hc : Cls X.K C) (hm : Meth X.K C m f) (FK : FnOk X.prog X.w X.K X.mg X.base CX k f fd ps sp) (hr : Room k X.A) (hb : Binds X.K fd ps []) (hx : ∀ σ, PassesAt CX X σ (E σ))
    (ht : eval (.Call (.Attribute b m apos) [] [] pos) X.env = (do let ov ← eval b X.env; standAt apos.atName; let (f, first) ← holding [ov] (getMethod ov m pl); callWith pos f first (backTo pos (starEach [] X.env)) (backToKw pos (keywordEach [] X.env)))) :
    PE X (.Call (.Attribute b m apos) [] [] pos) (tMethE C m sp E to tNil) := by
  constructor
  intro pins s σ H Q I wish
  refine PySem.W.methodCall_KW (pl := pl) (thn (ho.run pins s σ H _ I wish) ?_) ht
  rintro u s1 ⟨x, H1, J, rx, a, dx, fs, rfl, ea, l, q⟩
  obtain rfl : u = Value.ref a := rx
  exact getmeth_ok J ea hc hm l (PySem.W.callWith_K0 (first := [.ref a]) J.kIn hm.kp (run_fnS (us := [.ref a]) (vs := [.ref a]) FK hr hb (hx σ) J (.cons rfl .nil) q))
theorem look_no {v1 v2 v3 : V} (hno : ((m == ("size" : Str)) || ((m == ("texts" : Str)) || (m == ("noted" : Str)))) = false) : ([("size", v1), ("texts", v2), ("noted", v3)] : List (Str × V)).lookup m = none := by
  rw [Bool.or_eq_false_iff, Bool.or_eq_false_iff] at hno
  simp only [List.lookup, hno.1, hno.2.1, hno.2.2]
/-- a method of the Walk in slot i -/
def mMethL (i : Nat) (F : FL) (n : Nat) (ml : ML) : MO := fun s => match wlkAt s i with
  | none => .bad
  | some _ => mCallL i F n ml s
theorem so_methL (i : Nat) (T : WkC X C) (hmm : Meth X.K C m f) (FK : FnOk X.prog X.w X.K X.mg X.base (L2N.CX X.prog X.w) k f fd ps (spL X.K X.mg n F)) (hr : Room k X.A) (hb : Binds X.K fd ps []) (tk : L2N.Takes X W) (ha : SL hox X W (e :: es) ml) {pl : Sem Bool}
    (hno : ((m == ("size" : Str)) || ((m == ("texts" : Str)) || (m == ("noted" : Str)))) = false := by decide)
    (hN : X.N[i]? = some y := by rfl) (hv : Vis X.env.scope y := by first | exact Or.inl rfl | exact Or.inr (Or.inl rfl) | exact Or.inr (Or.inr rfl)) (hd : (y == ("__debug__" : Str)) = false := by decide) (hcd : (y == ("__classdict__" : Str)) = false := by decide)
    (he : starEach (e :: es) X.env = (false, eval e X.env) :: starEach es X.env := by rfl) (hpl : (backTo pos (starEach es X.env)).any (·.1) = false := by rfl)
    (ht : eval (.Call (.Attribute (.Name y py) m apos) (e :: es) [] pos) X.env = (do let ov ← eval (.Name y py) X.env; standAt apos.atName; let (f, first) ← holding [ov] (getMethod ov m pl); callWith pos f first (backTo pos (starEach (e :: es) X.env)) (backToKw pos (keywordEach [] X.env))) := by rfl) :
    SO hox X W (.Call (.Attribute (.Name y py) m apos) (e :: es) [] pos) (mMethL i F n ml) := by
  refine PE.imp (pe_methE (pe_var hN hv hd hcd) T.c hmm FK hr hb (fun σ => L2N.passAt tk σ) ha he hpl ht) fun σ H Q ⟨c, s, st, q⟩ => ?_
  unfold mMethL at q
  cases e0 : wlkAt s i with
  | none => simp only [e0] at q; exact q.elim
  | some wk =>
    obtain ⟨w, k0⟩ := wk
    simp only [e0] at q
    obtain ⟨p, C', dx, v, xs, ys, hp, _, r0⟩ := st.wk e0
    have hC := r0.cl
    rw [T.g] at hC; cases hC
    unfold mCallL at q
    cases e1 : mutAt s i with
    | none => simp only [e1] at q; exact q.elim
    | some w1 =>
      simp only [e1] at q
      refine ⟨.ref p, hp, p, dx, _, rfl, r0.ob, look_no hno, c, s, st, q.split.imp fun ds s1 H1 g1 q1 vs rs => ?_⟩
      cases e3 : mutAt s1 i with
      | none => simp only [e3] at q1; exact q1.elim
      | some wo =>
        obtain ⟨w, o⟩ := wo
        simp only [e3] at q1
        by_cases hl : ds.length + 1 = n
        · rw [if_pos hl] at q1
          exact lent_sp g1.1 e3 hp hl rs q1
        · rw [if_neg hl] at q1; exact q1.elim
theorem so_methL0 (i : Nat) (T : WkC X C) (hmm : Meth X.K C m f) (FK : FnOk X.prog X.w X.K X.mg X.base (L2N.CX X.prog X.w) k f fd ps (spL X.K X.mg n F)) (hr : Room k X.A) (hb : Binds X.K fd ps []) (tk : L2N.Takes X W) {pl : Sem Bool}
    (hno : ((m == ("size" : Str)) || ((m == ("texts" : Str)) || (m == ("noted" : Str)))) = false := by decide)
    (hN : X.N[i]? = some y := by rfl) (hv : Vis X.env.scope y := by first | exact Or.inl rfl | exact Or.inr (Or.inl rfl) | exact Or.inr (Or.inr rfl)) (hd : (y == ("__debug__" : Str)) = false := by decide) (hcd : (y == ("__classdict__" : Str)) = false := by decide)
    (ht : eval (.Call (.Attribute (.Name y py) m apos) [] [] pos) X.env = (do let ov ← eval (.Name y py) X.env; standAt apos.atName; let (f, first) ← holding [ov] (getMethod ov m pl); callWith pos f first (backTo pos (starEach [] X.env)) (backToKw pos (keywordEach [] X.env))) := by rfl) :
    SO hox X W (.Call (.Attribute (.Name y py) m apos) [] [] pos) (mMethL i F n lNil) := by
  refine PE.imp (pe_methE0 (pe_var hN hv hd hcd) T.c hmm FK hr hb (fun σ => L2N.passAt tk σ) ht) fun σ H Q ⟨c, s, st, q⟩ => ?_
  unfold mMethL at q
  cases e0 : wlkAt s i with
  | none => simp only [e0] at q; exact q.elim
  | some wk =>
    obtain ⟨w, k0⟩ := wk
    simp only [e0] at q
    obtain ⟨p, C', dx, v, xs, ys, hp, _, r0⟩ := st.wk e0
    have hC := r0.cl
    rw [T.g] at hC; cases hC
    unfold mCallL at q
    cases e1 : mutAt s i with
    | none => simp only [e1] at q; exact q.elim
    | some w1 =>
      simp only [e1] at q
      refine ⟨.ref p, hp, p, dx, _, rfl, r0.ob, look_no hno, ?_⟩
      have q1 := (ResO.split (o := lNil s) q) H (.refl st)
      cases e3 : mutAt s i with
      | none => simp only [e3] at q1; exact q1.elim
      | some wo =>
        obtain ⟨w, o⟩ := wo
        simp only [e3] at q1
        by_cases hl : ([] : List D).length + 1 = n
        · rw [if_pos hl] at q1
          exact lent_sp st e3 hp hl .nil q1
        · rw [if_neg hl] at q1; exact q1.elim
end
end Den

set_option Elab.async false
set_option linter.all false
set_option maxRecDepth 100000
set_option maxHeartbeats 4000000
/-! len of a Walk -/
namespace Den
variable {hox : Option Addr}
open PySem PySem.Spec PyProof.Rows L2
def mLenW (i : Nat) (F : FL) : MD := fun s => match wlkAt s i with
  | none => .bad
  | some (w, k) => match lentOut i w s (F k.o []) with
    | .ok (.val (.int n)) s' => if (decide (0 ≤ n) && decide (n < 4611686018427387904)) = true then .ok (.int n) s' else .bad
    | _ => .bad
section
variable {X : Cx} {W : WX} {k : Nat} {C f : Addr} {fd : FuncData} {ps : List Str} {F : FL} {y : Str} {py p pos : Pos}
def rLenW (sp : Sp) : List V → Hp → VK → Prop := fun xs H Q => ∃ a C dx fs, xs = [.ref a] ∧ H a = some (.ins C dx fs) ∧ sp [.ref a] H (fun v H' => (∃ n : Int, v = .int n ∧ 0 ≤ n ∧ n < 4611686018427387904) ∧ Q v H') (fun _ _ _ => False)
theorem call_lenW {sp : Sp} (FK : FnOk X.prog X.w X.K X.mg X.base (L2N.CX X.prog X.w) k f fd ps sp) (hr : Room (k + 1) X.A) (hs : PySem.W.findIn X.K (.ref C) "__len__" = some (some (.ref f))) (hf : PySem.W.isFn X.K (.ref f) = true) (hb : Binds X.K fd ps []) :
    CallR X (.builtin "len") (fun xs H Q => ∃ a dx fs, xs = [.ref a] ∧ H a = some (.ins C dx fs) ∧ sp [.ref a] H (fun v H' => (∃ n : Int, v = .int n ∧ 0 ≤ n ∧ n < 4611686018427387904) ∧ Q v H') (fun _ _ _ => False)) := by
  rintro pins s σ H xs us Q I r ⟨a, dx, fs, rfl, ha, wish⟩
  match us, r with
  | [u], .cons ru .nil =>
    cases ru
    obtain ⟨_, J0, _⟩ := ins_get I.hok ha
    obtain ⟨_, J, _⟩ := J0.look
    obtain ⟨_, fr⟩ := I.fr
    have one : ([V.ref a] : List V).length = ps.length := FK.len _ _ _ _ wish
    have bind := hb s [.ref a] I.kIn (by rw [List.append_nil]; exact one)
    rw [List.append_nil] at bind
    have body := FK.run X.A.in1 X.stack s H ⟨[.ref a], []⟩ [.ref a] [.ref a] _ (fun _ _ _ => False) hr.in1 I.env0.in1 bind (.cons rfl .nil) wish
    refine PySem.W.len_K fr I.ok.mod.kin J hs hf (wpAny_call (codeAny_mono body ?_))
    rintro (er | fl) s' z
    · exact (cx_never z).elim
    · cases fl with
      | ret w =>
        obtain ⟨z, H', I', rz, ⟨n, rfl, n0, n1⟩, q⟩ := I.after z
        obtain ⟨t, rfl⟩ := rz
        exact ⟨⟨n0, by omega⟩, .int n, H', I'.tok _, ⟨_, rfl⟩, q⟩
      | _ => exact False.elim z
theorem sd_lenW (i : Nat) (T : WkC X C) (FK : FnOk X.prog X.w X.K X.mg X.base (L2N.CX X.prog X.w) k f fd ps (spL X.K X.mg 1 F)) (hr : Room (k + 1) X.A) (hs : PySem.W.findIn X.K (.ref C) "__len__" = some (some (.ref f))) (hf : PySem.W.isFn X.K (.ref f) = true) (hb : Binds X.K fd ps [])
    (hG : Gl X "len") (hm : X.mg "len" = none) (hN : X.N[i]? = some y := by rfl) (hv : Vis X.env.scope y := by first | exact Or.inl rfl | exact Or.inr (Or.inl rfl) | exact Or.inr (Or.inr rfl)) (hd : (y == ("__debug__" : Str)) = false := by decide) (hcd : (y == ("__classdict__" : Str)) = false := by decide)
    (he : starEach [.Name y py] X.env = (false, eval (.Name y py) X.env) :: starEach [] X.env := by rfl) (hpl : (backTo pos (starEach [] X.env)).any (·.1) = false := by rfl) (hbt : bootBuiltins "len" = some (.builtin "len") := by decide +kernel) :
    SD hox X W (.Call (.Name "len" p) [.Name y py] [] pos) (mLenW i F) :=
  PE.imp (pe_callB (call_lenW (C := C) FK hr hs hf hb) hG hm hbt (pa_cons (pe_var hN hv hd hcd) pa_nil he) (by decide) (by decide) he hpl) fun σ H Q ⟨c, s, st, q⟩ => by
    unfold mLenW at q
    cases e0 : wlkAt s i with
    | none => simp only [e0] at q; exact q.elim
    | some wk =>
      obtain ⟨w, k0⟩ := wk
      simp only [e0] at q
      obtain ⟨a, C', dx, v, xs, ys, hp, _, r0⟩ := st.wk e0
      have hC := r0.cl
      rw [T.g] at hC; cases hC
      have e3 : mutAt s i = some (w, k0.o) := by
        obtain ⟨e1, e2⟩ := wlkAt_at e0
        unfold mutAt
        rw [e1]
        cases w with
        | val d => cases e2
        | own o => cases e2; rfl
        | bor o => cases e2; rfl
      refine ⟨.ref a, hp, a, dx, _, rfl, r0.ob, lent_sp (W := W0) st e3 hp rfl .nil ?_⟩
      split at q
      · rename_i n s' e4
        rw [e4]
        intro u H' g
        by_cases z : (decide (0 ≤ n) && decide (n < 4611686018427387904)) = true
        · rw [if_pos z] at q
          obtain ⟨z1, z2⟩ := Bool.and_eq_true_iff.mp z
          obtain ⟨g1, g2⟩ := g
          cases g2
          exact ⟨⟨n, rfl, of_decide_eq_true z1, of_decide_eq_true z2⟩, q H' g1 _ (.int n)⟩
        · rw [if_neg z] at q; exact q.elim
      · exact q.elim
end
end Den

set_option Elab.async false
set_option linter.all false
set_option maxRecDepth 100000
set_option maxHeartbeats 4000000
/-! a new object with lists of its own -/
namespace Den
variable {hox : Option Addr}
open PySem PySem.Spec PyProof.Rows L2
section
variable {K : PySem.W.Frag} {mg : Str → Option Value} {c : Ct} {s : S} {σ : St} {H H' : Hp} {i : Nat} {p : Addr} {o : O}
theorem StR.laidW (x0 : StR hox K mg c s σ H) (sm : Same H H') (new : ∀ b, foot p o b → H b = none) (r : RepO K mg (hid (fun b => hs c s σ b ∨ foot p o b) H') H' p o) (hf : free s i = true) :
    StR hox K mg c (s.set i (some (.own o))) (σ.set i (some (.ref p))) H' ∧ Le (vis c s σ H) (vis c (s.set i (some (.own o))) (σ.set i (some (.ref p))) H') := by
  have x := x0.grow sm
  have hl := x.len
  have hi := free_lt hf
  have out : ∀ b, foot p o b → ¬ hs c s σ b := fun b f => x0.newHid (new b f)
  have ow : ∀ {j : Nat} {o2 : O} {q : Addr}, (s.set i (some (.own o)))[j]? = some (some (.own o2)) → (σ.set i (some (.ref p)))[j]? = some (some (.ref q)) → (i = j ∧ o2 = o ∧ q = p) ∨ (i ≠ j ∧ s[j]? = some (some (.own o2)) ∧ σ[j]? = some (some (.ref q))) := fun {j o2 q} e e2 => by
    rcases set_at e with ⟨rfl, _, z⟩ | ⟨ne, r⟩
    · cases z
      rw [List.getElem?_set_self (by omega)] at e2
      cases e2
      exact .inl ⟨rfl, rfl, rfl⟩
    · rw [List.getElem?_set_ne ne] at e2
      exact .inr ⟨ne, r, e2⟩
  have sub : ∀ b, hs c (s.set i (some (.own o))) (σ.set i (some (.ref p))) b → hs c s σ b ∨ foot p o b := fun b q => by
    rcases q with q | q | ⟨j, o', p', e2, e3, f⟩
    · exact .inl (.inl q)
    · exact .inl (.inr (.inl q))
    · rcases ow e2 e3 with ⟨_, rfl, rfl⟩ | ⟨_, e2, e3⟩
      · exact .inr f
      · exact .inl (.inr (.inr ⟨j, o', p', e2, e3, f⟩))
  -- what was read is still read
  have lo : Le (vis c s σ H) (vis c (s.set i (some (.own o))) (σ.set i (some (.ref p))) H') := hid_le fun b u n e => ⟨fun z => (sub b z).elim n (fun f => by rw [new b f] at e; cases e), sm b u e⟩
  refine ⟨⟨by rw [List.length_set, List.length_set]; exact hl, fun j d e => ?_, fun j o' e => ?_, fun j o' e => ?_, fun j q e => ?_, fun j k oi oj p1 q1 b e1 e2 e3 e4 f1 f2 => ?_, fun j k oi oj p1 q1 b e1 e2 e3 e4 f1 f2 => ?_, fun b hb => ?_, x.keep, x.act, fun q u hq => ?_, x.hot⟩, lo⟩
  · rcases set_at e with ⟨_, _, z⟩ | ⟨ne, e⟩
    · cases z
    · obtain ⟨u, e1, r⟩ := x0.val j d e
      exact ⟨u, by rw [List.getElem?_set_ne ne]; exact e1, r.mono lo⟩
  · rcases set_at e with ⟨rfl, _, z⟩ | ⟨ne, e⟩
    · cases z
      refine ⟨p, by rw [List.getElem?_set_self (by omega)], fun b hb => ⟨fun z => out b hb (.inl z), x0.newBase (new b hb)⟩, r.mono (Le.hsub sub) fun _ _ _ z => z⟩
    · obtain ⟨q, e1, m, r⟩ := x0.own j o' e
      exact ⟨q, by rw [List.getElem?_set_ne ne]; exact e1, m, r.mono lo fun b _ u z => sm b u z⟩
  · rcases set_at e with ⟨_, _, z⟩ | ⟨ne, e⟩
    · cases z
    · obtain ⟨q, e1, m, z, r⟩ := x0.bor j o' e
      exact ⟨q, by rw [List.getElem?_set_ne ne]; exact e1, m, z, r.mono lo fun b _ u z => sm b u z⟩
  · obtain ⟨a, o', e'⟩ := x.brw j q e
    have ne : i ≠ j := fun z => by subst z; exact x.noB hf q e
    exact ⟨a, o', by rw [List.getElem?_set_ne ne]; exact e'⟩
  · rcases ow e1 e3 with ⟨rfl, rfl, rfl⟩ | ⟨_, g1, g3⟩
    · rcases ow e2 e4 with ⟨z, _, _⟩ | ⟨_, e2, e4⟩
      · exact z
      · exact absurd (.inr (.inr ⟨k, oj, q1, e2, e4, f2⟩)) (out b f1)
    · rcases ow e2 e4 with ⟨rfl, rfl, rfl⟩ | ⟨_, g2, g4⟩
      · exact absurd (.inr (.inr ⟨j, oi, p1, g1, g3, f1⟩)) (out b f2)
      · exact x.uni j k oi oj p1 q1 b g1 g2 g3 g4 f1 f2
  · have bw : ∀ {j : Nat} {o2 : O}, (s.set i (some (.own o)))[j]? = some (some (.bor o2)) → s[j]? = some (some (.bor o2)) := fun {j o2} e => by
      rcases set_at e with ⟨_, _, z⟩ | ⟨_, r⟩
      · cases z
      · exact r
    exact x.bun j k oi oj p1 q1 b (bw e1) (bw e2) e3 e4 f1 f2
  · obtain ⟨j, o2, p2, e2, eb, f1⟩ := x.lnt b hb
    have ne : i ≠ j := fun z => by subst z; exact free_nb hf o2 e2
    exact ⟨j, o2, p2, by rw [List.getElem?_set_ne ne]; exact e2, eb, f1⟩
  · obtain ⟨h1, h2, h3, h4⟩ := x.tmp q u hq
    refine ⟨h1, h2, h3, fun j o' p' e1 e2 f => ?_⟩
    rcases ow e1 e2 with ⟨rfl, rfl, rfl⟩ | ⟨_, e1, e2⟩
    · exact out q f (.inr (.inl ⟨u, hq⟩))
    · exact h4 j o' p' e1 e2 f
end
end Den

set_option Elab.async false
set_option linter.all false
set_option maxRecDepth 100000
set_option maxHeartbeats 4000000
/-! Walk.__init__ -/
namespace Den
variable {hox : Option Addr}
open PySem PySem.Spec PyProof.Rows L2
/-- what it promises: need_text's refusal, or the three fields, the two lists new -/
def spWI (K : PySem.W.Frag) (mg : Str → Option Value) (need : FP) : Sp := fun vs H Q E => ∃ (A : Addr → Prop) (p C dx : Addr) (vn vt : V) (dn dt : D), vs = [.ref p, vn, vt] ∧ (∀ b, A b → ∃ o, H b = some o) ∧ A p ∧ H p = some (.ins C dx []) ∧ mg "Walk" = some (.ref C) ∧
  Rep K mg (hid A H) vn dn ∧ Rep K mg (hid A H) vt dt ∧ match need [dn, dt] with
  | .ok (.val .non) _ => ∀ (p1 p2 dx' : Addr) (v1 v2 : V) (H' : Hp), H p1 = none → H p2 = none → p1 ≠ p2 → (∀ b, b ≠ p → ∀ u, H b = some u → H' b = some u) → H' p = some (.ins C dx' [("size", v1), ("texts", .ref p1), ("noted", .ref p2)]) → H' p1 = some (.lst [v2]) → H' p2 = some (.lst []) →
      Rep K mg (hid (fun b => A b ∨ b = p1 ∨ b = p2) H') v1 dn → Rep K mg (hid (fun b => A b ∨ b = p1 ∨ b = p2) H') v2 dt → Q .non H'
  | .exc x _ => ∀ cls dd H', (∀ b, b ≠ p → ∀ u, H b = some u → H' b = some u) → ExcR K mg (hid A H') cls dd x → E cls dd H'
  | _ => False
def mNeed (need : FP) : MS := mDrop (mCall need 2 (lCons (mVar 1) (lCons (mVar 2) lNil)))
def tWI (K : PySem.W.Frag) (mg : Str → Option Value) (W : WX) (need : FP) : TS :=
  tSeq (tS none K mg W (mNeed need)) (tSeq (sFld K (tVar 0) (tVar 1) "size") (tSeq (sFld K (tVar 0) (tLst (tCons (tVar 2) tNil)) "texts") (sFld K (tVar 0) (tLst tNil) "noted")))
section
variable {P : Program} {w : World} {K : PySem.W.Frag} {mg : Str → Option Value} {base : Heap} {k : Nat} {f : Addr} {fd : FuncData} {st : Stmt} {need : FP} {C0 : Addr}
theorem wi_wish (g : mg "Walk" = some (.ref C0)) (hc : Cls K C0) (a1 : NoAttr K C0 "size") (a2 : NoAttr K C0 "texts") (a3 : NoAttr K C0 "noted") {vs : List V} {H : Hp} {Q : VK} {E : XK} (h : spWI K mg need vs H Q E) :
    tWI K mg (fun cls d _ H => E cls d H) need { nx := fun _ H' => Q .non H', rt := Q } (L2.start ["self", "n", "text"] vs) H := by
  obtain ⟨A, p, C, dx, vn, vt, dn, dt, rfl, hA, Ap, hp, gC, rn, rt, q⟩ := h
  rw [g] at gC; cases gC
  have s0 : StR none K mg ⟨H, A, fun i => if i = 0 then some p else none, fun _ _ => False, foot p (.ins "Walk" [])⟩ (some (.bor (.ins "Walk" [])) :: init 2 [dn, dt]) (L2.start ["self", "n", "text"] [.ref p, vn, vt]) H :=
    stR_startL (N := ["self", "n", "text"]) (hox := none) rfl hA (fun b fb => by rw [foot_one rfl fb]; exact Ap) ⟨C0, dx, [], hp, g, .nil⟩ (.cons rn (.cons rt .nil)) (by simp)
  refine ⟨_, _, s0, ?_⟩
  have run : mNeed need (some (.bor (.ins "Walk" [])) :: init 2 [dn, dt]) = (match need [dn, dt] with
      | .ok (.val _) _ => .ok .nx (some (.bor (.ins "Walk" [])) :: init 2 [dn, dt])
      | .ok (.own _) _ => .ok .nx (some (.bor (.ins "Walk" [])) :: init 2 [dn, dt])
      | .exc x _ => .exc x (some (.bor (.ins "Walk" [])) :: init 2 [dn, dt])
      | _ => .bad) := by
    show (if [dn, dt].length = 2 then (match need [dn, dt] with
      | .ok (.val d) _ => Out.ok (Sl.val d) (some (.bor (.ins "Walk" [])) :: init 2 [dn, dt])
      | .ok (.own o) _ => .ok (.own o) (some (.bor (.ins "Walk" [])) :: init 2 [dn, dt])
      | .exc x _ => .exc x (some (.bor (.ins "Walk" [])) :: init 2 [dn, dt])
      | _ => .bad) else .bad).bind (fun _ s1 => Out.ok Fl.nx s1) = _
    rw [if_pos (show [dn, dt].length = 2 from rfl)]
    cases e : need [dn, dt] with
    | ok r s' => cases r <;> rfl
    | exc x s' => rfl
    | bad => rfl
  rw [run]
  have off : ∀ {σ' : St} {H1 : Hp}, StR none K mg ⟨H, A, fun i => if i = 0 then some p else none, fun _ _ => False, foot p (.ins "Walk" [])⟩ (some (.bor (.ins "Walk" [])) :: init 2 [dn, dt]) σ' H1 → ∀ b, b ≠ p → ∀ u, H b = some u → H1 b = some u :=
    fun x b nb u z => x.keep b u (fun fb => nb (foot_one rfl fb)) z
  cases e : need [dn, dt] with
  | bad => rw [e] at q; exact q.elim
  | exc x s' =>
    rw [e] at q
    intro cls dd σ' H1 G r
    exact q cls dd H1 (off G.1) (r.mono Le.toBase)
  | ok r s' =>
    rw [e] at q
    cases r with
    | own o => exact q.elim
    | bor o => exact q.elim
    | val d =>
      cases d with
      | non =>
        intro σ' H1 G
        obtain ⟨p', e0, eB, _, C', dx', xs, e1, e2, e3⟩ := G.1.bor 0 _ rfl
        cases eB
        rw [g] at e2; cases e2
        cases e3
        obtain ⟨v1, f1, r1⟩ := G.1.val 1 dn rfl
        obtain ⟨v2, f2, r2⟩ := G.1.val 2 dt rfl
        have l1 : Le (vis ⟨H, A, fun i => if i = 0 then some p else none, fun _ _ => False, foot p (.ins "Walk" [])⟩ (some (.bor (.ins "Walk" [])) :: init 2 [dn, dt]) σ' H1) (hid A H1) := Le.toBase
        have keep1 := off G.1
        -- self.size = n
        refine ⟨v1, f1, .ref p, e0, p, C0, dx', [], rfl, e1, hc, a1, by decide, ?_⟩
        -- self.texts = [text]
        refine ⟨v2, f2, by rw [sizeLine_eq]; simp, fun p1 n1 => ⟨.ref p, e0, p, C0, dx', [("size", v1)], rfl, ?_, hc, a2, by simp, ?_⟩⟩
        · rw [upd_ne (fun z => by rw [← z, upd_same] at n1; cases n1)]
          exact upd_same
        have np1 : p1 ≠ p := fun z => by rw [z, upd_same] at n1; cases n1
        have n1' : H1 p1 = none := by rw [upd_ne np1] at n1; exact n1
        -- self.noted = []
        refine ⟨by rw [sizeLine_eq]; simp, fun p2 n2 => ⟨.ref p, e0, p, C0, dx', [("size", v1), ("texts", .ref p1)], rfl, ?_, hc, a3, by simp, ?_⟩⟩
        · rw [upd_ne (fun z => by rw [← z, upd_same] at n2; cases n2)]
          exact upd_same
        have np2 : p2 ≠ p := fun z => by rw [z, upd_same] at n2; cases n2
        rw [upd_ne np2] at n2
        have n21 : p2 ≠ p1 := fun z => by rw [z, upd_same] at n2; cases n2
        rw [upd_ne n21, upd_ne np2] at n2
        have fresh : ∀ {b : Addr}, b ≠ p → H1 b = none → H b = none := fun {b} nb z => by
          cases y : H b with
          | none => rfl
          | some u => rw [keep1 b nb u y] at z; cases z
        have up : ∀ b, b ≠ p → ∀ u, H1 b = some u → (upd (upd (upd (upd (upd H1 p (.ins C0 dx' (putF "size" v1 []))) p1 (.lst [v2])) p (.ins C0 dx' (putF "texts" (.ref p1) [("size", v1)]))) p2 (.lst [])) p (.ins C0 dx' (putF "noted" (.ref p2) [("size", v1), ("texts", .ref p1)]))) b = some u := fun b nb u z => by
          rw [upd_ne nb, upd_ne (ne_of_none z n2), upd_ne nb, upd_ne (ne_of_none z n1'), upd_ne nb]
          exact z
        have l2 : Le (hid A H1) (hid (fun b => A b ∨ b = p1 ∨ b = p2) (upd (upd (upd (upd (upd H1 p (.ins C0 dx' (putF "size" v1 []))) p1 (.lst [v2])) p (.ins C0 dx' (putF "texts" (.ref p1) [("size", v1)]))) p2 (.lst [])) p (.ins C0 dx' (putF "noted" (.ref p2) [("size", v1), ("texts", .ref p1)])))) := hid_le fun b u n z => ⟨fun y => y.elim n fun y => y.elim (fun y => by rw [y, n1'] at z; cases z) (fun y => by rw [y, n2] at z; cases z), up b (fun y => n (by rw [y]; exact Ap)) u z⟩
        refine q p1 p2 dx' v1 v2 _ (fresh np1 n1') (fresh np2 n2) (Ne.symm n21) (fun b nb u z => up b nb u (keep1 b nb u z)) upd_same ?_ ?_ ((r1.mono l1).mono l2) ((r2.mono l1).mono l2)
        · rw [upd_ne np1, upd_ne (Ne.symm n21), upd_ne np1]
          exact upd_same
        · rw [upd_ne np2]
          exact upd_same
      | _ => exact q.elim
end
end Den

set_option Elab.async false
set_option linter.all false
set_option maxRecDepth 100000
set_option maxHeartbeats 4000000
/-! Walk.__init__ as a def; y = Walk(n, t), for all addresses of its lists -/
namespace Den
variable {hox : Option Addr}
open PySem PySem.Spec PyProof.Rows L2
section
variable {P : Program} {w : World} {K : PySem.W.Frag} {mg : Str → Option Value} {base : Heap} {k : Nat} {f : Addr} {fd : FuncData} {st : Stmt} {need : FP} {C0 : Addr}
theorem fn_WI {x qual : Str} (F : Fun K x qual st f fd) (S : FnScope ["self", "n", "text"] ["self", "n", "text"] (defScope st)) (g : mg "Walk" = some (.ref C0)) (hc : Cls K C0) (a1 : NoAttr K C0 "size") (a2 : NoAttr K C0 "texts") (a3 : NoAttr K C0 "noted")
    (h : ∀ (cdv : Value) (A : Around) (outer : List Env) (s : Shared) (H : Hp) (E : XK), Room k (A.deeper (envOfC qual (defScope st) s.heap.objs.size f cdv)) →
      PSs (cxOf (L2N.CX P w) P w K mg base ["self", "n", "text"] qual (defScope st) f cdv A outer s H E) (defBody st) (tWI K mg (fun cls d _ H => E cls d H) need)) :
    FnOk P w K mg base (L2N.CX P w) (k + 1) f fd ["self", "n", "text"] (spWI K mg need) :=
  okXN F S (fun vs H Q E ⟨A, p, C, dx, vn, vt, dn, dt, e, _⟩ => by rw [e]; rfl) fun cdv A outer s H vs Q E hr z => ⟨_, h cdv A outer s H E hr, wi_wish g hc a1 a2 a3 z⟩
end
/-- a mirror for all addresses -/
def tSG (hox : Option Addr) (K : PySem.W.Frag) (mg : Str → Option Value) (W : WX) (M : Addr → Addr → MS) : TS := fun D σ H => ∃ c s, StR hox K mg c s σ H ∧ ∀ p1 p2, ResS hox K mg W c s σ H D (M p1 p2 s)
def mNewW (i : Nat) (need : FP) (ml : ML) (p1 p2 : Addr) : MS := fun s => (ml s).bind fun ds s1 => match ds with
  | [n, t] => match need [n, t] with
    | .ok (.val .non) _ => if free s1 i = true then .ok .nx (s1.set i (some (.own (.wlk p1 p2 n [t] [])))) else .bad
    | .exc x _ => .exc x s1
    | _ => .bad
  | _ => .bad
section
variable {X : Cx} {W : WX} {k : Nat} {f C : Addr} {fd : FuncData} {need : FP} {e : Expr} {es : List Expr} {ml : ML} {y x : Str} {p py pos pos2 : Pos} {st : Stmt} {rest : List Stmt} {m : MS} {M : Addr → Addr → MS}
theorem ssg_head {a : Stmt} {N : Addr → Addr → MS} (h1 : PS X a (tSG hox X.K X.mg W N)) (h2 : SSs hox X W rest m) : PSs X (a :: rest) (tSG hox X.K X.mg W fun p1 p2 => mSeq (N p1 p2) m) := by
  refine ⟨fun pins s σ H D I ⟨c, s0, str, q⟩ => (pss_cons h1 h2).run pins s σ H D I ⟨c, s0, str, fun p1 p2 => ?_⟩⟩
  have z := q p1 p2
  cases e : N p1 p2 s0 with
  | bad => simp only [mSeq, e, Out.bind] at z; exact z.elim
  | exc x s' => simp only [mSeq, e, Out.bind] at z; exact z
  | ok f s1 =>
    simp only [mSeq, e, Out.bind] at z
    cases f with
    | nx => exact fun σ' H' g => ⟨c, s1, g.1, ResS.after z g⟩
    | rt r => exact z
    | bk => exact z
    | ct => exact z
end
end Den

set_option Elab.async false
set_option linter.all false
set_option maxRecDepth 100000
set_option maxHeartbeats 4000000
/-! y = Walk(n, t) -/
namespace Den
variable {hox : Option Addr}
open PySem PySem.Spec PyProof.Rows L2
section
variable {X : Cx} {W : WX} {k : Nat} {f C : Addr} {fd : FuncData} {need : FP} {e : Expr} {es : List Expr} {ml : ML} {y : Str} {p py pos spos : Pos}
theorem ss_newW (i : Nat) (hN : X.N.Nodup) (M : Mk X.K C f) (FK : FnOk X.prog X.w X.K X.mg X.base (L2N.CX X.prog X.w) k f fd ["self", "n", "text"] (spWI X.K X.mg need)) (hr : Room (k + 1) X.A) (hm : X.mg "Walk" = some (.ref C)) (hb : Binds X.K fd ["self", "n", "text"] []) (tk : L2N.Takes X W)
    (ha : SL hox X W (e :: es) ml) (hg : Gl X "Walk" := by rfl) (hi : X.N[i]? = some y := by rfl) (hy : Loc X.env.scope y := by first | exact Or.inl rfl | exact Or.inr rfl) (hs : swapsWith (.Call (.Name "Walk" p) (e :: es) [] pos) (some (.Name y py)) spos.line X.env = pure false := by rfl)
    (hf : X.fn y = true ∨ X.env.scope.names.lookup y = some .local := by first | exact .inl rfl | exact .inr rfl | assumption)
    (he : starEach (e :: es) X.env = (false, eval e X.env) :: starEach es X.env := by rfl) (hpl : (backTo pos (starEach es X.env)).any (·.1) = false := by rfl) :
    PS X (.Assign [.Name y py] (.Call (.Name "Walk" p) (e :: es) [] pos) spos) (tSG hox X.K X.mg W (mNewW i need ml)) :=
  PS.imp (ps_set hN hi hy (pe_makeS M FK hr hg hm hb (fun σ => L2N.passAt tk σ) ha (by decide) he hpl) hs hf) fun D σ H ⟨c, s, st, q⟩ => ⟨c, s, st, by
    have qq : ∀ p1 p2, Res hox X.K X.mg c s σ H W (fun ds s1 H1 => ResS hox X.K X.mg W c s1 σ H1 D (match ds with
      | [n, t] => match need [n, t] with
        | .ok (.val .non) _ => if free s1 i = true then .ok .nx (s1.set i (some (.own (.wlk p1 p2 n [t] [])))) else .bad
        | .exc x _ => .exc x s1
        | _ => .bad
      | _ => .bad)) (ml s) := fun p1 p2 => ResS.split (q p1 p2)
    cases e0 : ml s with
    | bad => have z := qq 0 0; rw [e0] at z; exact z.elim
    | exc x s1 => have z := qq 0 0; rw [e0] at z; exact z
    | ok ds s1 =>
      intro H1 g1 vs rs a dx n1 n2 ne
      have q1 : ∀ p1 p2, ResS hox X.K X.mg W c s1 σ H1 D (match ds with
        | [n, t] => match need [n, t] with
          | .ok (.val .non) _ => if free s1 i = true then .ok .nx (s1.set i (some (.own (.wlk p1 p2 n [t] [])))) else .bad
          | .exc x _ => .exc x s1
          | _ => .bad
        | _ => .bad) := fun p1 p2 => by
        have z := qq p1 p2
        rw [e0] at z
        exact z H1 g1
      match ds, vs, rs with
      | [dn, dt], [vn, vt], .cons rn (.cons rt .nil) =>
        have h2 : ∀ b o, H1 b = some o → (upd (upd H1 dx (.own a)) a (.ins C dx [])) b = some o := fun b o eb => by
          rw [upd_ne (ne_of_none eb n1), upd_ne (ne_of_none eb n2)]; exact eb
        have l : Le (vis c s1 σ H1) (hid (fun b => Den.hs c s1 σ b ∨ b = a) (upd (upd H1 dx (.own a)) a (.ins C dx []))) := hid_le fun b o nb eb => ⟨fun z => z.elim nb (ne_of_none eb n1), h2 b o eb⟩
        refine ⟨fun b => Den.hs c s1 σ b ∨ b = a, a, C, dx, vn, vt, dn, dt, rfl, fun b z => ?_, .inr rfl, upd_same, hm, rn.mono l, rt.mono l, ?_⟩
        · rcases z with z | z
          · obtain ⟨o, eo⟩ := g1.1.hidden z
            exact ⟨o, h2 b o eo⟩
          · rw [z]; exact ⟨_, upd_same⟩
        · have sm : ∀ {H' : Hp}, (∀ b, b ≠ a → ∀ u, (upd (upd H1 dx (.own a)) a (.ins C dx [])) b = some u → H' b = some u) → Same H1 H' := fun {H'} kp b o eb => kp b (ne_of_none eb n1) o (h2 b o eb)
          have old : ∀ {b : Addr}, (upd (upd H1 dx (.own a)) a (.ins C dx [])) b = none → H1 b = none := fun {b} z => by
            cases y : H1 b with
            | none => rfl
            | some o => rw [h2 b o y] at z; cases z
          cases e1 : need [dn, dt] with
          | bad => have z := q1 0 0; simp only [e1] at z; exact z.elim
          | exc x s' =>
            have z := q1 0 0
            simp only [e1] at z
            intro cls dd H' kp r
            have G := Go.grow g1.1 (sm kp)
            exact z cls dd σ H' G (r.mono (hid_le fun b o nb eb => ⟨fun h => nb (.inl h), eb⟩))
          | ok r s' =>
            cases r with
            | own o => have z := q1 0 0; simp only [e1] at z; exact z.elim
            | bor o => have z := q1 0 0; simp only [e1] at z; exact z.elim
            | val d =>
              cases d with
              | non =>
                intro p1 p2 dx' v1 v2 H' m1 m2 m12 kp o1 o2 o3 r1 r2
                refine ⟨rfl, ?_⟩
                have z := q1 p1 p2
                simp only [e1] at z
                by_cases fr : free s1 i = true
                · rw [if_pos fr] at z
                  have s1' := sm kp
                  have na1 : a ≠ p1 := fun y => by rw [← y, upd_same] at m1; cases m1
                  have na2 : a ≠ p2 := fun y => by rw [← y, upd_same] at m2; cases m2
                  have m1' := old m1
                  have m2' := old m2
                  have ls : Le (hid (fun b => (Den.hs c s1 σ b ∨ b = a) ∨ b = p1 ∨ b = p2) H') (hid (fun b => Den.hs c s1 σ b ∨ foot a (.wlk p1 p2 dn [dt] []) b) H') := Le.hsub fun b h => by
                    rcases h with h | h | h
                    · exact .inl (.inl h)
                    · exact .inl (.inr h)
                    · simp only [O.sub, List.mem_cons, List.not_mem_nil, or_false] at h
                      exact .inr h
                  refine z _ _ (g1.1.laidW (p := a) (o := .wlk p1 p2 dn [dt] []) s1' (fun b h => ?_) ⟨C, dx', v1, [v2], [], o1, hm, na1, na2, m12, o2, o3, r1.mono ls, .cons (r2.mono ls) .nil, .nil⟩ fr)
                  rcases h with h | h
                  · rw [h]; exact n1
                  · simp only [O.sub, List.mem_cons, List.not_mem_nil, or_false] at h
                    rcases h with h | h
                    · rw [h]; exact m1'
                    · rw [h]; exact m2'
                · rw [if_neg fr] at z; exact z.elim
              | _ => have z := q1 0 0; simp only [e1] at z; exact z.elim
      | [], _, _ => have z := q1 0 0; exact z.elim
      | [_], _, _ => have z := q1 0 0; exact z.elim
      | _ :: _ :: _ :: _, _, _ => have z := q1 0 0; exact z.elim⟩
end
end Den

set_option Elab.async false
set_option linter.all false
set_option maxRecDepth 100000
set_option maxHeartbeats 4000000
/-! a def whose mirror stands for all addresses; the law's end -/
namespace Den
variable {hox : Option Addr}
open PySem PySem.Spec PyProof.Rows L2
def spPG (K : PySem.W.Frag) (mg : Str → Option Value) (n : Nat) (F : Addr → Addr → FP) : Sp := fun vs H Q E => ∃ (A : Addr → Prop) (ds : List D), (∀ p, A p → ∃ o, H p = some o) ∧ ds.length = n ∧ RepL K mg (hid A H) vs ds ∧ ∀ p1 p2, EndP K mg A (fun _ => False) H (fun _ _ => True) Q E (F p1 p2 ds)
section
variable {P : Program} {w : World} {K : PySem.W.Frag} {mg : Str → Option Value} {base : Heap}
theorem fn_PG {x qual : Str} {st : Stmt} {f : Addr} {fd : FuncData} {N ps : List Str} {k : Nat} {M : Addr → Addr → MS} (F : Fun K x qual st f fd) (S : FnScope N ps (defScope st))
    (h : ∀ (cdv : Value) (A : Around) (outer : List Env) (s : Shared) (H : Hp) (E : XK), Room k (A.deeper (envOfC qual (defScope st) s.heap.objs.size f cdv)) →
      PSs (cxOf (L2N.CX P w) P w K mg base N qual (defScope st) f cdv A outer s H E) (defBody st) (tSG none K mg (fun cls d _ H => E cls d H) M)) :
    FnOk P w K mg base (L2N.CX P w) (k + 1) f fd ps (spPG K mg ps.length (fun p1 p2 => runP N.length ps.length (M p1 p2))) := by
  refine okXN F S (fun vs H Q E ⟨A, ds, _, hl, r, _⟩ => by rw [r.length, hl]) fun cdv A outer s H vs Q E hr ⟨A', ds, hA, hl, r, q⟩ => ?_
  refine ⟨_, h cdv A outer s H E hr, ⟨H, A', fun _ => none, fun _ _ => False, fun _ => False⟩, init N.length ds, ?_, fun p1 p2 => ?_⟩
  · have := congrArg List.length S.pre
    rw [List.length_take] at this
    exact stR_start (hox := none) (fun a e => by cases e) hA r (by omega)
  · have q := q p1 p2
    simp only [runP, if_pos hl] at q
    exact end_of (hox := none) (c := ⟨H, A', fun _ => none, fun _ _ => False, fun _ => False⟩) rfl (fun b z => z.elim) (fun _ _ _ _ => trivial) q
end
end Den

set_option Elab.async false
set_option linter.all false
set_option maxRecDepth 100000
set_option maxHeartbeats 4000000
/-! Walk(n, t) that is refused -/
namespace Den
variable {hox : Option Addr}
open PySem PySem.Spec PyProof.Rows L2
def mNewX (need : FP) (ml : ML) : MO := fun s => (ml s).bind fun ds s1 => match ds with
  | [n, t] => match need [n, t] with
    | .exc x _ => .exc x s1
    | _ => .bad
  | _ => .bad
section
variable {X : Cx} {W : WX} {k : Nat} {f C : Addr} {fd : FuncData} {need : FP} {e : Expr} {es : List Expr} {ml : ML} {p pos : Pos}
end
end Den

set_option Elab.async false
set_option linter.all false
set_option maxRecDepth 100000
set_option maxHeartbeats 4000000
/-! if self.noted == m -/
namespace Den
variable {hox : Option Addr}
open PySem PySem.Spec PyProof.Rows L2
section
variable {X : Cx} {W : WX} {b : Expr} {m : MD} {pos p py : Pos} {y : Str} {C : Addr}
theorem sb_weq (i : Nat) (T : WkC X C) (hu : X.A.units + 64 < cLine) (hb : SD hox X W b m) (hN : X.N[i]? = some y := by rfl) (hv : Vis X.env.scope y := by first | exact Or.inl rfl | exact Or.inr (Or.inl rfl) | exact Or.inr (Or.inr rfl)) (hd : (y == ("__debug__" : Str)) = false := by decide) (hcd : (y == ("__classdict__" : Str)) = false := by decide)
    (hba : attributeBase (.Name y py) "noted" X.env (eval (.Name y py) X.env) = eval (.Name y py) X.env := by rfl) (hm : behindInMarks .Eq b = false := by rfl) : SB hox X W (.Compare (.Attribute (.Name y py) "noted" p) [.Eq] [b] pos) (mTest (mWEq i m)) :=
  PT.imp (pt_cmpR (op_eqD hu) (pe_nm i hN hv hd hcd hba) hb hm) fun σ H Q ⟨c, s, st, q⟩ => by
    unfold mTest mWEq at q
    cases e0 : wlkAt s i with
    | none => simp only [e0] at q; exact q.elim
    | some wk =>
      obtain ⟨w, k⟩ := wk
      simp only [e0] at q
      have q : Res hox X.K X.mg c s σ H W (fun b s' H' => Q b H') ((m s).bind fun d s1 => (match wlkAt s1 i with
        | some (_, k') => if k'.p2 = k.p2 then o2 (gEq (.lst k'.ns) d) s1 else Out.bad
        | none => .bad).bind fun d s1 => match d with
          | .bl b => .ok b s1
          | _ => .bad) := by
        cases e : m s <;> (rw [e] at q; exact q)
      unfold tTest tOp
      refine nm_noted T st e0 ?_
      refine ⟨c, s, st, q.split.imp fun dy s1 H1 g1 q1 vy ry => ?_⟩
      cases e1 : wlkAt s1 i with
      | none => simp only [e1] at q1; exact q1.elim
      | some wk1 =>
        obtain ⟨w1, k1⟩ := wk1
        simp only [e1] at q1
        obtain ⟨a, C', dx, v1, xs, ys, hp, f, r1⟩ := g1.1.wk e1
        by_cases same : k1.p2 = k.p2
        · rw [if_pos same] at q1
          unfold o2 gEq at q1
          cases z : eqD (.lst k1.ns) dy with
          | none => rw [z] at q1; exact q1.elim
          | some kk =>
            rw [z] at q1
            have l : Le (vis c s1 σ H1) (hid (fun a => Den.hs c s1 σ a ∧ a ≠ k.p2) H1) := hid_le fun a o nb e => ⟨fun h => nb h.1, e⟩
            have hpp : hid (fun a => Den.hs c s1 σ a ∧ a ≠ k.p2) H1 k.p2 = some (.lst ys) := by
              rw [hid_no (fun h => h.2 rfl), ← same]; exact r1.h2
            obtain ⟨a, a', a1, a2, a3, a4, a5⟩ := eqD_dp hid_base (Rep.lst hpp (r1.rs.mono l)) (ry.mono l) z
            exact ⟨a, a', a1, a2, a3, a4, by rw [a5]; exact ⟨_, rfl, q1 H1 (.refl g1.1)⟩⟩
        · rw [if_neg same] at q1; exact q1.elim
end
end Den

set_option Elab.async false
set_option linter.all false
set_option maxRecDepth 100000
set_option maxHeartbeats 4000000
/-! W rules: exceptions with fields, own +, ==, len -/
namespace Den
variable {hox : Option Addr}
open PySem PySem.Spec PyProof.Rows L2
/-- an own object's making that raises -/
@[irreducible] def MEx (F : FL) (cn : Str) (ds : List D) (x : Exc) : Prop := ∃ s, F (.ins cn []) ds = .exc x s
theorem MEx.get {F : FL} {cn : Str} {ds : List D} {x : Exc} (h : MEx F cn ds x) : ∃ s, F (.ins cn []) ds = .exc x s := by with_unfolding_all exact h
theorem MEx.mk {F : FL} {cn : Str} {ds : List D} {x : Exc} (h : ∃ s, F (.ins cn []) ds = .exc x s) : MEx F cn ds x := by with_unfolding_all exact h
section
variable {s : S} {n : Nat} {cn : Str} {ml : ML} {mb : MS} {ma m2 m : MD} {P : D → S → Prop} {PO : Sl → S → Prop} {PS : Fl → S → Prop} {E : Exc → S → Prop}
end
end Den

set_option Elab.async false
set_option linter.all false
set_option maxRecDepth 100000
set_option maxHeartbeats 4000000
/-! W rules: what is done with a Walk; an exception held -/
namespace Den
variable {hox : Option Addr}
open PySem PySem.Spec PyProof.Rows L2
/-- a def that is lent a Walk -/
@[irreducible] def WOk (F : FL) (k : Wk) (ds : List D) (r : D) (k' : Wk) : Prop := ∃ s, F k.o ds = .ok (.val r) s ∧ s[0]? = some (some (.bor k'.o)) ∧ k.o.sub = k'.o.sub
theorem WOk.get {F : FL} {k k' : Wk} {ds : List D} {r : D} (h : WOk F k ds r k') : ∃ s, F k.o ds = .ok (.val r) s ∧ s[0]? = some (some (.bor k'.o)) ∧ k.o.sub = k'.o.sub := by with_unfolding_all exact h
theorem WOk.mk {F : FL} {k k' : Wk} {ds : List D} {r : D} (h : ∃ s, F k.o ds = .ok (.val r) s ∧ s[0]? = some (some (.bor k'.o)) ∧ k.o.sub = k'.o.sub) : WOk F k ds r k' := by with_unfolding_all exact h
@[irreducible] def WEx (F : FL) (k : Wk) (ds : List D) (x : Exc) : Prop := ∃ s, F k.o ds = .exc x s ∧ s[0]? = some (some (.bor k.o))
theorem WEx.get {F : FL} {k : Wk} {ds : List D} {x : Exc} (h : WEx F k ds x) : ∃ s, F k.o ds = .exc x s ∧ s[0]? = some (some (.bor k.o)) := by with_unfolding_all exact h
theorem WEx.mk {F : FL} {k : Wk} {ds : List D} {x : Exc} (h : ∃ s, F k.o ds = .exc x s ∧ s[0]? = some (some (.bor k.o))) : WEx F k ds x := by with_unfolding_all exact h
def kW (r : D) (k' : Wk) : Fl → S → Prop
  | .rt (.val d), s => d = r ∧ s[0]? = some (some (.bor k'.o))
  | _, _ => False
theorem wok {N n : Nat} {m : MS} {k k' : Wk} {ds : List D} {r : D} (hn : ds.length + 1 = n) (hz : k.o.sub = k'.o.sub) (h : W (m (some (.bor k.o) :: init (N - 1) ds)) (kW r k') E9) : WOk (runL N n m) k ds r k' := by
  refine WOk.mk ?_
  obtain ⟨f, s, e, q⟩ := h.get
  unfold runL
  rw [if_pos hn, e]
  cases f with
  | rt u =>
    cases u with
    | val d => obtain ⟨q1, q2⟩ := q; subst q1; exact ⟨s, rfl, q2, hz⟩
    | own o => exact q.elim
    | bor o => exact q.elim
  | nx => exact q.elim
  | bk => exact q.elim
  | ct => exact q.elim
def mCallW (i : Nat) (F : FL) (n : Nat) (ml : ML) : MO := mCallL i F n ml
section
variable {s : S} {i n : Nat} {cn : Str} {ml : ML} {m : MD} {P : D → S → Prop} {PO : Sl → S → Prop} {PS : Fl → S → Prop} {E : Exc → S → Prop} {w0 w : Sl} {k0 : Wk} {p1 p2 : Addr} {d0 z : D} {ts ns : List D}
theorem wlk_mut (e : wlkAt s i = some (w0, k0)) : mutAt s i = some (w0, k0.o) := by
  obtain ⟨e1, e2⟩ := wlkAt_at e
  unfold mutAt
  rw [e1]
  cases w0 with
  | val d => cases e2
  | own o => cases e2; rfl
  | bor o => cases e2; rfl
theorem w_wsize (e : wlkAt s i = some (w, ⟨p1, p2, d0, ts, ns⟩)) (h : P d0 s) : W (mWSize i s) P E := by
  unfold mWSize
  simp only [e]
  exact w_ok h
theorem w_wix (e : wlkAt s i = some (w0, k0)) (h : W (m s) (fun d s1 => ∃ w p2 d0 ts ns j z, wlkAt s1 i = some (w, ⟨k0.p1, p2, d0, ts, ns⟩) ∧ d = .int j ∧ atI ts j = some z ∧ P z s1) E) : W (mWIx i m s) P E := by
  unfold mWIx
  simp only [e]
  refine w_bind (h.imp ?_)
  rintro d s1 ⟨w, p2, d0, ts, ns, j, z, e1, rfl, e2, q⟩
  simp only [e1, if_pos, e2]
  exact w_ok q
theorem w_wappT (e : wlkAt s i = some (w0, k0)) (h : W (m s) (fun d s1 => ∃ w p2 d0 ts ns, wlkAt s1 i = some (w, ⟨k0.p1, p2, d0, ts, ns⟩) ∧ fits (ts.length + 1) = true ∧ PO (.val .non) (s1.set i (some (w.re (.wlk k0.p1 p2 d0 (ts ++ [d]) ns))))) E) : W (mWAppT i m s) PO E := by
  unfold mWAppT
  simp only [e]
  refine w_bind (h.imp ?_)
  rintro d s1 ⟨w, p2, d0, ts, ns, e1, f, q⟩
  simp only [e1, f, decide_true, Bool.and_self, if_pos]
  exact w_ok q
theorem w_wappN (e : wlkAt s i = some (w0, k0)) (h : W (m s) (fun d s1 => ∃ w p1 d0 ts ns, wlkAt s1 i = some (w, ⟨p1, k0.p2, d0, ts, ns⟩) ∧ fits (ns.length + 1) = true ∧ PO (.val .non) (s1.set i (some (w.re (.wlk p1 k0.p2 d0 ts (ns ++ [d])))))) E) : W (mWAppN i m s) PO E := by
  unfold mWAppN
  simp only [e]
  refine w_bind (h.imp ?_)
  rintro d s1 ⟨w, p1, d0, ts, ns, e1, f, q⟩
  simp only [e1, f, decide_true, Bool.and_self, if_pos]
  exact w_ok q
theorem w_wpopT (e : wlkAt s i = some (w, ⟨p1, p2, d0, ts ++ [z], ns⟩)) (h : PO (.val z) (s.set i (some (w.re (.wlk p1 p2 d0 ts ns))))) : W (mWPopT i s) PO E := by
  unfold mWPopT
  have e2 : (ts ++ [z])[(ts ++ [z]).length - 1]? = some z := by simp
  simp only [e, e2]
  refine w_ok ?_
  simp only [Wk.wt, Wk.o, List.dropLast_concat]
  exact h
theorem w_wpopN (e : wlkAt s i = some (w, ⟨p1, p2, d0, ts, ns ++ [z]⟩)) (h : PO (.val z) (s.set i (some (w.re (.wlk p1 p2 d0 ts ns))))) : W (mWPopN i s) PO E := by
  unfold mWPopN
  have e2 : (ns ++ [z])[(ns ++ [z]).length - 1]? = some z := by simp
  simp only [e, e2]
  refine w_ok ?_
  simp only [Wk.wn, Wk.o, List.dropLast_concat]
  exact h
theorem w_wlen (e : wlkAt s i = some (w, ⟨p1, p2, d0, ts, ns⟩)) (h : P (.int (ns.length : Nat)) s) : W (mWLen i s) P E := by
  unfold mWLen
  simp only [e]
  exact w_ok h
theorem w_wlist (e : wlkAt s i = some (w, ⟨p1, p2, d0, ts, ns⟩)) (h : PO (.own (.lst ns)) s) : W (mWList i s) PO E := by
  unfold mWList
  simp only [e]
  exact w_ok h
theorem w_weq (e : wlkAt s i = some (w0, k0)) (h : W (m s) (fun d s1 => ∃ w p1 d0 ts ns, wlkAt s1 i = some (w, ⟨p1, k0.p2, d0, ts, ns⟩) ∧ Sm (gEq (.lst ns) d) fun z => P z s1) E) : W (mWEq i m s) P E := by
  unfold mWEq
  simp only [e]
  refine w_bind (h.imp ?_)
  rintro d s1 ⟨w, p1, d0, ts, ns, e1, q⟩
  simp only [e1, if_pos]
  exact w_o2 q
theorem w_callW {F : FL} (e : wlkAt s i = some (w0, k0)) (h : W (ml s) (fun ds s1 => ∃ w k1 r k', wlkAt s1 i = some (w, k1) ∧ ds.length + 1 = n ∧ WOk F k1 ds r k' ∧ PO (.val r) (s1.set i (some (w.re k'.o)))) E) : W (mCallL i F n ml s) PO E := by
  unfold mCallL
  simp only [wlk_mut e]
  refine w_bind (h.imp ?_)
  rintro ds s1 ⟨w, k1, r, k', e1, hl, hk, q⟩
  obtain ⟨s', f, f0, hz⟩ := hk.get
  simp only [wlk_mut e1, if_pos hl, f, lentOut, f0, if_pos ((mutAt_sub (wlk_mut e1)).trans hz)]
  exact w_ok q
theorem w_methW {F : FL} (e : wlkAt s i = some (w0, k0)) (h : W (mCallL i F n ml s) PO E) : W (mMethL i F n ml s) PO E := by
  unfold mMethL
  simp only [e]
  exact h
theorem w_lenW {F : FL} {k : Nat} {k1 : Wk} (e : wlkAt s i = some (w, k1)) (hk : WOk F k1 [] (.int (k : Nat)) k1) (hl : k ≤ 1000000) (h : P (.int (k : Nat)) (s.set i (some (w.re k1.o)))) : W (mLenW i F s) P E := by
  unfold mLenW
  obtain ⟨s', f, f0, hz⟩ := hk.get
  simp only [e, f, lentOut, f0, if_pos (mutAt_sub (wlk_mut e))]
  rw [if_pos (by rw [Bool.and_eq_true, decide_eq_true_eq, decide_eq_true_eq]; omega)]
  exact w_ok h
theorem w_newW {need : FP} (h : W (ml s) (fun ds s1 => ∃ a b, ds = [a, b] ∧ FEq need [a, b] (.val .non) ∧ free s1 i = true ∧ PS .nx (s1.set i (some (.own (.wlk p1 p2 a [b] []))))) E) : W (mNewW i need ml p1 p2 s) PS E := by
  unfold mNewW
  refine w_bind (h.imp ?_)
  rintro ds s1 ⟨a, b, rfl, hf, f, q⟩
  obtain ⟨r, s', e, _, er⟩ := hf.get
  subst er
  simp only [e, if_pos f]
  exact w_ok q
end
end Den

set_option Elab.async false
set_option linter.all false
set_option maxRecDepth 100000
set_option maxHeartbeats 4000000
/-! for k in D, D a dict of the module; a call of no arguments -/
namespace Den
variable {hox : Option Addr}
open PySem PySem.Spec PyProof.Rows L2
/-- the turns over a written dict's text keys -/
def ItK (ks : List Str) : It := ⟨fun i _ => i < ks.length, fun i H x H' => H' = H ∧ ∃ k, ks[i]? = some k ∧ x = .str k, fun i _ => ks.length ≤ i⟩
def txtK (e : DictEntry) : Option Str := match e.key with
  | .str k _ => some k
  | _ => none
def keyL (K : PySem.W.Frag) (a : Addr) (ks : List Str) : Bool := match K.lookup a with
  | some ⟨_, _, .dict es _, _⟩ => decide (es.toList.map txtK = ks.map some)
  | _ => false
theorem keyL_ok {K : PySem.W.Frag} {w : World} {a : Addr} {ks : List Str} {es : Array DictEntry} {n : Nat} (D : KDict K w a es n) (h : keyL K a ks = true) : es.size = ks.length ∧ ∀ (i : Nat) (k : Str), ks[i]? = some k → ∃ (en : DictEntry) (t : Tok), es[i]? = some en ∧ en.key = .str k t := by
  unfold keyL at h
  rw [D.at_] at h
  have h : es.toList.map txtK = ks.map some := of_decide_eq_true h
  have hl : es.size = ks.length := by
    have := congrArg List.length h
    simpa using this
  refine ⟨hl, fun i k e => ?_⟩
  have hi : i < es.size := by
    have := (List.getElem?_eq_some_iff.mp e).1
    omega
  have e2 : (es.toList.map txtK)[i]? = some (some k) := by
    rw [h, List.getElem?_map, e]
    rfl
  rw [List.getElem?_map, Array.getElem?_toList, Array.getElem?_eq_getElem hi] at e2
  have e2 : txtK es[i] = some k := Option.some.inj e2
  refine ⟨es[i], ?_⟩
  unfold txtK at e2
  split at e2
  · rename_i k' t ek
    cases e2
    exact ⟨t, Array.getElem?_eq_getElem hi, ek⟩
  · cases e2
theorem turn_K {P : Program} {w : World} {K : PySem.W.Frag} {tg : Expr} {d : Addr} {es : Array DictEntry} {n : Nat} {ks : List Str} (it : Addr) (D : KDict K w d es n) (h : keyL K d ks = true) : Turn P w K tg (ItK ks) [it] it (fun i h => h.IsKeyIter it d i ks.length n) where
  mem := by simp
  obj := fun i h st b hb => by
    have e : b = it := by simpa using hb
    subst e
    obtain ⟨oi, e, _, dd⟩ := st
    exact ⟨oi, e, fun v z => by rw [dd] at z; cases z⟩
  keep := fun i h h' st k => st.at fun oi e => k it (by simp) oi e
  item := by
    rintro X hP hw hK hc i pins s σ H E I hf st (hi : i < ks.length)
    subst hP hw hK
    obtain ⟨f0, f1, f2, f3, f4, f5⟩ := hf it (by simp)
    obtain ⟨hsz, hk⟩ := keyL_ok D h
    obtain ⟨en, t, hen, hkey⟩ := hk i _ (List.getElem?_eq_getElem hi)
    refine next_key_item st (I.kIn _ _ D.at_) rfl hsz hen fun h' st' sb => ?_
    have J : Inv X pins σ H { s with heap := h' } := I.turned (t' := s.toks) (fun b ob hb e => (sb.2 b hb).trans e) f0 f1 f3 f4 f5
    obtain ⟨oi, e, c, dd⟩ := id st'
    exact ⟨en.key, rfl, go_of (s := { s with heap := h' }) e c dd (by decide) ⟨.str ks[i], H, J, ⟨t, hkey⟩, ⟨rfl, _, List.getElem?_eq_getElem hi, rfl⟩, st', fun b hb => (hf b hb).1⟩⟩
  done := by
    rintro X hP hw hK hc i pins s σ H E I hf st (hi : ks.length ≤ i)
    subst hP hw hK
    obtain ⟨f0, f1, f2, f3, f4, f5⟩ := hf it (by simp)
    obtain ⟨hsz, _⟩ := keyL_ok D h
    exact next_key_end (I.ok.hd hc) st (I.kIn _ _ D.at_) rfl hsz hi fun h' eb => ⟨rfl, I.turned (t' := s.toks) (fun b ob hb e => eb b ob hb e) f0 f1 f3 f4 f5⟩
  self := fun A i s Q E st h => wpAny_pyIter_keyiter st h
def tKeysK (ks : List Str) : TI := fun σ H R => R (ItK ks) H
def iKeyK (ks : List Str) : MI := fun s => .ok (ks.map .str) s
section
variable {X : Cx} {W : WX} {tg : Expr} {x : Str} {p : Pos} {a : Addr} {ks : List Str} {tb : Tb}
theorem pi_keyK {es : Array DictEntry} {n : Nat} (T : KDict X.K X.w a es n) (h : keyL X.K a ks = true) (hg : Gl X x) (hm : X.mg x = some (.ref a)) (hd : (x == ("__debug__" : Str)) = false) : PI X tg (.Name x p) (tKeysK ks) := by
  refine ⟨fun pins s σ H R I q => ?_⟩
  refine thn ((pe_glob (v := .ref a) hg hm rfl hd).run pins s σ H (fun y H' => y = .ref a ∧ R (ItK ks) H') I ⟨rfl, q⟩) fun u s1 ⟨y, H1, J, ry, ey, q⟩ => ?_
  subst ey
  cases ry
  have hsz := (keyL_ok T h).1
  refine iter_keys T.low (J.kIn _ _ T.at_) ⟨rfl, rfl, rfl⟩ rfl (pi_one (tk := s1.toks) J _ (turn_K _ T h) ⟨_, Heap.get?_push_size _ rfl, rfl, ?_⟩ q)
  rw [hsz] <;> rfl
theorem si_keyK (T : TbOk X.K X.w a tb) (h : keyL X.K a ks = true) (hm : X.mg x = some (.ref a)) (hg : Gl X x := by rfl) (hd : (x == ("__debug__" : Str)) = false := by decide) : SI hox X W tg (.Name x p) (iKeyK ks) := by
  obtain ⟨es, n, kd⟩ := T.kd
  refine PI.imp (pi_keyK kd h hg hm hd) fun σ H R ⟨c, s, st, q⟩ => ?_
  refine q H (.refl st) _ ⟨fun i d h1 H1 e nh l => ?_, fun h1 H1 l => ?_⟩
  · rw [List.getElem?_map] at e
    cases e0 : ks[i]? with
    | none => rw [e0] at e; cases e
    | some k =>
      rw [e0] at e; cases e
      refine ⟨(List.getElem?_eq_some_iff.mp e0).1, fun y H' ⟨eh, k', e2, ey⟩ => ?_⟩
      rw [e0] at e2; cases e2
      subst eh ey
      exact ⟨Same.refl _, .str _⟩
  · show ks.length ≤ (ks.map Den.D.str).length
    rw [List.length_map]
    exact Nat.le_refl _
end
section
variable {X : Cx} {W : WX} {k : Nat} {f : Addr} {fd : FuncData} {ps : List Str} {x : Str} {p pos : Pos}
theorem pe_callZ {CX : CXT} {sp : Sp} {E : St → XK} (FK : FnOk X.prog X.w X.K X.mg X.base CX k f fd ps sp) (hr : Room k X.A) (hg : Gl X x) (hm : X.mg x = some (.ref f)) (hk : PySem.W.keepIn X.K (.ref f) = true) (hb : Binds X.K fd ps []) (hx : ∀ σ, PassesAt CX X σ (E σ))
    (hd : (x == ("__debug__" : Str)) = false) : PE X (.Call (.Name x p) [] [] pos) (fun σ H Q => sp [] H Q (E σ)) := by
  refine ⟨fun pins s σ H Q I h => ?_⟩
  refine wpAny_Call_Name_kw (ld_glob I hg hm ?_ hd)
  exact PySem.W.callWith_K0 I.kIn hk (run_fnS (us := []) (vs := []) FK hr hb (hx σ) I .nil h)
theorem so_call0 {F : FP} (FK : FnOk X.prog X.w X.K X.mg X.base (L2N.CX X.prog X.w) k f fd ps (spP X.K X.mg 0 F)) (hr : Room k X.A) (hm : X.mg x = some (.ref f)) (hk : PySem.W.keepIn X.K (.ref f) = true) (hb : Binds X.K fd ps []) (tk : L2N.Takes X W)
    (hg : Gl X x := by rfl) (hd : (x == ("__debug__" : Str)) = false := by decide) : SO hox X W (.Call (.Name x p) [] [] pos) (mCall F 0 lNil) :=
  PE.imp (pe_callZ FK hr hg hm hk hb (fun σ => L2N.passAt tk σ) hd) fun σ H Q ⟨c, s, st, q⟩ => by
    have q1 := (ResO.split (o := lNil s) q) H (.refl st)
    simp only [List.length_nil, if_pos] at q1
    refine ⟨hs c s σ, [], fun p h => st.hidden h, rfl, .nil, ?_⟩
    cases e1 : F [] with
    | ok r s' =>
      cases r with
      | val d =>
        simp only [e1] at q1
        intro v H' kp _ rv
        exact q1 v H' ⟨.grow st fun b o e => kp b o (fun z => z) e, rv⟩
      | own o =>
        simp only [e1] at q1
        intro p H' hz n kp _ ro
        obtain ⟨ho, hp⟩ := ro.there
        obtain ⟨a1, a2, a3⟩ := st.allocG n (fun b o e => kp b o (fun z => z) e) hp
        exact q1 _ H' ⟨p, ho, rfl, hz, a3, a1, a2, ro.mono (Le.hsub fun b z => hs_ext.mp z) fun _ _ _ h => h⟩
      | bor o => simp only [e1] at q1; exact q1.elim
    | exc y s' =>
      simp only [e1] at q1
      intro cls dd H' kp _ r
      exact q1 cls dd H' (.grow st fun b o e => kp b o (fun z => z) e) r
    | bad => simp only [e1] at q1; exact q1.elim
end
end Den

set_option Elab.async false
set_option linter.all false
set_option maxRecDepth 100000
set_option maxHeartbeats 4000000
/-! sorted(xs), xs a list of tuples: a word, then ints -/
namespace Den
variable {hox : Option Addr}
open PySem PySem.Spec PyProof.Rows L2
abbrev WI := Str × List Int
def ltI2 : List Int → List Int → Bool
  | [], ys => !ys.isEmpty
  | _ :: _, [] => false
  | a :: as, b :: bs => if a = b then ltI2 as bs else decide (a < b)
def ltW (k j : WI) : Bool := if k.1 = j.1 then ltI2 k.2 j.2 else decide (k.1.cps.toList < j.1.cps.toList)
/-- the value is such a tuple -/
def IsWI (h : Heap) (v : Value) (k : WI) : Prop := ∃ (a : Addr) (o : Obj) (xs : Array Value) (t : Tok) (r : List Value) (n : Nat), v = .ref a ∧ h.get? a = some o ∧ o.cls = .type "tuple" ∧ o.data = .seq xs n ∧ xs.toList = .str k.1 t :: r ∧ IntsAre r k.2
theorem IsWI.up {h h' : Heap} {v : Value} {k : WI} (x : IsWI h v k) (kp : ∀ b o, h.get? b = some o → o.cls = .type "tuple" → h'.get? b = some o) : IsWI h' v k := by
  obtain ⟨a, o, xs, t, r, n, e, ho, hc, hd, hx, hr⟩ := x
  exact ⟨a, o, xs, t, r, n, e, kp _ _ ho hc, hc, hd, hx, hr⟩
section
variable {prog : Program} {w : World} {A : Around} {s : Shared}
theorem lex_I2 {b fin : Bool} {R : Bool → Shared → Prop} {xs ys : List Value} {ns ms : List Int} (hx : IntsAre xs ns) : ∀ {ys : List Value} {ms : List Int} (i : Nat), IntsAre ys ms → fin = decide (ns.length < ms.length) → R (ltI2 ns ms) s → PySem.W.KatLex prog w A b fin R (xs.zip ys) i s := by
  induction hx with
  | nil =>
    intro ys ms i hy hf q
    have e : ltI2 [] ms = fin := by
      rw [hf]
      cases ms <;> rfl
    rw [e] at q
    cases ys <;> exact PySem.W.kat_nil q
  | @cons p t xs ns hx ih =>
    intro ys ms i hy hf q
    cases hy with
    | nil =>
      have e : ltI2 (p :: ns) [] = fin := by
        rw [hf]
        rfl
      rw [e] at q
      exact PySem.W.kat_nil q
    | @cons q' u ys ms hy =>
      show PySem.W.KatLex prog w A b fin R ((Value.int p t, Value.int q' u) :: xs.zip ys) i s
      refine PySem.W.kat_cons (wpAny_eqBool_int ?_)
      by_cases e : p = q'
      · subst e
        rw [beq_self_eq_true]
        have d : ltI2 (p :: ns) (p :: ms) = ltI2 ns ms := if_pos rfl
        rw [d] at q
        refine PySem.W.kat_yes (ih (i + 1) hy ?_ q)
        rw [hf]
        simp
      · rw [show (p == q') = false from beq_eq_false_iff_ne.mpr e]
        have d : ltI2 (p :: ns) (q' :: ms) = decide (p < q') := if_neg e
        rw [d] at q
        exact PySem.W.kat_no (TS.oneLt_ints _ q)
theorem cmp_W {vs : List Value} {k : Value → WI} {f : Value → Int} (hp : ∀ v ∈ vs, IsWI s.heap v (k v)) (hf : ∀ v ∈ vs, ∀ u ∈ vs, ltW (k v) (k u) = decide (f v < f u)) : SrtO.Cmp prog w A s (tuples' true) (fun p => p.1 ∈ vs) (SrtO.lt2 fun v u => decide (f v < f u)) := by
  intro p q hm hm'
  have h1 := hp _ hm
  have h2 := hp _ hm'
  have h3 := hf _ hm _ hm'
  show wpAny (model prog w) A (keyLt' (tuples' true) p.1 q.1) (fun r s' => s' = s ∧ r = decide (f p.1 < f q.1)) (fun _ _ => False) s
  rw [← h3]
  generalize k p.1 = x at h1 ⊢
  generalize k q.1 = y at h2 ⊢
  obtain ⟨a, o, xs, t, r, n, e, ho, hc, hd, hx, hr⟩ := h1
  obtain ⟨a', o', xs', t', r', n', e', ho', hc', hd', hx', hr'⟩ := h2
  rw [e, e']
  refine PySem.W.kat_lt ho hd ho' hd' ?_
  have l1 : xs.size = x.2.length + 1 := by
    have z := congrArg List.length hx
    simp only [Array.length_toList, List.length_cons, hr.length] at z
    exact z
  have l2 : xs'.size = y.2.length + 1 := by
    have z := congrArg List.length hx'
    simp only [Array.length_toList, List.length_cons, hr'.length] at z
    exact z
  have l3 : decide (xs.size < xs'.size) = decide (x.2.length < y.2.length) := decide_eq_decide.mpr (by omega)
  rw [l3, hx, hx']
  show PySem.W.KatLex prog w A true _ _ ((Value.str x.1 t, Value.str y.1 t') :: r.zip r') 0 s
  refine PySem.W.kat_cons (wpAny_eqBool_str ?_)
  by_cases e : x.1 = y.1
  · rw [decide_eq_true e]
    have d : ltW x y = ltI2 x.2 y.2 := if_pos e
    rw [d]
    exact PySem.W.kat_yes (lex_I2 (xs := r) (ys := r') (ns := x.2) (ms := y.2) hr 1 hr' rfl ⟨rfl, rfl⟩)
  · rw [decide_eq_false e]
    have d : ltW x y = decide (x.1.cps.toList < y.1.cps.toList) := if_neg e
    rw [d]
    exact PySem.W.kat_no (oneLt_str ⟨rfl, rfl⟩)
theorem firsts_W {h : Heap} : ∀ {vs : List Value}, (∀ v ∈ vs, ∃ k, IsWI h v k) → ∃ fs, PySem.W.KatTups h vs fs ∧ fs.length = vs.length ∧ ∀ f ∈ fs, ∃ x t, f = Value.str x t
  | [], _ => ⟨[], PySem.W.KatTups.nil, rfl, fun _ z => (by cases z)⟩
  | v :: vs, hv => by
    obtain ⟨fs, h1, h2, h3⟩ := firsts_W fun u hu => hv u (List.mem_cons_of_mem _ hu)
    obtain ⟨k, a, o, xs, t, r, n, rfl, ho, hc, hd, hx, _⟩ := hv v List.mem_cons_self
    refine ⟨.str k.1 t :: fs, PySem.W.KatTups.cons ho hc hd ?_ h1, by simp [h2], fun f hf => ?_⟩
    · have z := congrArg (fun l : List Value => l[0]?) hx
      simpa using z
    · rcases List.mem_cons.mp hf with rfl | hf
      · exact ⟨_, _, rfl⟩
      · exact h3 f hf
theorem sortable_W {a : Addr} {vs : List Value} {k : Value → WI} {f : Value → Int} (h0 : 0 < vs.length) (hp : ∀ v ∈ vs, IsWI s.heap v (k v)) (hf : ∀ v ∈ vs, ∀ u ∈ vs, ltW (k v) (k u) = decide (f v < f u))
    (ha : ∀ o, s.heap.get? a = some o → o.cls ≠ .type "tuple") : SrtO.SortableO prog w A s a vs fun v u => decide (f v < f u) := by
  intro h' keep
  have hp' : ∀ v ∈ vs, IsWI h' v (k v) := fun v hm => (hp v hm).up fun b o e c => keep b o (fun z => by subst z; exact ha o e c) e
  obtain ⟨fs, h1, h2, h3⟩ := firsts_W fun v hm => ⟨_, hp' v hm⟩
  refine ⟨tuples' true, fun Q E hq => ?_, cmp_W hp' hf⟩
  refine PySem.W.kat_kind (T := .type "str") h1 (by omega) (fun g hm => ?_) (by rfl) ?_
  · obtain ⟨x, t, rfl⟩ := h3 g hm
    exact PySem.W.Looks.now
  · have e : (Value.type "str" != Value.type "tuple") = true := by first | decide +kernel | rfl | decide
    rw [e]
    exact hq
theorem swo_f {α : Type} (f : α → Int) : SrtO.Swo fun v u => decide (f v < f u) := by
  refine ⟨fun x y h => ?_, fun x y z h1 h2 => ?_⟩
  · have h := of_decide_eq_true h
    exact decide_eq_false (by omega)
  · have h1 := of_decide_eq_false h1
    have h2 := of_decide_eq_false h2
    exact decide_eq_false (by omega)
end
/-- the place of a tuple among others -/
def rkW (ws : List WI) (k : WI) : Nat := (ws.filter fun j => ltW j k).length
def okW (ws : List WI) : Bool := ws.all fun k => ws.all fun j => (ltW k j == decide (rkW ws k < rkW ws j)) && (decide (rkW ws k = rkW ws j → k = j))
def rSortW (K : PySem.W.Frag) : List V → Hp → VK → Prop := fun vs H Q => ∃ (a : Addr) (g : List (V × WI)), vs = [V.ref a] ∧ SqL K H a (g.map (·.1)) ∧ (∀ p ∈ g, ∃ t, p.1 = .ref t ∧ SqT K H t (.str p.2.1 :: p.2.2.map V.int)) ∧ okW (g.map (·.2)) = true ∧
  ∀ (g' : List (V × WI)) (p : Addr), g'.Perm g → g'.Pairwise (fun x y => rkW (g.map (·.2)) x.2 ≤ rkW (g.map (·.2)) y.2) → H p = none → Q (.ref p) (upd H p (.lst (g'.map (·.1))))
theorem okW_lt {ws : List WI} (h : okW ws = true) {k j : WI} (hk : k ∈ ws) (hj : j ∈ ws) : ltW k j = decide (((rkW ws k : Nat) : Int) < ((rkW ws j : Nat) : Int)) ∧ (rkW ws k = rkW ws j → k = j) := by
  have h1 := List.all_eq_true.mp (List.all_eq_true.mp h k hk) j hj
  rw [Bool.and_eq_true, decide_eq_true_eq] at h1
  refine ⟨(eq_of_beq h1.1).trans (decide_eq_decide.mpr (by omega)), h1.2⟩
theorem cr_sortW {X : Cx} : CallR X (.builtin "sorted") (rSortW X.K) := by
  intro pins s σ H vs us Q I r h
  obtain ⟨a, g, rfl, hs, hg, hok, q⟩ := h
  obtain ⟨its, rv, hl, hz⟩ := I.list hs
  obtain ⟨u, rfl, ru⟩ := vals1 r
  obtain rfl : u = Value.ref a := ru
  obtain ⟨e1, e2⟩ := refs_back rv fun x m => by
    obtain ⟨p, hp, rfl⟩ := List.mem_map.mp m
    obtain ⟨t, e, _⟩ := hg p hp
    exact ⟨t, e⟩
  -- the words, by the value
  have inj : ∀ p ∈ g, ∀ p' ∈ g, p.1 = p'.1 → p.2 = p'.2 := fun p hp p' hp' e => by
    obtain ⟨t, h1, h2⟩ := hg p hp
    obtain ⟨t', h1', h2'⟩ := hg p' hp'
    rw [h1, h1'] at e
    cases e
    have z := I.tuple_inj h2 h2'
    obtain ⟨z1, z2⟩ := List.cons.inj z
    have z1 : p.2.1 = p'.2.1 := by injection z1
    have z2 : p.2.2 = p'.2.2 := List.map_inj_right (fun x y e => by injection e) |>.mp z2
    exact Prod.ext z1 z2
  classical
  let kv : V → WI := fun x => if h : ∃ w, (x, w) ∈ g then Classical.choose h else (Str.empty, [])
  have hkv : ∀ p ∈ g, kv p.1 = p.2 := fun p hp => by
    have hex : ∃ w, (p.1, w) ∈ g := ⟨p.2, hp⟩
    have e : kv p.1 = Classical.choose hex := dif_pos hex
    rw [e]
    exact inj _ (Classical.choose_spec hex) p hp rfl
  have mem : ∀ v ∈ its, ∃ p ∈ g, p.1 = backV v := fun v hv => by
    have : backV v ∈ g.map (·.1) := by rw [e1]; exact List.mem_map.mpr ⟨v, hv, rfl⟩
    obtain ⟨p, hp, e⟩ := List.mem_map.mp this
    exact ⟨p, hp, e⟩
  have wi : ∀ v ∈ its, IsWI s.heap v (kv (backV v)) := fun v hv => by
    obtain ⟨p, hp, e⟩ := mem v hv
    obtain ⟨t, rfl⟩ := e2 v hv
    rw [← e, hkv p hp]
    obtain ⟨t', e', ht⟩ := hg p hp
    have : t' = t := by
      rw [e'] at e
      injection e
    subst this
    obtain ⟨us, rs, ⟨o, ho, hc, n, hd⟩, _⟩ := I.tuple ht
    cases rs with
    | cons r1 r2 =>
      obtain ⟨tk, rfl⟩ := r1
      exact ⟨t', o, _, tk, _, n, rfl, ho, hc, hd, rfl, Vals.ints r2⟩
  have ord : ∀ v ∈ its, ∀ u ∈ its, ltW (kv (backV v)) (kv (backV u)) = decide (((rkW (g.map (·.2)) (kv (backV v)) : Nat) : Int) < ((rkW (g.map (·.2)) (kv (backV u)) : Nat) : Int)) := fun v hv u hu => by
    obtain ⟨p, hp, e⟩ := mem v hv
    obtain ⟨p', hp', e'⟩ := mem u hu
    rw [← e, ← e', hkv p hp, hkv p' hp']
    exact (okW_lt hok (List.mem_map.mpr ⟨p, hp, rfl⟩) (List.mem_map.mpr ⟨p', hp', rfl⟩)).1
  have hlen : its.length ≤ sizeLine := by
    have z := rv.length
    rw [← z]
    exact hz
  refine SrtO.sorted_ord (swo_f fun v => ((rkW (g.map (·.2)) (kv (backV v)) : Nat) : Int)) hl.isList hlen (fun h2 h₁ b hb kk => ?_) fun out hs hb => ?_
  · refine sortable_W (s := { s with heap := h₁ }) (k := fun v => kv (backV v)) (by omega) (fun v hv => (wi v hv).up fun b o e _ => (kk b o e).2) ord fun o e => ?_
    have e' : some o = some (seqObj "list" its.toArray 0) := e.symm.trans hb
    cases e'
    intro c
    exact absurd (Value.type.inj c) (by decide)
  · have h3 : ∀ u ∈ out, ∃ a, u = Value.ref a := fun u hu => e2 u (hb.perm.mem_iff.mp hu)
    have pm : (out.map backV).Perm (g.map (·.1)) := by
      rw [e1]
      exact hb.perm.map backV
    obtain ⟨g', p1, p2⟩ := perm_lift (·.1) pm g rfl
    obtain ⟨n, hn⟩ := PyProof.Rows.sortedAll_at s.heap its out.toArray
    refine ⟨.ref (s.heap.objs.size + 1), upd H (s.heap.objs.size + 1) (.lst (out.map backV)), I.laid (t' := s.toks) (fun _ _ => PyProof.Rows.sortedAll_old) (Nat.le_succ _) ⟨?_, out, n, vals_back h3, by simpa using hn⟩, rfl, ?_⟩
    · rw [pm.length_eq]
      exact hz
    · rw [← p2]
      refine q g' _ p1 ?_ (I.hok.fresh (Nat.le_succ _))
      have srt : out.Pairwise fun x y => (fun z : V => rkW (g.map (·.2)) (kv z)) (backV x) ≤ (fun z : V => rkW (g.map (·.2)) (kv z)) (backV y) := hs.imp fun {x y} e => by
        have := of_decide_eq_false e
        show rkW (g.map (·.2)) (kv (backV x)) ≤ rkW (g.map (·.2)) (kv (backV y))
        omega
      have srt : (g'.map (·.1)).Pairwise fun x y => rkW (g.map (·.2)) (kv x) ≤ rkW (g.map (·.2)) (kv y) := by
        rw [p2]
        exact List.pairwise_map.mpr srt
      refine List.Pairwise.imp_of_mem (fun {x y} hx hy e => ?_) (List.pairwise_map.mp srt)
      rw [hkv x (p1.mem_iff.mp hx), hkv y (p1.mem_iff.mp hy)] at e
      exact e
/-- the same of data -/
def wkD : D → Option WI
  | .tup (.str w :: r) => (D.ints r).map fun k => (w, k)
  | _ => none
def wksD : List D → Option (List WI)
  | [] => some []
  | d :: ds => match wkD d, wksD ds with
    | some k, some r => some (k :: r)
    | _, _ => none
def rkD (ws : List WI) (d : D) : Nat := match wkD d with
  | some k => rkW ws k
  | none => 0
def gSortW : List D → Option (List D)
  | [.lst ds] => match wksD ds with
    | some ws => if okW ws = true then some (srtF (fun d => ((rkD ws d : Nat) : Int)) ds) else none
    | none => none
  | _ => none
theorem ints_tup : ∀ {r : List D} {k : List Int}, D.ints r = some k → r = k.map .int
  | [], _, e => by cases e; rfl
  | d :: r, k, e => by
    cases d with
    | int i =>
      unfold D.ints at e
      cases e1 : D.ints r with
      | none => rw [e1] at e; cases e
      | some ks =>
        rw [e1] at e
        cases e
        rw [ints_tup e1]
        rfl
    | _ => unfold D.ints at e; cases e
theorem wkD_tup {d : D} {k : WI} (h : wkD d = some k) : d = .tup (.str k.1 :: k.2.map .int) := by
  unfold wkD at h
  split at h
  · rename_i w r
    cases e : D.ints r with
    | none => rw [e] at h; cases h
    | some ks =>
      rw [e] at h
      cases h
      rw [ints_tup e]
  · cases h
theorem repL_intsV {K : PySem.W.Frag} {mg : Str → Option Value} {G : Hp} : ∀ {k : List Int} {xs : List V}, RepL K mg G xs (k.map D.int) → xs = k.map V.int
  | [], _, .nil => rfl
  | i :: k, _, .cons (.int _) r => by rw [repL_intsV r]; rfl
theorem wks_zip {K : PySem.W.Frag} {mg : Str → Option Value} {G : Hp} : ∀ {xs : List V} {ds : List D} {ws : List WI}, RepL K mg G xs ds → wksD ds = some ws →
    ∃ l : List (V × D), l.map (·.1) = xs ∧ l.map (·.2) = ds ∧ l.map (fun p => (wkD p.2).getD (Str.empty, [])) = ws ∧ ∀ p ∈ l, Rep K mg G p.1 p.2 ∧ ∃ k t, wkD p.2 = some k ∧ p.1 = .ref t ∧ SqT K G t (.str k.1 :: k.2.map V.int)
  | _, _, _, .nil, e => by cases e; exact ⟨[], rfl, rfl, rfl, fun _ z => (by cases z)⟩
  | v :: xs, d :: ds, ws, .cons r rs, e => by
    unfold wksD at e
    split at e
    · rename_i k ws' e1 e2
      cases e
      obtain ⟨l, h1, h2, h3, h4⟩ := wks_zip rs e2
      refine ⟨(v, d) :: l, by rw [← h1]; rfl, by rw [← h2]; rfl, by rw [← h3]; simp [e1], fun p hp => ?_⟩
      rcases List.mem_cons.mp hp with rfl | hp
      · refine ⟨r, k, ?_⟩
        have ed := wkD_tup e1
        subst ed
        cases r with
        | tup hx rl =>
          cases rl with
          | cons r1 r2 =>
            cases r1
            rw [repL_intsV r2] at hx
            exact ⟨_, e1, rfl, .of hx⟩
      · exact h4 p hp
    · cases e
section
variable {K : PySem.W.Frag} {mg : Str → Option Value}
theorem rl_sortW : RLS K mg (rSortW K) gSortW := by
  intro h H xs ds zs Q nh r e q
  unfold gSortW at e
  split at e
  · rename_i ds
    cases e1 : wksD ds with
    | none => rw [e1] at e; cases e
    | some ws =>
      rw [e1] at e
      by_cases hok : okW ws = true
      · simp only [if_pos hok] at e
        cases e
        match xs, r with
        | _, .cons (.lst hx rl) .nil =>
          rename_i a xs
          obtain ⟨l, h1, h2, h3, h4⟩ := wks_zip rl e1
          have lh : ∀ {b : Addr} {u : List V}, SqT K (hid h H) b u → SqT K H b u := fun z => Le.sqT hid_base z
          refine ⟨a, l.map fun p => (p.1, (wkD p.2).getD (Str.empty, [])), rfl, ?_, fun p hp => ?_, ?_, fun g' p pm pw hp => ?_⟩
          · rw [List.map_map]
            rw [show (l.map ((·.1) ∘ fun p => (p.1, (wkD p.2).getD (Str.empty, [])))) = l.map (·.1) from rfl, h1]
            exact Le.sqL hid_base (.of hx)
          · obtain ⟨p', hp', rfl⟩ := List.mem_map.mp hp
            obtain ⟨_, k, t, e2, e3, e4⟩ := h4 p' hp'
            refine ⟨t, e3, ?_⟩
            show SqT K H t (.str ((wkD p'.2).getD (Str.empty, [])).1 :: ((wkD p'.2).getD (Str.empty, [])).2.map V.int)
            rw [e2]
            exact lh e4
          · rw [List.map_map]
            rw [show (l.map ((·.2) ∘ fun p : V × D => (p.1, (wkD p.2).getD (Str.empty, [])))) = l.map (fun p => (wkD p.2).getD (Str.empty, [])) from rfl, h3]
            exact hok
          · rw [List.map_map, show (l.map ((·.2) ∘ fun p : V × D => (p.1, (wkD p.2).getD (Str.empty, [])))) = l.map (fun p => (wkD p.2).getD (Str.empty, [])) from rfl, h3] at pw
            obtain ⟨l', p1, p2⟩ := perm_lift (fun p : V × D => (p.1, (wkD p.2).getD (Str.empty, []))) pm l rfl
            have hrep : ∀ p ∈ l', Rep K mg (hid h H) p.1 p.2 ∧ ∃ k t, wkD p.2 = some k ∧ p.1 = .ref t ∧ SqT K (hid h H) t (.str k.1 :: k.2.map V.int) := fun p hp => h4 p (p1.mem_iff.mp hp)
            have eV : g'.map (·.1) = l'.map (·.1) := by rw [← p2, List.map_map]; rfl
            rw [eV]
            have mw : ∀ d ∈ ds, ∃ k, wkD d = some k ∧ k ∈ ws := fun d hd => by
              rw [← h2] at hd
              obtain ⟨p, hp, rfl⟩ := List.mem_map.mp hd
              obtain ⟨_, k, t, e2, _⟩ := h4 p hp
              refine ⟨k, e2, ?_⟩
              rw [← h3]
              exact List.mem_map.mpr ⟨p, hp, by rw [e2]; rfl⟩
            have eD : l'.map (·.2) = srtF (fun d => ((rkD ws d : Nat) : Int)) ds := by
              have s1 : (l'.map (·.2)).Pairwise fun a b => rkD ws a ≤ rkD ws b := by
                rw [List.pairwise_map]
                have : l'.Pairwise fun p q => rkW ws ((wkD p.2).getD (Str.empty, [])) ≤ rkW ws ((wkD q.2).getD (Str.empty, [])) := by
                  rw [← p2, List.pairwise_map] at pw
                  exact pw
                refine List.Pairwise.imp_of_mem (fun {x y} hx hy z => ?_) this
                obtain ⟨_, k, t, e2, _⟩ := hrep x hx
                obtain ⟨_, k', t', e2', _⟩ := hrep y hy
                unfold rkD
                rw [e2, e2'] at z ⊢
                exact z
              have s2 : (srtF (fun d => ((rkD ws d : Nat) : Int)) ds).Pairwise fun a b => rkD ws a ≤ rkD ws b := srtF_up.imp fun h => by omega
              have pp : (l'.map (·.2)).Perm ds := by rw [← h2]; exact p1.map _
              refine (pp.trans srtF_perm.symm).eq_of_pairwise (fun a b ha hb h1 h2 => ?_) s1 s2
              obtain ⟨k, e2, hk⟩ := mw a (pp.mem_iff.mp ha)
              obtain ⟨j, e3, hj⟩ := mw b (srtF_perm.mem_iff.mp hb)
              unfold rkD at h1 h2
              rw [e2, e3] at h1 h2
              have := (okW_lt hok hk hj).2 (Nat.le_antisymm h1 h2)
              rw [wkD_tup e2, wkD_tup e3, this]
            refine q _ _ hp ?_
            rw [← eD]
            have mk : ∀ l : List (V × D), (∀ p ∈ l, Rep K mg (hid h H) p.1 p.2) → RepL K mg (hid h H) (l.map (·.1)) (l.map (·.2)) := fun l => by
              induction l with
              | nil => intro _; exact .nil
              | cons p l ih => intro hh; exact .cons (hh p List.mem_cons_self) (ih fun x hx => hh x (List.mem_cons_of_mem _ hx))
            exact mk l' fun p hp => (hrep p hp).1
      · simp only [if_neg hok] at e
        cases e
  · cases e
end
end Den

set_option Elab.async false
set_option linter.all false
set_option maxRecDepth 100000
set_option maxHeartbeats 4000000
/-! len(set(xs)), xs a list of fewer than 64 tuples of ints -/
namespace Den
variable {hox : Option Addr}
open PySem PySem.Spec PyProof.Rows L2
/-- each once -/
def uniqL : List (List Int) → List (List Int)
  | [] => []
  | x :: l => if x ∈ l then uniqL l else x :: uniqL l
theorem uniqL_mem : ∀ {l : List (List Int)} {x : List Int}, x ∈ uniqL l ↔ x ∈ l
  | [], _ => Iff.rfl
  | y :: l, x => by
    unfold uniqL
    by_cases h : y ∈ l
    · rw [if_pos h, uniqL_mem, List.mem_cons]
      exact ⟨.inr, fun z => z.elim (fun e => e ▸ h) id⟩
    · rw [if_neg h, List.mem_cons, List.mem_cons, uniqL_mem]
theorem uniqL_nodup : ∀ {l : List (List Int)}, (uniqL l).Nodup
  | [] => List.nodup_nil
  | y :: l => by
    unfold uniqL
    by_cases h : y ∈ l
    · rw [if_pos h]
      exact uniqL_nodup
    · rw [if_neg h]
      exact List.nodup_cons.mpr ⟨fun z => h (uniqL_mem.mp z), uniqL_nodup⟩
theorem uniq_len {l m : List (List Int)} (n : m.Nodup) (h : ∀ x, x ∈ m ↔ x ∈ l) : m.length = (uniqL l).length :=
  ((List.perm_ext_iff_of_nodup n uniqL_nodup).mpr fun x => (h x).trans uniqL_mem.symm).length_eq
def tLenSetT (K : PySem.W.Frag) (B : Nat) (ta : TE) : TE := fun σ H Q => ta σ H fun x H1 => ∃ (l : Addr) (ks : List (Addr × List Int)), x = V.ref l ∧ SqL K H1 l (ks.map fun p => V.ref p.1) ∧ (∀ p ∈ ks, SqT K H1 p.1 (p.2.map V.int)) ∧ ks.length < B ∧ Q (.int ((uniqL (ks.map (·.2))).length : Nat)) H1
def tupI : D → Option (List Int)
  | .tup r => D.ints r
  | _ => none
def tupsI : List D → Option (List (List Int))
  | [] => some []
  | d :: ds => match tupI d, tupsI ds with
    | some k, some r => some (k :: r)
    | _, _ => none
def mLenSet (B : Nat) (m : MD) : MD := fun s => (m s).bind fun d s1 => match d with
  | .lst ds => match tupsI ds with
    | some ks => if ks.length < B then .ok (.int ((uniqL ks).length : Nat)) s1 else .bad
    | none => .bad
  | _ => .bad
theorem tups_rep {K : PySem.W.Frag} {mg : Str → Option Value} {G : Hp} : ∀ {xs : List V} {ds : List D} {ks : List (List Int)}, RepL K mg G xs ds → tupsI ds = some ks → ∃ l : List (Addr × List Int), l.map (fun p => V.ref p.1) = xs ∧ l.map (·.2) = ks ∧ ∀ p ∈ l, SqT K G p.1 (p.2.map V.int)
  | _, _, _, .nil, e => by cases e; exact ⟨[], rfl, rfl, fun _ z => (by cases z)⟩
  | v :: xs, d :: ds, ks, .cons r rs, e => by
    unfold tupsI at e
    split at e
    · rename_i k ks' e1 e2
      cases e
      obtain ⟨l, h1, h2, h3⟩ := tups_rep rs e2
      cases d with
      | tup ds0 =>
        have e1 : D.ints ds0 = some k := e1
        have := ints_tup e1
        subst this
        cases r with
        | tup hx rl =>
          rename_i a xs0
          rw [repL_intsV rl] at hx
          refine ⟨(a, k) :: l, by rw [← h1]; rfl, by rw [← h2]; rfl, fun p hp => ?_⟩
          rcases List.mem_cons.mp hp with rfl | hp
          · exact .of hx
          · exact h3 p hp
      | _ => cases e1
    · cases e
section
variable {X : Cx} {W : WX} {a : Expr} {ta : TE} {p p2 q pos : Pos} {m : MD}
theorem pe_lenSetT (hc : X.calm = true) (hu : X.A.units + 64 < cLine) (hg : Gl X "len") (hm : X.mg "len" = none) (hg2 : Gl X "set") (hm2 : X.mg "set" = none) (ha : PE X a ta) (na : starEach [a] X.env = (false, eval a X.env) :: starEach [] X.env := by rfl) :
    PE X (.Call (.Name "len" p) [.Call (.Name "set" p2) [a] [] q] [] pos) (tLenSetT X.K 64 ta) := by
  refine ⟨fun pins s σ H Q I h => ?_⟩
  refine Call_ (ld_blt I hg hm PySem.boot_len (PyProof.Rows.callWith_builtin1 (PyProof.Rows.args_cons ?_ rfl) rfl rfl))
  refine Call_ (ld_blt I hg2 hm2 PyProof.Rows.boot_set (PyProof.Rows.callWith_type1 (PyProof.Rows.args_cons (thn (ha.run pins s σ H _ I h) fun v s1 ⟨x, H1, J, r1, q1⟩ => PyProof.Rows.args_nil ?_) na) na rfl))
  obtain ⟨l, ks, rfl, hq, hk, hf, q1⟩ := q1
  cases r1
  obtain ⟨its, rv, pl, hz⟩ := J.list hq
  refine call_set_tups (P := X.prog) (w := X.w) ks (J.ok.hd hc) pl.isList (by simpa using refs_of_vals rv) (fun p hp => J.isT (hk p hp)) hf (by omega) fun h' tk L es ep t R g keep => ?_
  refine PyProof.Rows.args_nil ?_
  have R : SetTR X.prog X.w ({ s1 with heap := h' } : Shared).heap s1.heap.objs.size L es ep t := R
  obtain ⟨o, ho, hex, hd⟩ := R.ob
  have J2 : Inv X pins σ H1 { s1 with heap := h', toks := tk } := J.kept keep
  have hn : es.size = (uniqL (ks.map (·.2))).length := by
    rw [R.size, ← uniq_len R.nd fun x => ⟨fun hx => ?_, fun hx => ?_⟩, List.length_map]
    · obtain ⟨p, hp, rfl⟩ := List.mem_map.mp hx
      exact List.mem_map.mpr ⟨p, List.mem_of_mem_take (g.sub p hp), rfl⟩
    · obtain ⟨p, hp, rfl⟩ := List.mem_map.mp hx
      exact g.all p (by rw [List.take_length]; exact hp)
  have hsm : (es.size : Int) < 2 ^ 63 := by
    have := R.size
    have := R.few
    omega
  exact call_len_set ho hex hd R.fits hsm ⟨.int _, H1, J2.tok _, ⟨_, by rw [← hn]⟩, q1⟩
theorem sd_lenSet (hc : X.calm = true) (hu : X.A.units + 64 < cLine) (hm : X.mg "len" = none) (hm2 : X.mg "set" = none) (ha : SD hox X W a m) (hg : Gl X "len" := by rfl) (hg2 : Gl X "set" := by rfl)
    (na : starEach [a] X.env = (false, eval a X.env) :: starEach [] X.env := by rfl) : SD hox X W (.Call (.Name "len" p) [.Call (.Name "set" p2) [a] [] q] [] pos) (mLenSet 64 m) :=
  PE.imp (pe_lenSetT hc hu hg hm hg2 hm2 ha na) fun σ H Q ⟨c, s, st, q⟩ => ⟨c, s, st, (Res.split q).imp fun d s1 H1 g1 q1 v r => by
    cases r with
    | lst hx rl =>
      rename_i ad xs ds
      simp only at q1
      cases e : tupsI ds with
      | none => rw [e] at q1; exact q1.elim
      | some ks =>
        rw [e] at q1
        simp only at q1
        by_cases hl : ks.length < 64
        · rw [if_pos hl] at q1
          obtain ⟨l, h1, h2, h3⟩ := tups_rep rl e
          refine ⟨ad, l, rfl, Le.sqL hid_base (by rw [h1]; exact .of hx), fun p hp => Le.sqT hid_base (h3 p hp), ?_, ?_⟩
          · have : l.length = ks.length := by rw [← h2, List.length_map]
            omega
          · rw [h2]
            exact q1 H1 (.refl g1.1) _ (.int _)
        · rw [if_neg hl] at q1
          exact q1.elim
    | _ => exact q1.elim⟩
end
end Den

set_option Elab.async false
set_option linter.all false
set_option maxRecDepth 100000
set_option maxHeartbeats 4000000
/-! a call of a def whose mirror stands for all addresses, and that answers True -/
namespace Den
variable {hox : Option Addr}
open PySem PySem.Spec PyProof.Rows L2
section
variable {X : Cx} {W : WX} {k : Nat} {f : Addr} {fd : FuncData} {ps : List Str} {x : Str} {p pos : Pos}
theorem so_callG0 {F : Addr → Addr → FP} (FK : FnOk X.prog X.w X.K X.mg X.base (L2N.CX X.prog X.w) k f fd ps (spPG X.K X.mg 0 F)) (hT : ∀ p1 p2, ∃ s, F p1 p2 [] = .ok (.val (.bl true)) s) (hr : Room k X.A) (hm : X.mg x = some (.ref f)) (hk : PySem.W.keepIn X.K (.ref f) = true)
    (hb : Binds X.K fd ps []) (tk : L2N.Takes X W) (hg : Gl X x := by rfl) (hd : (x == ("__debug__" : Str)) = false := by decide) : SO hox X W (.Call (.Name x p) [] [] pos) (mVal (mK (.bl true))) :=
  PE.imp (pe_callZ FK hr hg hm hk hb (fun σ => L2N.passAt tk σ) hd) fun σ H Q ⟨c, s, st, q⟩ => by
    refine ⟨hs c s σ, [], fun p h => st.hidden h, rfl, .nil, fun p1 p2 => ?_⟩
    obtain ⟨s', e⟩ := hT p1 p2
    rw [e]
    intro v H' kp _ rv
    exact q v H' ⟨.grow st fun b o e => kp b o (fun z => z) e, rv⟩
end
end Den

set_option Elab.async false
set_option linter.all false
set_option maxRecDepth 100000
set_option maxHeartbeats 8000000
namespace Den
open PySem PySem.Spec PyProof.Rows L2
def tb_NUMBERS : Tb := [("ahead", some (.ktup [.int (-1), .int 1])), ("behind", some (.ktup [.int (-1), .int 1])), ("fall", some (.ktup [.int (-2), .int (-1), .int 1, .int 2])), ("rise", some (.ktup [.int (-2), .int (-1), .int 1, .int 2])), ("shift", some (.ktup [.int (-3), .int (-2), .int (-1), .int 1, .int 2, .int 3])), ("times", some (.ktup [.int 2, .int 3])), ("back", none), ("mirror", none), ("", none), ("0", none), ("1", none), ("-1", none), ("2", none), ("-3", none), ("4", none), ("x", none), ("01", none), ("+1", none), ("-0", none), ("-2", none), ("3", none), ("Back", none), ("up", none)]
def M_is_from : MS := (mRet (mVal (mAnd (mIsi "int" (mVar 0)) (mAnd (mNot (mIsi "bool" (mVar 0))) (mChain (gCmp le') (gCmp le') (mVar 1) (mVar 0) (mVar 2))))))
def F_is_from : FP := runP 3 3 M_is_from
def M_done : MS := (mSeq (mAsg (mTup (lCons (mBin gIx (mVar 0) (mK (.int 0))) (lCons (mBin gSub (mApp gLen (lCons (mVar 2) lNil)) (mK (.int 1))) lNil))) (gT 2 (gsCons (gN 3) (gsCons (gN 4) gsNil))))
    (mSeq (mIfS (mTest (mBin gEq (mVar 3) (mK (.str "back")))) (mRet (mVal (mRev (mVar 2)))) mNx)
    (mSeq (mIfS (mTest (mBin gEq (mVar 3) (mK (.str "mirror")))) (mRet (mVal (mApp gTuple (lCons (mFrz (mComp [5] (iSeq (mVar 2)) (gN 5) bYes (mBin gSub (mBin gSub (mVar 1) (mK (.int 1))) (mVar 5)))) lNil)))) mNx)
    (mSeq (mSet 6 (mVal (mBin gIx (mVar 0) (mK (.int 1)))))
    (mSeq (mIfS (mTest (mBin gEq (mVar 3) (mK (.str "times")))) (mRet (mVal (mApp gTuple (lCons (mFrz (mComp [5] (iSeq (mVar 2)) (gN 5) bYes (mBin gMod (mBin gMul (mVar 5) (mVar 6)) (mVar 1)))) lNil)))) mNx)
    (mSeq (mIfS (mTest (mBin gEq (mVar 3) (mK (.str "shift")))) (mRet (mVal (mApp gTuple (lCons (mFrz (mComp [5] (iSeq (mVar 2)) (gN 5) bYes (mBin gMod (mBin gAdd (mVar 5) (mVar 6)) (mVar 1)))) lNil)))) mNx)
    (mSeq (mIfS (mTest (mBin gEq (mVar 3) (mK (.str "rise")))) (mRet (mVal (mApp gTuple (lCons (mFrz (mComp [7, 5] (iEn (lCons (mVar 2) lNil)) (gT 2 (gsCons (gN 7) (gsCons (gN 5) gsNil))) bYes (mBin gMod (mBin gAdd (mVar 5) (mBin gMul (mVar 6) (mVar 7))) (mVar 1)))) lNil)))) mNx)
    (mSeq (mIfS (mTest (mBin gEq (mVar 3) (mK (.str "fall")))) (mRet (mVal (mApp gTuple (lCons (mFrz (mComp [7, 5] (iEn (lCons (mVar 2) lNil)) (gT 2 (gsCons (gN 7) (gsCons (gN 5) gsNil))) bYes (mBin gMod (mBin gAdd (mVar 5) (mBin gMul (mVar 6) (mBin gSub (mVar 4) (mVar 7)))) (mVar 1)))) lNil)))) mNx)
    (mSeq (mSet 8 (mVal (mIf (mTest (mBin gEq (mVar 3) (mK (.str "ahead")))) (mTup (lCons (mK (.int 0)) (lStar (mSl (mVar 2) pNo (pSo (mUn gNeg (mK (.int 1))))) lNil))) (mTup (lStar (mSl (mVar 2) (pSo (mK (.int 1))) pNo) (lCons (mK (.int 0)) lNil))))))
    (mRet (mVal (mApp gTuple (lCons (mFrz (mComp [5, 9] (iZp (lCons (mVar 2) (lCons (mVar 8) lNil))) (gT 2 (gsCons (gN 5) (gsCons (gN 9) gsNil))) bYes (mBin gMod (mBin gAdd (mVar 5) (mBin gMul (mVar 6) (mVar 9))) (mVar 1)))) lNil)))))))))))))
def F_done : FP := runP 10 3 M_done
def M_is_step : MS := (mSeq (mIfS (bOr (bNot (mTest (mIsi "tuple" (mVar 0)))) (bOr (mTest (mBin gEq (mVar 0) (mTup lNil))) (bNot (mTest (mIsi "str" (mBin gIx (mVar 0) (mK (.int 0)))))))) (mRet (mVal (mK (.bl false)))) mNx)
    (mSeq (mIfS (mTest (mBin gIn (mBin gIx (mVar 0) (mK (.int 0))) (mK (.ktup [.str "back", .str "mirror"])))) (mRet (mVal (mBin gEq (mApp gLen (lCons (mVar 0) lNil)) (mK (.int 1))))) mNx)
    (mSeq (mIfS (bOr (mTest (mKIn true tb_NUMBERS (mBin gIx (mVar 0) (mK (.int 0))))) (bOr (mTest (mBin gNe (mApp gLen (lCons (mVar 0) lNil)) (mK (.int 2)))) (bOr (bNot (mTest (mIsi "int" (mBin gIx (mVar 0) (mK (.int 1)))))) (mTest (mIsi "bool" (mBin gIx (mVar 0) (mK (.int 1)))))))) (mRet (mVal (mK (.bl false)))) mNx)
    (mRet (mVal (mBin gIn (mBin gIx (mVar 0) (mK (.int 1))) (mKIx tb_NUMBERS (mBin gIx (mVar 0) (mK (.int 0))))))))))
def F_is_step : FP := runP 1 1 M_is_step
def B__law_random_1 : MS := (mSet 2 (mVal (mBin gMod (mApp gInt (lCons (mBin gAdd (mBin gMul (mVar 2) (mK (.int 31))) (mApp gAbs (lCons (mVar 3) lNil))) lNil)) (mK (.int 2147483647)))))
def M__law_random : MS := (mSeq (mSet 2 (mVal (mVar 1)))
    (mSeq (mFor (iKill [false, false, false, true] (iSeq (mVar 0))) (gN 3) (mKill [false, false, false, true] B__law_random_1))
    (mRet (mBinL gCatL (mFrz (mLst (lCons (mVar 2) (lCons (mK (.int 0)) lNil)))) (mFrz (mComp [3] (iSeq (mVar 0)) (gN 3) (mTest (mBin (gCmp ge') (mVar 3) (mBin gPow (mK (.int 10)) (mK (.int 18))))) (mVar 3)))))))
def F__law_random : FP := runP 4 2 M__law_random
def M__law_below : MS := (mSeq (mIfS (bAnd (mTest (mBin gEq (mIxO 0 (mK (.int 1))) (mK (.int 0)))) (mTest (mBin (gCmp gt') (mLenO 0) (mK (.int 2))))) (mSetIx 0 (mK (.int 1)) (mPop 0 (mK (.int 2)))) mNx)
    (mSeq (mIfS (mTest (mBin (gCmp gt') (mIxO 0 (mK (.int 1))) (mK (.int 0)))) (mSeq (mSet 2 (mVal (mBin gMod (mApp gInt (lCons (mIxO 0 (mK (.int 1))) lNil)) (mVar 1))))
    (mSeq (mSetIx 0 (mK (.int 1)) (mBin gFDiv (mIxO 0 (mK (.int 1))) (mVar 1)))
    (mRet (mVal (mVar 2))))) mNx)
    (mSeq (mSetIx 0 (mK (.int 0)) (mBin gMod (mApp gInt (lCons (mBin gAdd (mBin gMul (mIxO 0 (mK (.int 0))) (mK (.int 48271))) (mK (.int 11))) lNil)) (mK (.int 2147483647))))
    (mRet (mVal (mBin gMod (mApp gInt (lCons (mBin gFDiv (mIxO 0 (mK (.int 0))) (mK (.int 64))) lNil)) (mVar 1)))))))
def F__law_below : FL := runL 3 2 M__law_below
def M_is_text : MS := (mSeq (mIfS (bOr (bNot (mTest (mIsi "tuple" (mVar 0)))) (mTest (mBin (gCmp gt') (mApp gLen (lCons (mVar 0) lNil)) (mK (.int 200))))) (mRet (mVal (mK (.bl false)))) mNx)
    (mRet (mVal (mApp gAll (lCons (mFrz (mComp [2] (iSeq (mVar 0)) (gN 2) bYes (mFrz (mCall F_is_from 3 (lCons (mVar 2) (lCons (mK (.int 0)) (lCons (mBin gSub (mVar 1) (mK (.int 1))) lNil))))))) lNil)))))
def F_is_text : FP := runP 3 2 M_is_text
def B_all_done_1 : MS := (mSet 2 (mVal (mFrz (mCall F_done 3 (lCons (mVar 3) (lCons (mVar 1) (lCons (mVar 2) lNil)))))))
def M_all_done : MS := (mSeq (mFor (iKill [false, false, false, true] (iSeq (mVar 0))) (gN 3) (mKill [false, false, false, true] B_all_done_1))
    (mRet (mVal (mVar 2))))
def F_all_done : FP := runP 4 3 M_all_done
def M_need_text : MS := (mSeq (mIfS (bNot (mTest (mFrz (mCall F_is_from 3 (lCons (mVar 0) (lCons (mK (.int 2)) (lCons (mK (.int 1000000000000000000000000000000)) lNil))))))) (mRaise0 "BadSize") mNx)
    (mIfS (bNot (mTest (mFrz (mCall F_is_text 2 (lCons (mVar 1) (lCons (mVar 0) lNil)))))) (mRaise0 "BadText") mNx))
def F_need_text : FP := runP 2 2 M_need_text
def M_shifted : MS := (mSeq (mDrop (mCall F_need_text 2 (lCons (mVar 1) (lCons (mVar 2) lNil))))
    (mRet (mCall F_all_done 3 (lCons (mFld "Script" "rows" (mVar 0)) (lCons (mVar 1) (lCons (mVar 2) lNil))))))
def F_shifted : FP := runP 3 3 M_shifted
def B_trace_1 : MS := (mDrop (mAppend 3 (mFrz (mCall F_done 3 (lCons (mVar 4) (lCons (mVar 1) (lCons (mIxO 3 (mUn gNeg (mK (.int 1)))) lNil)))))))
def M_trace : MS := (mSeq (mDrop (mCall F_need_text 2 (lCons (mVar 1) (lCons (mVar 2) lNil))))
    (mSeq (mSet 3 (mLst (lCons (mVar 2) lNil)))
    (mSeq (mFor (iKill [false, false, false, false, true] (iSeq (mFld "Script" "rows" (mVar 0)))) (gN 4) (mKill [false, false, false, false, true] B_trace_1))
    (mRet (mTake 3)))))
def F_trace : FP := runP 5 3 M_trace
def B_with_more_1 : MS := (mSetK 3 (mVar 4) (mBin gAdd (mGetK 3 (mVar 4) (mK (.int 0))) (mBin gMul (mVar 2) (mVar 5))))
def M_with_more : MS := (mSeq (mSet 3 (mCopyK (mBin gIx (mVar 0) (mK (.int 1)))))
    (mSeq (mFor (iKill [false, false, false, false, true, true] (iItems (mBin gIx (mVar 1) (mK (.int 1))))) (gT 2 (gsCons (gN 4) (gsCons (gN 5) gsNil))) (mKill [false, false, false, false, true, true] B_with_more_1))
    (mRet (mVal (mTup (lCons (mBin gAdd (mBin gIx (mVar 0) (mK (.int 0))) (mBin gMul (mVar 2) (mBin gIx (mVar 1) (mK (.int 0))))) (lCons (mVar 3) lNil)))))))
def F_with_more : FP := runP 6 3 M_with_more
def M_sum_at (F : FP) : MS := (mSeq (mIfS (mTest (mBin gEq (mVar 0) (mTup lNil))) (mRet (mVal (mTup (lCons (mK (.int 0)) (lCons (mFrz (mDisp [((mVar 2), (mK (.int 1)))])) lNil))))) mNx)
    (mSeq (mPar 3 4 (lCons (mSl (mVar 0) pNo (pSo (mUn gNeg (mK (.int 1))))) (lCons (mBin gIx (mVar 0) (mUn gNeg (mK (.int 1)))) lNil)))
    (mSeq (mSet 5 (mVal (mBin gSub (mVar 1) (mK (.int 1)))))
    (mSeq (mIfS (mTest (mBin gEq (mBin gIx (mVar 4) (mK (.int 0))) (mK (.str "back")))) (mRet (mCall F 3 (lCons (mVar 3) (lCons (mVar 1) (lCons (mBin gSub (mVar 5) (mVar 2)) lNil))))) mNx)
    (mSeq (mSet 6 (mVal (mFrz (mCall F 3 (lCons (mVar 3) (lCons (mVar 1) (lCons (mVar 2) lNil)))))))
    (mSeq (mIfS (mTest (mBin gEq (mBin gIx (mVar 4) (mK (.int 0))) (mK (.str "mirror")))) (mRet (mCall F_with_more 3 (lCons (mTup (lCons (mUn gNeg (mK (.int 1))) (lCons (mFrz mDict0) lNil))) (lCons (mVar 6) (lCons (mUn gNeg (mK (.int 1))) lNil))))) mNx)
    (mSeq (mSet 7 (mVal (mBin gIx (mVar 4) (mK (.int 1)))))
    (mSeq (mIfS (mTest (mBin gEq (mBin gIx (mVar 4) (mK (.int 0))) (mK (.str "times")))) (mRet (mCall F_with_more 3 (lCons (mTup (lCons (mK (.int 0)) (lCons (mFrz mDict0) lNil))) (lCons (mVar 6) (lCons (mVar 7) lNil))))) mNx)
    (mSeq (mIfS (mTest (mBin gEq (mBin gIx (mVar 4) (mK (.int 0))) (mK (.str "ahead")))) (mRet (mVal (mIf (mTest (mBin (gCmp gt') (mVar 2) (mK (.int 0)))) (mFrz (mCall F_with_more 3 (lCons (mVar 6) (lCons (mFrz (mCall F 3 (lCons (mVar 3) (lCons (mVar 1) (lCons (mBin gSub (mVar 2) (mK (.int 1))) lNil))))) (lCons (mVar 7) lNil))))) (mVar 6)))) mNx)
    (mSeq (mIfS (mTest (mBin gEq (mBin gIx (mVar 4) (mK (.int 0))) (mK (.str "behind")))) (mRet (mVal (mIf (mTest (mBin (gCmp lt') (mVar 2) (mVar 5))) (mFrz (mCall F_with_more 3 (lCons (mVar 6) (lCons (mFrz (mCall F 3 (lCons (mVar 3) (lCons (mVar 1) (lCons (mBin gAdd (mVar 2) (mK (.int 1))) lNil))))) (lCons (mVar 7) lNil))))) (mVar 6)))) mNx)
    (mSeq (mSet 8 (mVal (mBin gDix (mFrz (mDisp [((mK (.str "shift")), (mK (.int 1))), ((mK (.str "rise")), (mVar 2)), ((mK (.str "fall")), (mBin gSub (mVar 5) (mVar 2)))])) (mBin gIx (mVar 4) (mK (.int 0))))))
    (mRet (mCall F_with_more 3 (lCons (mVar 6) (lCons (mTup (lCons (mVar 8) (lCons (mFrz mDict0) lNil))) (lCons (mVar 7) lNil))))))))))))))))
def F_sum_at : Nat → FP
  | 0 => fun _ => .bad
  | n + 1 => runP 9 3 (M_sum_at (F_sum_at n))
def M_letter : MS := (mSeq (mIfS (bNot (mTest (mFrz (mCall F_is_from 3 (lCons (mVar 1) (lCons (mK (.int 1)) (lCons (mK (.int 1000000000000000000000000000000)) lNil))))))) (mRaise0 "BadLength") mNx)
    (mSeq (mIfS (bNot (mTest (mFrz (mCall F_is_from 3 (lCons (mVar 2) (lCons (mK (.int 0)) (lCons (mBin gSub (mVar 1) (mK (.int 1))) lNil))))))) (mRaise0 "BadPlace") mNx)
    (mSeq (mAsg (mFrz (mCall (F_sum_at 12) 3 (lCons (mFld "Script" "rows" (mVar 0)) (lCons (mVar 1) (lCons (mVar 2) lNil))))) (gT 2 (gsCons (gN 3) (gsCons (gN 4) gsNil))))
    (mRet (mVal (mTup (lCons (mVar 3) (lCons (mApp gTuple (lCons (mFrz (mComp [5] (iSeq (mFrz (mAppL gSorted (lCons (mVar 4) lNil)))) (gN 5) (mTest (mBin gNe (mBin gDix (mVar 4) (mVar 5)) (mK (.int 0)))) (mTup (lCons (mVar 5) (lCons (mBin gDix (mVar 4) (mVar 5)) lNil))))) lNil)) lNil))))))))
def F_letter : FP := runP 6 3 M_letter
def B_divisor_1 : MS := (mPar 0 1 (lCons (mVar 1) (lCons (mBin gMod (mVar 0) (mVar 1)) lNil)))
def M_divisor : MS := (mSeq (mPar 0 1 (lCons (mApp gAbs (lCons (mVar 0) lNil)) (lCons (mApp gAbs (lCons (mVar 1) lNil)) lNil)))
    (mSeq (mWhile (mTest (mBin gNe (mVar 1) (mK (.int 0)))) B_divisor_1 (fun _ => 1000000000000000000000000000000))
    (mRet (mVal (mVar 0)))))
def F_divisor : FP := runP 2 2 M_divisor
def M_wide : MS := (mRet (mVal (mApp gLen (lCons (mFrz (mComp [1] (iSeq (mVar 0)) (gN 1) (mTest (mBin gIn (mBin gIx (mVar 1) (mK (.int 0))) (mK (.ktup [.str "ahead", .str "behind"])))) (mVar 1))) lNil))))
def F_wide : FP := runP 2 1 M_wide
def M_text_for : MS := (mSeq (mSet 2 (mVal (mApp gLen (lCons (mVar 0) lNil))))
    (mSeq (mIfS (mTest (mApp gAny (lCons (mFrz (mComp [3, 4] (iSeq (mVar 0)) (gT 2 (gsCons (gN 3) (gsCons (gN 4) gsNil))) bYes (mBin gNe (mBin gMod (mVar 3) (mVar 1)) (mK (.int 0))))) lNil))) (mRet (mVal (mBin gMul (mTup (lCons (mK (.int 0)) lNil)) (mVar 2)))) mNx)
    (mSeq (mSet 5 (mComp2 [3, 4, 6] [6] (iSeq (mVar 0)) (gT 2 (gsCons (gN 3) (gsCons (gN 4) gsNil))) bYes (iKeys (mVar 4)) (gN 6) (mTest (mBin gNe (mBin gMod (mBin gDix (mVar 4) (mVar 6)) (mVar 1)) (mK (.int 0)))) (mVar 6)))
    (mSeq (mIfS (mTest (mBin gEq (mVar 5) (mFrz (mLst lNil)))) (mRet (mVal (mK .non))) mNx)
    (mSeq (mSet 7 (mVal (mApp gMax (lCons (mVar 5) lNil))))
    (mRet (mVal (mBin gAdd (mBin gAdd (mBin gMul (mTup (lCons (mK (.int 0)) lNil)) (mVar 7)) (mTup (lCons (mK (.int 1)) lNil))) (mBin gMul (mTup (lCons (mK (.int 0)) lNil)) (mBin gSub (mBin gSub (mVar 2) (mK (.int 1))) (mVar 7)))))))))))
def F_text_for : FP := runP 8 2 M_text_for
def B_common_of_1 : MS := (mSet 1 (mVal (mFrz (mCall F_divisor 2 (lCons (mVar 1) (lCons (mVar 4) lNil))))))
def B_common_of_2 : MS := (mSeq (mSet 1 (mVal (mFrz (mCall F_divisor 2 (lCons (mVar 1) (lCons (mVar 2) lNil))))))
    (mFor (iKill [false, false, true, true, true] (iValues (mVar 3))) (gN 4) (mKill [false, false, true, true, true] B_common_of_1)))
def M_common_of : MS := (mSeq (mSet 1 (mVal (mK (.int 0))))
    (mSeq (mFor (iKill [false, false, true, true, true] (iSeq (mVar 0))) (gT 2 (gsCons (gN 2) (gsCons (gN 3) gsNil))) (mKill [false, false, true, true, true] B_common_of_2))
    (mRet (mVal (mVar 1)))))
def F_common_of : FP := runP 5 1 M_common_of
def M_unlike_sums : MS := (mRet (mComp [3] (iR1 (lCons (mVar 2) lNil)) (gN 3) bYes (mFrz (mCall F_with_more 3 (lCons (mFrz (mCall (F_sum_at 12) 3 (lCons (mVar 0) (lCons (mVar 2) (lCons (mVar 3) lNil))))) (lCons (mFrz (mCall (F_sum_at 12) 3 (lCons (mVar 1) (lCons (mVar 2) (lCons (mVar 3) lNil))))) (lCons (mUn gNeg (mK (.int 1))) lNil)))))))
def F_unlike_sums : FP := runP 4 3 M_unlike_sums
def M_all_unlike : MS := (mRet (mComp [3] (iR2 (lCons (mK (.int 1)) (lCons (mBin gAdd (mBin gMul (mK (.int 2)) (mVar 2)) (mK (.int 5))) lNil))) (gN 3) bYes (mFrz (mCall F_unlike_sums 3 (lCons (mVar 0) (lCons (mVar 1) (lCons (mVar 3) lNil)))))))
def F_all_unlike : FP := runP 4 3 M_all_unlike
def B_first_unlike_1 : MS := (mSet 4 (mVal (mFrz (mCall F_divisor 2 (lCons (mVar 4) (lCons (mFrz (mCall F_common_of 1 (lCons (mVar 5) lNil))) lNil))))))
def B_first_unlike_2 : MS := (mAug 6 (fun i j => i + j) (mK (.int 1)))
def B_first_unlike_3 : MS := (mSeq (mSet 7 (mVal (mFrz (mCall F_text_for 2 (lCons (mVar 5) (lCons (mVar 6) lNil))))))
    (mIfS (mTest (mBin gNotN (mVar 7) (mK .non))) (mRet (mVal (mTup (lCons (mVar 6) (lCons (mVar 7) lNil))))) mNx))
def M_first_unlike : MS := (mSeq (mSet 3 (mVal (mFrz (mCall F_all_unlike 3 (lCons (mVar 0) (lCons (mVar 1) (lCons (mVar 2) lNil)))))))
    (mSeq (mSet 4 (mVal (mK (.int 0))))
    (mSeq (mFor (iKill [false, false, false, false, false, true, true, true] (iSeq (mVar 3))) (gN 5) (mKill [false, false, false, false, false, true, true, true] B_first_unlike_1))
    (mSeq (mIfS (mTest (mBin gEq (mVar 4) (mK (.int 0)))) (mRet (mVal (mK .non))) mNx)
    (mSeq (mSet 6 (mVal (mK (.int 2))))
    (mSeq (mPre [false, false, false, false, false, true, false, true] (mWhile (mTest (mBin gEq (mBin gMod (mVar 4) (mVar 6)) (mK (.int 0)))) (mKill [false, false, false, false, false, true, false, true] B_first_unlike_2) (fun _ => 1000000000000000000000000000000)))
    (mSeq (mFor (iKill [false, false, false, true, true, true, false, true] (iSeq (mVar 3))) (gN 5) (mKill [false, false, false, true, true, true, false, true] B_first_unlike_3))
    (mRet (mVal (mK .non))))))))))
def F_first_unlike : FP := runP 8 3 M_first_unlike
def M_parting : MS := (mRet (mCall F_first_unlike 3 (lCons (mFld "Script" "rows" (mVar 0)) (lCons (mFld "Script" "rows" (mVar 1)) (lCons (mApp gMax (lCons (mFrz (mCall F_wide 1 (lCons (mFld "Script" "rows" (mVar 0)) lNil))) (lCons (mFrz (mCall F_wide 1 (lCons (mFld "Script" "rows" (mVar 1)) lNil))) lNil))) lNil)))))
def F_parting : FP := runP 2 2 M_parting
def M_alike : MS := (mRet (mVal (mBin gIsN (mFrz (mCall F_parting 2 (lCons (mVar 0) (lCons (mVar 1) lNil)))) (mK .non))))
def F_alike : FP := runP 2 2 M_alike
def M_Script_steps : MS := (mRet (mVal (mFld "Script" "rows" (mVar 0))))
def F_Script_steps : FP := runP 1 1 M_Script_steps
def M_undone : MS := (mSeq (mSet 2 (mVal (mBin gAdd (mFld "Script" "rows" (mVar 0)) (mFld "Script" "rows" (mVar 1)))))
    (mRet (mCall F_first_unlike 3 (lCons (mVar 2) (lCons (mTup lNil) (lCons (mFrz (mCall F_wide 1 (lCons (mVar 2) lNil))) lNil))))))
def F_undone : FP := runP 3 2 M_undone
def M_loses : MS := (mSeq (mSet 1 (mComp [2] (iSeq (mFld "Script" "rows" (mVar 0))) (gN 2) (mTest (mBin gEq (mBin gIx (mVar 2) (mK (.int 0))) (mK (.str "times")))) (mBin gIx (mVar 2) (mK (.int 1)))))
    (mRet (mVal (mIf (mTest (mBin gNe (mVar 1) (mFrz (mLst lNil)))) (mApp gMin (lCons (mVar 1) lNil)) (mK .non)))))
def F_loses : FP := runP 3 1 M_loses
def B_swaps_1 : MS := (mSeq (mSet 4 (mVal (mTup (lStar (mSl (mVar 1) pNo (pSo (mVar 3))) (lCons (mBin gIx (mVar 1) (mBin gAdd (mVar 3) (mK (.int 1)))) (lCons (mBin gIx (mVar 1) (mVar 3)) (lStar (mSl (mVar 1) (pSo (mBin gAdd (mVar 3) (mK (.int 2)))) pNo) lNil)))))))
    (mIfS (mTest (mBin gIsN (mFrz (mCall F_first_unlike 3 (lCons (mVar 1) (lCons (mVar 4) (lCons (mFrz (mCall F_wide 1 (lCons (mVar 1) lNil))) lNil))))) (mK .non))) (mDrop (mAppend 2 (mVar 3))) mNx))
def M_swaps : MS := (mSeq (mSet 1 (mVal (mFld "Script" "rows" (mVar 0))))
    (mSeq (mSet 2 (mLst lNil))
    (mSeq (mFor (iKill [false, false, false, true, true] (iR1 (lCons (mBin gSub (mApp gLen (lCons (mVar 1) lNil)) (mK (.int 1))) lNil))) (gN 3) (mKill [false, false, false, true, true] B_swaps_1))
    (mRet (mTake 2)))))
def F_swaps : FP := runP 5 1 M_swaps
def B_idle_1 : MS := (mSeq (mSet 5 (mVal (mBin gAdd (mBin gAdd (mSl (mVar 1) pNo (pSo (mVar 3))) (mSl (mVar 1) (pSo (mBin gAdd (mVar 3) (mK (.int 1)))) (pSo (mVar 4)))) (mSl (mVar 1) (pSo (mBin gAdd (mVar 4) (mK (.int 1)))) pNo))))
    (mIfS (mTest (mBin gIsN (mFrz (mCall F_first_unlike 3 (lCons (mVar 1) (lCons (mVar 5) (lCons (mFrz (mCall F_wide 1 (lCons (mVar 1) lNil))) lNil))))) (mK .non))) (mDrop (mAppend 2 (mTup (lCons (mVar 3) (lCons (mVar 4) lNil))))) mNx))
def B_idle_2 : MS := (mFor (iKill [false, false, false, false, true, true] (iR2 (lCons (mBin gAdd (mVar 3) (mK (.int 1))) (lCons (mApp gLen (lCons (mVar 1) lNil)) lNil)))) (gN 4) (mKill [false, false, false, false, true, true] B_idle_1))
def M_idle : MS := (mSeq (mSet 1 (mVal (mFld "Script" "rows" (mVar 0))))
    (mSeq (mSet 2 (mLst lNil))
    (mSeq (mFor (iKill [false, false, false, true, true, true] (iR1 (lCons (mApp gLen (lCons (mVar 1) lNil)) lNil))) (gN 3) (mKill [false, false, false, true, true, true] B_idle_2))
    (mRet (mTake 2)))))
def F_idle : FP := runP 6 1 M_idle
def M_units : MS := (mSeq (mSet 1 (mVal (mFrz (mListR (rg1 (mVar 0))))))
    (mRet (mBinL gCatL (mFrz (mLst (lCons (mBin gMul (mTup (lCons (mK (.int 0)) lNil)) (mVar 0)) lNil))) (mFrz (mComp [2] (iSeq (mVar 1)) (gN 2) bYes (mApp gTuple (lCons (mFrz (mComp [3] (iSeq (mVar 1)) (gN 3) bYes (mApp gInt (lCons (mBin gEq (mVar 3) (mVar 2)) lNil)))) lNil)))))))
def F_units : FP := runP 4 1 M_units
def B_rounds_1 : MS := (mSeq (mSet 5 (mComp [7] (iSeq (mVar 5)) (gN 7) bYes (mFrz (mCall F_all_done 3 (lCons (mFld "Script" "rows" (mVar 0)) (lCons (mVar 1) (lCons (mVar 7) lNil)))))))
    (mAug 6 (fun i j => i + j) (mK (.int 1))))
def M_rounds : MS := (mSeq (mIfS (bNot (mTest (mFrz (mCall F_is_from 3 (lCons (mVar 1) (lCons (mK (.int 2)) (lCons (mK (.int 12)) lNil))))))) (mRaise0 "BadSize") mNx)
    (mSeq (mIfS (bNot (mTest (mFrz (mCall F_is_from 3 (lCons (mVar 2) (lCons (mK (.int 1)) (lCons (mK (.int 3)) lNil))))))) (mRaise0 "BadLength") mNx)
    (mSeq (mIfS (mTest (mApp gAny (lCons (mFrz (mComp [3] (iSeq (mFld "Script" "rows" (mVar 0))) (gN 3) bYes (mAnd (mBin gEq (mBin gIx (mVar 3) (mK (.int 0))) (mK (.str "times"))) (mBin (gCmp gt') (mFrz (mCall F_divisor 2 (lCons (mBin gIx (mVar 3) (mK (.int 1))) (lCons (mVar 1) lNil)))) (mK (.int 1)))))) lNil))) (mRet (mVal (mK .non))) mNx)
    (mSeq (mSet 4 (mVal (mFrz (mCall F_units 1 (lCons (mVar 2) lNil)))))
    (mSeq (mPar 5 6 (lCons (mFrz (mComp [7] (iSeq (mVar 4)) (gN 7) bYes (mFrz (mCall F_all_done 3 (lCons (mFld "Script" "rows" (mVar 0)) (lCons (mVar 1) (lCons (mVar 7) lNil))))))) (lCons (mK (.int 1)) lNil)))
    (mSeq (mWhile (mTest (mBin gNe (mVar 5) (mVar 4))) B_rounds_1 (fun _ => 1000000000000000000000000000000))
    (mRet (mVal (mVar 6)))))))))
def F_rounds : FP := runP 8 3 M_rounds
def M_Script___eq__ : MS := (mRet (mVal (mAnd (mIsiC "Script" (mVar 1)) (mBin gEq (mFld "Script" "rows" (mVar 0)) (mFld "Script" "rows" (mVar 1))))))
def F_Script___eq__ : FP := runP 2 2 M_Script___eq__
def M_write : MS := (mRet (mVal (mJoin (mK (.str "")) (mFrz (mComp [1] (iSeq (mFld "Script" "rows" (mVar 0))) (gN 1) bYes (mBin gAdd (mJoin (mK (.str " ")) (mFrz (mComp [2] (iSeq (mVar 1)) (gN 2) bYes (mApp gStr (lCons (mVar 2) lNil))))) (mK (.str "\n"))))))))
def F_write : FP := runP 3 1 M_write
end Den

set_option Elab.async false
set_option linter.all false
set_option maxRecDepth 100000
set_option maxHeartbeats 8000000
namespace Den
open PySem PySem.Spec PyProof.Rows L2
def M_all_steps_z15 : MS := (mRet (mAppL gSortW (lCons (mFrz (mBinL gCatL (mFrz (mComp [0] (iSeq (mK (.ktup [.str "back", .str "mirror"]))) (gN 0) bYes (mTup (lCons (mVar 0) lNil)))) (mFrz (mComp2 [0, 1] [1] (iKeyK ["ahead", "behind", "fall", "rise", "shift", "times"]) (gN 0) bYes (iSeq (mKIx tb_NUMBERS (mVar 0))) (gN 1) bYes (mTup (lCons (mVar 0) (lCons (mVar 1) lNil))))))) lNil)))
def F_all_steps_z15 : FP := runP 2 0 M_all_steps_z15
def M_Walk_undo_z15 : MS := (mSeq (mIfS (mTest (mWEq 0 (mFrz (mLst lNil)))) (mRet (mVal (mK (.bl false)))) mNx)
    (mSeq (mDrop (mWPopN 0))
    (mSeq (mDrop (mWPopT 0))
    (mRet (mVal (mK (.bl true)))))))
def F_Walk_undo_z15 : FL := runL 1 1 M_Walk_undo_z15
def M_Walk_text_z15 : MS := (mRet (mVal (mWIx 0 (mUn gNeg (mK (.int 1))))))
def F_Walk_text_z15 : FL := runL 1 1 M_Walk_text_z15
def M_Walk_log_z15 : MS := (mRet (mVal (mFrz (mWList 0))))
def F_Walk_log_z15 : FL := runL 1 1 M_Walk_log_z15
def M_Walk___len___z15 : MS := (mRet (mVal (mWLen 0)))
def F_Walk___len___z15 : FL := runL 1 1 M_Walk___len___z15
def M_rows_to_two_z15 : MS := (mSeq (mSet 0 (mVal (mFrz (mCall F_all_steps_z15 0 lNil))))
    (mRet (mLst (lCons (mTup lNil) (lStar (mFrz (mComp [1] (iSeq (mVar 0)) (gN 1) bYes (mTup (lCons (mVar 1) lNil)))) (lStar (mFrz (mComp2 [2, 3] [3] (iSeq (mVar 0)) (gN 2) bYes (iSeq (mVar 0)) (gN 3) bYes (mTup (lCons (mVar 2) (lCons (mVar 3) lNil))))) lNil))))))
def F_rows_to_two_z15 : FP := runP 4 0 M_rows_to_two_z15
def B_Script___init___z15_1 : MS := (mIfS (bNot (mTest (mFrz (mCall F_is_step 1 (lCons (mVar 3) lNil))))) (mRaiseX "BadSteps" ["index"] (lCons (mVar 2) lNil)) mNx)
def M_Script___init___z15 : MS := (mSeq (mIfS (bOr (bNot (mTest (mIsi "tuple" (mVar 1)))) (mTest (mBin (gCmp gt') (mApp gLen (lCons (mVar 1) lNil)) (mK (.int 5))))) (mRaiseX "BadSteps" ["index"] (lCons (mUn gNeg (mK (.int 1))) lNil)) mNx)
    (mSeq (mFor (iKill [false, false, true, true] (iEn (lCons (mVar 1) lNil))) (gT 2 (gsCons (gN 2) (gsCons (gN 3) gsNil))) (mKill [false, false, true, true] B_Script___init___z15_1))
    (mSetF 0 "Script" "rows" (mVar 1))))
def F_Script___init___z15 : FL := runL 4 2 M_Script___init___z15
def M_is_choice_z15 : MS := (mSeq (mIfS (bOr (bNot (mTest (mIsi "tuple" (mVar 0)))) (bOr (mTest (mBin gNe (mApp gLen (lCons (mVar 0) lNil)) (mK (.int 2)))) (bNot (mTest (mFrz (mCall F_is_from 3 (lCons (mBin gIx (mVar 0) (mK (.int 0))) (lCons (mK (.int 2)) (lCons (mK (.int 1000000000000000000000000000000)) lNil))))))))) (mRet (mVal (mK (.bl false)))) mNx)
    (mRet (mCall F_is_text 2 (lCons (mBin gIx (mVar 0) (mK (.int 1))) (lCons (mBin gIx (mVar 0) (mK (.int 0))) lNil)))))
def F_is_choice_z15 : FP := runP 1 1 M_is_choice_z15
def M_step_in_z15 : MS := (mSeq (mIfS (bAnd (mTest (mKIn true tb_NUMBERS (mBin gIx (mVar 0) (mK (.int 0))))) (mTest (mBin gNotIn (mBin gIx (mVar 0) (mK (.int 0))) (mK (.ktup [.str "back", .str "mirror"]))))) (mRaiseX "BadLine" ["line", "word"] (lCons (mVar 1) (lCons (mK (.int 1)) lNil))) mNx)
    (mSeq (mSet 2 (mVal (mIf (mTest (mKIn false tb_NUMBERS (mBin gIx (mVar 0) (mK (.int 0))))) (mK (.int 2)) (mK (.int 1)))))
    (mSeq (mIfS (bAnd (mTest (mBin gEq (mVar 2) (mK (.int 2)))) (bOr (mTest (mBin (gCmp lt') (mApp gLen (lCons (mVar 0) lNil)) (mK (.int 2)))) (mTest (mBin gNotIn (mBin gIx (mVar 0) (mK (.int 1))) (mFrz (mComp [3] (iSeq (mKIx tb_NUMBERS (mBin gIx (mVar 0) (mK (.int 0))))) (gN 3) bYes (mApp gStr (lCons (mVar 3) lNil)))))))) (mRaiseX "BadLine" ["line", "word"] (lCons (mVar 1) (lCons (mK (.int 2)) lNil))) mNx)
    (mSeq (mIfS (mTest (mBin (gCmp gt') (mApp gLen (lCons (mVar 0) lNil)) (mVar 2))) (mRaiseX "BadLine" ["line", "word"] (lCons (mVar 1) (lCons (mBin gAdd (mVar 2) (mK (.int 1))) lNil))) mNx)
    (mRet (mVal (mIf (mTest (mBin gEq (mVar 2) (mK (.int 2)))) (mTup (lCons (mBin gIx (mVar 0) (mK (.int 0))) (lCons (mApp gIntU (lCons (mBin gIx (mVar 0) (mK (.int 1))) lNil)) lNil))) (mTup (lCons (mBin gIx (mVar 0) (mK (.int 0))) lNil)))))))))
def F_step_in_z15 : FP := runP 4 2 M_step_in_z15
def M_Walk_do_z15 : MS := (mSeq (mIfS (bNot (mTest (mFrz (mCall F_is_step 1 (lCons (mVar 1) lNil))))) (mRaiseX "BadSteps" ["index"] (lCons (mK (.int 0)) lNil)) mNx)
    (mSeq (mDrop (mWAppT 0 (mFrz (mCall F_done 3 (lCons (mVar 1) (lCons (mWSize 0) (lCons (mWIx 0 (mUn gNeg (mK (.int 1)))) lNil)))))))
    (mSeq (mDrop (mWAppN 0 (mVar 1)))
    (mRet (mVal (mWIx 0 (mUn gNeg (mK (.int 1)))))))))
def F_Walk_do_z15 : FL := runL 2 2 M_Walk_do_z15
def M_is_seen_z15 : MS := (mSeq (mIfS (bOr (bNot (mTest (mIsi "tuple" (mVar 0)))) (bOr (mTest (mBin gNe (mApp gLen (lCons (mVar 0) lNil)) (mK (.int 3)))) (bNot (mTest (mFrz (mCall F_is_choice_z15 1 (lCons (mSl (mVar 0) pNo (pSo (mK (.int 2)))) lNil))))))) (mRet (mVal (mK (.bl false)))) mNx)
    (mRet (mVal (mAnd (mFrz (mCall F_is_text 2 (lCons (mBin gIx (mVar 0) (mK (.int 2))) (lCons (mBin gIx (mVar 0) (mK (.int 0))) lNil)))) (mBin gEq (mApp gLen (lCons (mBin gIx (mVar 0) (mK (.int 2))) lNil)) (mApp gLen (lCons (mBin gIx (mVar 0) (mK (.int 1))) lNil)))))))
def F_is_seen_z15 : FP := runP 1 1 M_is_seen_z15
def B_undoing_z15_1 : MS := (mIfS (mTest (mBin gIn (mBin gIx (mVar 2) (mK (.int 0))) (mK (.ktup [.str "mirror", .str "back"])))) (mDrop (mAppend 1 (mVar 2))) (mIfS (mTest (mBin gIn (mBin gIx (mVar 2) (mK (.int 0))) (mK (.ktup [.str "shift", .str "rise", .str "fall"])))) (mDrop (mAppend 1 (mTup (lCons (mBin gIx (mVar 2) (mK (.int 0))) (lCons (mUn gNeg (mBin gIx (mVar 2) (mK (.int 1)))) lNil))))) (mRet (mVal (mK .non)))))
def M_undoing_z15 : MS := (mSeq (mSet 1 (mLst lNil))
    (mSeq (mFor (iKill [false, false, true] (iSeq (mRev (mFld "Script" "rows" (mVar 0))))) (gN 2) (mKill [false, false, true] B_undoing_z15_1))
    (mRet (mMake "Script" F_Script___init___z15 2 (lCons (mApp gTuple (lCons (mVar 1) lNil)) lNil)))))
def F_undoing_z15 : FP := runP 3 1 M_undoing_z15
def B_fitting_z15_1 : MS := (mIfS (bNot (mTest (mFrz (mCall F_is_seen_z15 1 (lCons (mVar 2) lNil))))) (mRaiseX "BadSeen" ["index"] (lCons (mVar 1) lNil)) mNx)
def B_fitting_z15_2 : MS := (mSet 3 (mComp [7] (iSeq (mVar 3)) (gN 7) (mTest (mBin gEq (mFrz (mCall F_all_done 3 (lCons (mVar 7) (lCons (mVar 4) (lCons (mVar 5) lNil))))) (mVar 6))) (mVar 7)))
def M_fitting_z15 : MS := (mSeq (mFor (iKill [false, true, true, true, true, true, true] (iEn (lCons (mVar 0) lNil))) (gT 2 (gsCons (gN 1) (gsCons (gN 2) gsNil))) (mKill [false, true, true, true, true, true, true] B_fitting_z15_1))
    (mSeq (mSet 3 (mVal (mFrz (mCall F_rows_to_two_z15 0 lNil))))
    (mSeq (mFor (iKill [false, true, true, false, true, true, true] (iSeq (mVar 0))) (gT 3 (gsCons (gN 4) (gsCons (gN 5) (gsCons (gN 6) gsNil)))) (mKill [false, true, true, false, true, true, true] B_fitting_z15_2))
    (mRet (mVal (mVar 3))))))
def F_fitting_z15 : FP := runP 8 1 M_fitting_z15
def B_read_z15_1 : MS := (mSeq (mIfS (mTest (mBin gEq (mVar 3) (mK (.int 5)))) (mRaiseX "BadLine" ["line", "word"] (lCons (mBin gAdd (mVar 3) (mK (.int 1))) (lCons (mK (.int 1)) lNil))) mNx)
    (mDrop (mAppend 2 (mFrz (mCall F_step_in_z15 2 (lCons (mFrz (mSplit (mVar 4) (mK (.str " ")))) (lCons (mBin gAdd (mVar 3) (mK (.int 1))) lNil)))))))
def M_read_z15 : MS := (mSeq (mSet 1 (mVal (mFrz (mSplit (mVar 0) (mK (.str "\n"))))))
    (mSeq (mSet 2 (mLst lNil))
    (mSeq (mFor (iKill [false, false, false, true, true] (iEn (lCons (mSl (mVar 1) pNo (pSo (mUn gNeg (mK (.int 1))))) lNil))) (gT 2 (gsCons (gN 3) (gsCons (gN 4) gsNil))) (mKill [false, false, false, true, true] B_read_z15_1))
    (mSeq (mIfS (mTest (mBin gNe (mBin gIx (mVar 1) (mUn gNeg (mK (.int 1)))) (mK (.str "")))) (mRaiseX "BadLine" ["line", "word"] (lCons (mApp gLen (lCons (mVar 1) lNil)) (lCons (mK (.int 1)) lNil))) mNx)
    (mRet (mMake "Script" F_Script___init___z15 2 (lCons (mApp gTuple (lCons (mVar 2) lNil)) lNil)))))))
def F_read_z15 : FP := runP 5 1 M_read_z15
def B_asking_z15_1 : MS := (mIfS (bNot (mTest (mFrz (mCall F_is_choice_z15 1 (lCons (mVar 4) lNil))))) (mRaiseX "BadChoice" ["index"] (lCons (mVar 3) lNil)) mNx)
def B_asking_z15_2 : MS := (mIfS (mTest (mBin (gCmp gt') (mLenSet 64 (mFrz (mComp [7] (iSeq (mVar 2)) (gN 7) bYes (mFrz (mCall F_all_done 3 (lCons (mVar 7) (lCons (mVar 5) (lCons (mVar 6) lNil)))))))) (mK (.int 1)))) (mRet (mVal (mVar 3))) mNx)
def M_asking_z15 : MS := (mSeq (mSet 2 (mVal (mFrz (mCall F_fitting_z15 1 (lCons (mVar 0) lNil)))))
    (mSeq (mFor (iKill [false, false, false, true, true, true, true] (iEn (lCons (mVar 1) lNil))) (gT 2 (gsCons (gN 3) (gsCons (gN 4) gsNil))) (mKill [false, false, false, true, true, true, true] B_asking_z15_1))
    (mSeq (mFor (iKill [false, false, false, true, true, true, true] (iEn (lCons (mVar 1) lNil))) (gT 2 (gsCons (gN 3) (gsCons (gT 2 (gsCons (gN 5) (gsCons (gN 6) gsNil))) gsNil))) (mKill [false, false, false, true, true, true, true] B_asking_z15_2))
    (mRet (mVal (mK .non))))))
def F_asking_z15 : FP := runP 8 2 M_asking_z15
def M__law_led_z15 (p1 p2 : Addr) : MS := (mSeq (mNewW 0 F_need_text (lCons (mK (.int 5)) (lCons (mTup (lCons (mK (.int 1)) (lCons (mK (.int 4)) lNil))) lNil)) p1 p2)
    (mSeq (mIfS (mTest (mBin gNe (mFrz (mLst (lCons (mFrz (mMethL 0 F_Walk_do_z15 2 (lCons (mTup (lCons (mK (.str "rise")) (lCons (mK (.int 2)) lNil))) lNil))) (lCons (mFrz (mMethL 0 F_Walk_do_z15 2 (lCons (mTup (lCons (mK (.str "back")) lNil)) lNil))) (lCons (mFrz (mMethL 0 F_Walk_undo_z15 1 lNil)) lNil))))) (mFrz (mLst (lCons (mTup (lCons (mK (.int 1)) (lCons (mK (.int 1)) lNil))) (lCons (mTup (lCons (mK (.int 1)) (lCons (mK (.int 1)) lNil))) (lCons (mK (.bl true)) lNil))))))) (mRet (mVal (mK (.bl false)))) mNx)
    (mSeq (mIfS (mTest (mBin gNe (mFrz (mLst (lCons (mFrz (mMethL 0 F_Walk_text_z15 1 lNil)) (lCons (mFrz (mMethL 0 F_Walk_log_z15 1 lNil)) (lCons (mLenW 0 F_Walk___len___z15) lNil))))) (mFrz (mLst (lCons (mTup (lCons (mK (.int 1)) (lCons (mK (.int 1)) lNil))) (lCons (mFrz (mLst (lCons (mTup (lCons (mK (.str "rise")) (lCons (mK (.int 2)) lNil))) lNil))) (lCons (mK (.int 1)) lNil))))))) (mRet (mVal (mK (.bl false)))) mNx)
    (mSeq (mSet 1 (mVal (mFrz (mMake "Script" F_Script___init___z15 2 (lCons (mTup (lCons (mTup (lCons (mK (.str "shift")) (lCons (mUn gNeg (mK (.int 2))) lNil))) (lCons (mTup (lCons (mK (.str "back")) lNil)) (lCons (mTup (lCons (mK (.str "times")) (lCons (mK (.int 3)) lNil))) lNil)))) lNil)))))
    (mRet (mVal (mAnd (mBin gEq (mFrz (mCall F_write 1 (lCons (mVar 1) lNil))) (mK (.str "shift -2\nback\ntimes 3\n"))) (mBin (gEqO "Script" F_Script___eq__) (mFrz (mCall F_read_z15 1 (lCons (mFrz (mCall F_write 1 (lCons (mVar 1) lNil))) lNil))) (mVar 1)))))))))
def F__law_led_z15 (p1 p2 : Addr) : FP := runP 2 0 (M__law_led_z15 p1 p2)
def M__law_found_z15 : MS := (mSeq (mIfS (mTest (mBin gNe (mFrz (mLst (lCons (mFrz (mCall F_rounds 3 (lCons (mFrz (mMake "Script" F_Script___init___z15 2 (lCons (mTup (lCons (mTup (lCons (mK (.str "shift")) (lCons (mK (.int 1)) lNil))) lNil)) lNil))) (lCons (mK (.int 5)) (lCons (mK (.int 2)) lNil))))) (lCons (mFrz (mCall F_rounds 3 (lCons (mFrz (mMake "Script" F_Script___init___z15 2 (lCons (mTup (lCons (mTup (lCons (mK (.str "ahead")) (lCons (mK (.int 1)) lNil))) lNil)) lNil))) (lCons (mK (.int 3)) (lCons (mK (.int 3)) lNil))))) lNil)))) (mFrz (mLst (lCons (mK (.int 5)) (lCons (mK (.int 3)) lNil)))))) (mRet (mVal (mK (.bl false)))) mNx)
    (mSeq (mIfS (mTest (mBin gNe (mFrz (mLst (lCons (mFrz (mCall F_rounds 3 (lCons (mFrz (mMake "Script" F_Script___init___z15 2 (lCons (mTup (lCons (mTup (lCons (mK (.str "times")) (lCons (mK (.int 2)) lNil))) lNil)) lNil))) (lCons (mK (.int 5)) (lCons (mK (.int 1)) lNil))))) (lCons (mFrz (mCall F_rounds 3 (lCons (mFrz (mMake "Script" F_Script___init___z15 2 (lCons (mTup (lCons (mTup (lCons (mK (.str "times")) (lCons (mK (.int 2)) lNil))) lNil)) lNil))) (lCons (mK (.int 4)) (lCons (mK (.int 1)) lNil))))) lNil)))) (mFrz (mLst (lCons (mK (.int 4)) (lCons (mK .non) lNil)))))) (mRet (mVal (mK (.bl false)))) mNx)
    (mSeq (mIfS (mTest (mBin gNe (mFrz (mCall F_fitting_z15 1 (lCons (mFrz (mLst (lCons (mTup (lCons (mK (.int 100)) (lCons (mTup (lCons (mK (.int 7)) (lCons (mK (.int 20)) lNil))) (lCons (mTup (lCons (mK (.int 93)) (lCons (mK (.int 79)) lNil))) lNil)))) lNil))) lNil))) (mFrz (mLst (lCons (mTup (lCons (mTup (lCons (mK (.str "fall")) (lCons (mUn gNeg (mK (.int 1))) lNil))) (lCons (mTup (lCons (mK (.str "mirror")) lNil)) lNil))) (lCons (mTup (lCons (mTup (lCons (mK (.str "mirror")) lNil)) (lCons (mTup (lCons (mK (.str "fall")) (lCons (mK (.int 1)) lNil))) lNil))) lNil)))))) (mRet (mVal (mK (.bl false)))) mNx)
    (mRet (mVal (mAnd (mBin gEq (mFrz (mCall F_asking_z15 2 (lCons (mFrz (mLst (lCons (mTup (lCons (mK (.int 9)) (lCons (mTup (lCons (mK (.int 1)) lNil)) (lCons (mTup (lCons (mK (.int 2)) lNil)) lNil)))) lNil))) (lCons (mFrz (mLst (lCons (mTup (lCons (mK (.int 9)) (lCons (mTup (lCons (mK (.int 1)) lNil)) lNil))) (lCons (mTup (lCons (mK (.int 9)) (lCons (mTup (lCons (mK (.int 4)) lNil)) lNil))) lNil)))) lNil)))) (mK (.int 1))) (mBin gEq (mApp gLen (lCons (mFrz (mCall F_fitting_z15 1 (lCons (mFrz (mLst lNil)) lNil))) lNil)) (mK (.int 507)))))))))
def F__law_found_z15 : FP := runP 0 0 M__law_found_z15
def M__law_shifts_z15 : MS := (mSeq (mSet 0 (mVal (mFrz (mMake "Script" F_Script___init___z15 2 (lCons (mTup (lCons (mTup (lCons (mK (.str "ahead")) (lCons (mK (.int 1)) lNil))) (lCons (mTup (lCons (mK (.str "mirror")) lNil)) (lCons (mTup (lCons (mK (.str "back")) lNil)) (lCons (mTup (lCons (mK (.str "rise")) (lCons (mK (.int 1)) lNil))) lNil))))) lNil)))))
    (mSeq (mSet 1 (mVal (mBin gPow (mK (.int 10)) (mK (.int 30)))))
    (mSeq (mIfS (bOr (mTest (mBin gNe (mFrz (mCall F_shifted 3 (lCons (mVar 0) (lCons (mK (.int 10)) (lCons (mTup (lCons (mK (.int 1)) (lCons (mK (.int 2)) (lCons (mK (.int 9)) lNil)))) lNil))))) (mTup (lCons (mK (.int 8)) (lCons (mK (.int 7)) (lCons (mK (.int 0)) lNil)))))) (mTest (mBin gNe (mBin gIx (mFrz (mCall F_trace 3 (lCons (mVar 0) (lCons (mK (.int 10)) (lCons (mTup (lCons (mK (.int 1)) (lCons (mK (.int 2)) (lCons (mK (.int 9)) lNil)))) lNil))))) (mK (.int 1))) (mTup (lCons (mK (.int 1)) (lCons (mK (.int 3)) (lCons (mK (.int 1)) lNil))))))) (mRet (mVal (mK (.bl false)))) mNx)
    (mSeq (mIfS (mTest (mBin gNe (mFrz (mCall F_shifted 3 (lCons (mFrz (mMake "Script" F_Script___init___z15 2 (lCons (mTup (lCons (mTup (lCons (mK (.str "times")) (lCons (mK (.int 3)) lNil))) lNil)) lNil))) (lCons (mVar 1) (lCons (mTup (lCons (mBin gSub (mVar 1) (mK (.int 1))) lNil)) lNil))))) (mTup (lCons (mBin gSub (mVar 1) (mK (.int 3))) lNil)))) (mRet (mVal (mK (.bl false)))) mNx)
    (mSeq (mIfS (mTest (mBin gNe (mFrz (mCall F_letter 3 (lCons (mFrz (mMake "Script" F_Script___init___z15 2 (lCons (mTup (lCons (mTup (lCons (mK (.str "ahead")) (lCons (mK (.int 1)) lNil))) (lCons (mTup (lCons (mK (.str "ahead")) (lCons (mK (.int 1)) lNil))) lNil))) lNil))) (lCons (mVar 1) (lCons (mK (.int 5)) lNil))))) (mTup (lCons (mK (.int 0)) (lCons (mTup (lCons (mTup (lCons (mK (.int 3)) (lCons (mK (.int 1)) lNil))) (lCons (mTup (lCons (mK (.int 4)) (lCons (mK (.int 2)) lNil))) (lCons (mTup (lCons (mK (.int 5)) (lCons (mK (.int 1)) lNil))) lNil)))) lNil))))) (mRet (mVal (mK (.bl false)))) mNx)
    (mSeq (mIfS (mTest (mBin gNe (mFrz (mCall F_letter 3 (lCons (mVar 0) (lCons (mK (.int 3)) (lCons (mK (.int 0)) lNil))))) (mTup (lCons (mUn gNeg (mK (.int 1))) (lCons (mTup (lCons (mTup (lCons (mK (.int 1)) (lCons (mUn gNeg (mK (.int 1))) lNil))) (lCons (mTup (lCons (mK (.int 2)) (lCons (mUn gNeg (mK (.int 1))) lNil))) lNil))) lNil))))) (mRet (mVal (mK (.bl false)))) mNx)
    (mRet (mVal (mBin gEq (mFrz (mCall F_letter 3 (lCons (mFrz (mMake "Script" F_Script___init___z15 2 (lCons (mTup (lCons (mTup (lCons (mK (.str "fall")) (lCons (mK (.int 2)) lNil))) (lCons (mTup (lCons (mK (.str "mirror")) lNil)) lNil))) lNil))) (lCons (mVar 1) (lCons (mK (.int 0)) lNil))))) (mTup (lCons (mBin gSub (mK (.int 1)) (mBin gMul (mK (.int 2)) (mVar 1))) (lCons (mTup (lCons (mTup (lCons (mK (.int 0)) (lCons (mUn gNeg (mK (.int 1))) lNil))) lNil)) lNil))))))))))))
def F__law_shifts_z15 : FP := runP 2 0 M__law_shifts_z15
def M__law_decided_z15 : MS := (mSeq (mIfS (mTest (mBin gNe (mFrz (mCall F_parting 2 (lCons (mFrz (mMake "Script" F_Script___init___z15 2 (lCons (mTup (lCons (mTup (lCons (mK (.str "shift")) (lCons (mK (.int 1)) lNil))) lNil)) lNil))) (lCons (mFrz (mMake "Script" F_Script___init___z15 2 (lCons (mTup (lCons (mTup (lCons (mK (.str "shift")) (lCons (mK (.int 3)) lNil))) lNil)) lNil))) lNil)))) (mTup (lCons (mK (.int 3)) (lCons (mTup (lCons (mK (.int 0)) lNil)) lNil))))) (mRet (mVal (mK (.bl false)))) mNx)
    (mSeq (mIfS (mTest (mBin gNe (mFrz (mCall F_parting 2 (lCons (mFrz (mMake "Script" F_Script___init___z15 2 (lCons (mTup (lCons (mTup (lCons (mK (.str "ahead")) (lCons (mK (.int 1)) lNil))) lNil)) lNil))) (lCons (mFrz (mMake "Script" F_Script___init___z15 2 (lCons (mTup (lCons (mTup (lCons (mK (.str "behind")) (lCons (mK (.int 1)) lNil))) lNil)) lNil))) lNil)))) (mTup (lCons (mK (.int 2)) (lCons (mTup (lCons (mK (.int 0)) (lCons (mK (.int 1)) lNil))) lNil))))) (mRet (mVal (mK (.bl false)))) mNx)
    (mSeq (mIfS (bNot (mTest (mFrz (mCall F_alike 2 (lCons (mFrz (mMake "Script" F_Script___init___z15 2 (lCons (mTup (lCons (mTup (lCons (mK (.str "rise")) (lCons (mK (.int 1)) lNil))) (lCons (mTup (lCons (mK (.str "back")) lNil)) lNil))) lNil))) (lCons (mFrz (mMake "Script" F_Script___init___z15 2 (lCons (mTup (lCons (mTup (lCons (mK (.str "back")) lNil)) (lCons (mTup (lCons (mK (.str "fall")) (lCons (mK (.int 1)) lNil))) lNil))) lNil))) lNil)))))) (mRet (mVal (mK (.bl false)))) mNx)
    (mSeq (mIfS (mTest (mBin gNe (mFrz (mCall F_undone 2 (lCons (mFrz (mMake "Script" F_Script___init___z15 2 (lCons (mTup (lCons (mTup (lCons (mK (.str "rise")) (lCons (mK (.int 2)) lNil))) lNil)) lNil))) (lCons (mFrz (mMake "Script" F_Script___init___z15 2 (lCons (mTup (lCons (mTup (lCons (mK (.str "rise")) (lCons (mUn gNeg (mK (.int 1))) lNil))) lNil)) lNil))) lNil)))) (mTup (lCons (mK (.int 2)) (lCons (mTup (lCons (mK (.int 0)) (lCons (mK (.int 0)) lNil))) lNil))))) (mRet (mVal (mK (.bl false)))) mNx)
    (mSeq (mIfS (mTest (mBin gNe (mProp "Script" F_Script_steps (mFrz (mCall F_undoing_z15 1 (lCons (mFrz (mMake "Script" F_Script___init___z15 2 (lCons (mTup (lCons (mTup (lCons (mK (.str "shift")) (lCons (mK (.int 2)) lNil))) (lCons (mTup (lCons (mK (.str "back")) lNil)) (lCons (mTup (lCons (mK (.str "rise")) (lCons (mK (.int 1)) lNil))) lNil)))) lNil))) lNil)))) (mTup (lCons (mTup (lCons (mK (.str "rise")) (lCons (mUn gNeg (mK (.int 1))) lNil))) (lCons (mTup (lCons (mK (.str "back")) lNil)) (lCons (mTup (lCons (mK (.str "shift")) (lCons (mUn gNeg (mK (.int 2))) lNil))) lNil)))))) (mRet (mVal (mK (.bl false)))) mNx)
    (mSeq (mIfS (mTest (mBin gNe (mFrz (mLst (lCons (mFrz (mCall F_loses 1 (lCons (mFrz (mMake "Script" F_Script___init___z15 2 (lCons (mTup (lCons (mTup (lCons (mK (.str "times")) (lCons (mK (.int 3)) lNil))) (lCons (mTup (lCons (mK (.str "shift")) (lCons (mK (.int 1)) lNil))) lNil))) lNil))) lNil))) (lCons (mFrz (mCall F_loses 1 (lCons (mFrz (mMake "Script" F_Script___init___z15 2 (lCons (mTup (lCons (mTup (lCons (mK (.str "ahead")) (lCons (mK (.int 1)) lNil))) lNil)) lNil))) lNil))) lNil)))) (mFrz (mLst (lCons (mK (.int 3)) (lCons (mK .non) lNil)))))) (mRet (mVal (mK (.bl false)))) mNx)
    (mSeq (mIfS (mTest (mBin gNe (mFrz (mCall F_swaps 1 (lCons (mFrz (mMake "Script" F_Script___init___z15 2 (lCons (mTup (lCons (mTup (lCons (mK (.str "shift")) (lCons (mK (.int 1)) lNil))) (lCons (mTup (lCons (mK (.str "rise")) (lCons (mK (.int 1)) lNil))) (lCons (mTup (lCons (mK (.str "times")) (lCons (mK (.int 2)) lNil))) lNil)))) lNil))) lNil))) (mFrz (mLst (lCons (mK (.int 0)) lNil))))) (mRet (mVal (mK (.bl false)))) mNx)
    (mSeq (mIfS (mTest (mBin gNe (mFrz (mCall F_idle 1 (lCons (mFrz (mMake "Script" F_Script___init___z15 2 (lCons (mTup (lCons (mTup (lCons (mK (.str "mirror")) lNil)) (lCons (mTup (lCons (mK (.str "ahead")) (lCons (mK (.int 1)) lNil))) (lCons (mTup (lCons (mK (.str "mirror")) lNil)) lNil)))) lNil))) lNil))) (mFrz (mLst lNil)))) (mRet (mVal (mK (.bl false)))) mNx)
    (mRet (mVal (mBin gEq (mFrz (mCall F_idle 1 (lCons (mFrz (mMake "Script" F_Script___init___z15 2 (lCons (mTup (lCons (mTup (lCons (mK (.str "back")) lNil)) (lCons (mTup (lCons (mK (.str "shift")) (lCons (mK (.int 1)) lNil))) (lCons (mTup (lCons (mK (.str "back")) lNil)) lNil)))) lNil))) lNil))) (mFrz (mLst (lCons (mTup (lCons (mK (.int 0)) (lCons (mK (.int 2)) lNil))) lNil))))))))))))))
def F__law_decided_z15 : FP := runP 0 0 M__law_decided_z15
def M_law_z15 : MS := (mSeq (mSet 1 (mCall F__law_random 2 (lCons (mVar 0) (lCons (mK (.int 165)) lNil))))
    (mSeq (mSet 2 (mVal (mFrz (mCallL 1 F__law_below 2 (lCons (mK (.int 4)) lNil)))))
    (mSeq (mIfS (mTest (mBin gEq (mVar 2) (mK (.int 0)))) (mRet (mCall F__law_shifts_z15 0 lNil)) mNx)
    (mSeq (mIfS (mTest (mBin gEq (mVar 2) (mK (.int 1)))) (mRet (mCall F__law_decided_z15 0 lNil)) mNx)
    (mRet (mVal (mIf (mTest (mBin gEq (mVar 2) (mK (.int 2)))) (mFrz (mCall F__law_found_z15 0 lNil)) (mFrz (mVal (mK (.bl true)))))))))))
def F_law_z15 : FP := runP 3 1 M_law_z15
end Den

set_option Elab.async false
set_option linter.all false
set_option maxRecDepth 100000
set_option maxHeartbeats 8000000
namespace Den
open PySem PySem.Spec PyProof.Rows L2

def topS (i : Nat) : Stmt := PySem.Challenge.pw_ringalphabet_k15_known_scripts.main.body.getD i (.Pass ⟨0, 0, 0, 0⟩)
abbrev s_is_step : Stmt := topS 15
abbrev s_all_steps_z15 : Stmt := topS 16
abbrev s_Script___eq__ : Stmt := (clsBody (topS 17)).getD 3 (.Pass ⟨0, 0, 0, 0⟩)
abbrev s_Script_steps : Stmt := (clsBody (topS 17)).getD 1 (.Pass ⟨0, 0, 0, 0⟩)
abbrev s_is_from : Stmt := topS 21
abbrev s_done : Stmt := topS 24
abbrev s_with_more : Stmt := topS 28
abbrev s_divisor : Stmt := topS 35
abbrev s_wide : Stmt := topS 36
abbrev s_text_for : Stmt := topS 40
abbrev s_loses : Stmt := topS 46
abbrev s_units : Stmt := topS 52
abbrev s_write : Stmt := topS 60
abbrev s_Walk_undo : Stmt := (clsBody (topS 64)).getD 3 (.Pass ⟨0, 0, 0, 0⟩)
abbrev s_Walk_text : Stmt := (clsBody (topS 64)).getD 2 (.Pass ⟨0, 0, 0, 0⟩)
abbrev s_Walk_log : Stmt := (clsBody (topS 64)).getD 4 (.Pass ⟨0, 0, 0, 0⟩)
abbrev s_Walk___len__ : Stmt := (clsBody (topS 64)).getD 6 (.Pass ⟨0, 0, 0, 0⟩)
abbrev s__law_random : Stmt := topS 66
abbrev s__law_below : Stmt := topS 67
abbrev s_is_text : Stmt := topS 22
abbrev s_all_done : Stmt := topS 25
abbrev s_common_of : Stmt := topS 39
abbrev s_rows_to_two_z15 : Stmt := topS 56
abbrev s_Script___init__ : Stmt := (clsBody (topS 17)).getD 0 (.Pass ⟨0, 0, 0, 0⟩)
abbrev s_need_text : Stmt := topS 23
abbrev s_rounds : Stmt := topS 53
abbrev s_is_choice_z15 : Stmt := topS 54
abbrev s_step_in_z15 : Stmt := topS 61
abbrev s_Walk_do : Stmt := (clsBody (topS 64)).getD 1 (.Pass ⟨0, 0, 0, 0⟩)
abbrev s_shifted : Stmt := topS 26
abbrev s_trace : Stmt := topS 27
abbrev s_is_seen_z15 : Stmt := topS 55
abbrev s_Walk___init__ : Stmt := (clsBody (topS 64)).getD 0 (.Pass ⟨0, 0, 0, 0⟩)
abbrev s_undoing_z15 : Stmt := topS 45
abbrev s_fitting_z15 : Stmt := topS 57
abbrev s_read_z15 : Stmt := topS 62
abbrev s_asking_z15 : Stmt := topS 58
abbrev s__law_led_z15 : Stmt := topS 71
abbrev s__law_found_z15 : Stmt := topS 70
abbrev s_sum_at : Stmt := topS 29
abbrev s_letter : Stmt := topS 30
abbrev s_unlike_sums : Stmt := topS 37
abbrev s_all_unlike : Stmt := topS 38
abbrev s__law_shifts_z15 : Stmt := topS 68
abbrev s_first_unlike : Stmt := topS 41
abbrev s_parting : Stmt := topS 42
abbrev s_undone : Stmt := topS 44
abbrev s_swaps : Stmt := topS 47
abbrev s_idle : Stmt := topS 48
abbrev s_alike : Stmt := topS 43
abbrev s__law_decided_z15 : Stmt := topS 69
abbrev s_law_z15 : Stmt := topS 72
theorem bt_abs : bootBuiltins "abs" = some (.builtin "abs") := by decide +kernel
theorem bt_all : bootBuiltins "all" = some (.builtin "all") := by decide +kernel
theorem bt_any : bootBuiltins "any" = some (.builtin "any") := by decide +kernel
theorem bt_bool : bootBuiltins "bool" = some (.type "bool") := by decide +kernel
theorem bt_dict : bootBuiltins "dict" = some (.type "dict") := by decide +kernel
theorem bt_int : bootBuiltins "int" = some (.type "int") := by decide +kernel
theorem bt_len : bootBuiltins "len" = some (.builtin "len") := by decide +kernel
theorem bt_max : bootBuiltins "max" = some (.builtin "max") := by decide +kernel
theorem bt_min : bootBuiltins "min" = some (.builtin "min") := by decide +kernel
theorem bt_sorted : bootBuiltins "sorted" = some (.builtin "sorted") := by decide +kernel
theorem bt_str : bootBuiltins "str" = some (.type "str") := by decide +kernel
theorem bt_tuple : bootBuiltins "tuple" = some (.type "tuple") := by decide +kernel
abbrev s_BadChoice___init__ : Stmt := (clsBody (topS 9)).getD 0 (.Pass ⟨0, 0, 0, 0⟩)
abbrev s_BadLine___init__ : Stmt := (clsBody (topS 10)).getD 0 (.Pass ⟨0, 0, 0, 0⟩)
abbrev s_BadSeen___init__ : Stmt := (clsBody (topS 8)).getD 0 (.Pass ⟨0, 0, 0, 0⟩)
abbrev s_BadSteps___init__ : Stmt := (clsBody (topS 2)).getD 0 (.Pass ⟨0, 0, 0, 0⟩)
structure Tx (P : Program) (K : PySem.W.Frag) (mg : Str → Option Value) (w : World) where
  f_is_step : Addr
  d_is_step : FuncData
  F_is_step : Fun K "is_step" "is_step" s_is_step f_is_step d_is_step
  b_is_step : Binds K d_is_step ["value"] []
  g_is_step : mg "is_step" = some (.ref f_is_step)
  f_all_steps_z15 : Addr
  d_all_steps_z15 : FuncData
  F_all_steps_z15 : Fun K "all_steps" "all_steps" s_all_steps_z15 f_all_steps_z15 d_all_steps_z15
  b_all_steps_z15 : Binds K d_all_steps_z15 [] []
  g_all_steps_z15 : mg "all_steps" = some (.ref f_all_steps_z15)
  f_Script___eq__ : Addr
  d_Script___eq__ : FuncData
  F_Script___eq__ : Fun K "__eq__" "Script.__eq__" s_Script___eq__ f_Script___eq__ d_Script___eq__
  b_Script___eq__ : Binds K d_Script___eq__ ["self", "other"] []
  f_Script_steps : Addr
  d_Script_steps : FuncData
  F_Script_steps : Fun K "steps" "Script.steps" s_Script_steps f_Script_steps d_Script_steps
  b_Script_steps : Binds K d_Script_steps ["self"] []
  f_is_from : Addr
  d_is_from : FuncData
  F_is_from : Fun K "is_from" "is_from" s_is_from f_is_from d_is_from
  b_is_from : Binds K d_is_from ["value", "least", "most"] []
  g_is_from : mg "is_from" = some (.ref f_is_from)
  f_done : Addr
  d_done : FuncData
  F_done : Fun K "done" "done" s_done f_done d_done
  b_done : Binds K d_done ["step", "n", "text"] []
  g_done : mg "done" = some (.ref f_done)
  f_with_more : Addr
  d_with_more : FuncData
  F_with_more : Fun K "with_more" "with_more" s_with_more f_with_more d_with_more
  b_with_more : Binds K d_with_more ["one", "other", "many"] []
  g_with_more : mg "with_more" = some (.ref f_with_more)
  f_divisor : Addr
  d_divisor : FuncData
  F_divisor : Fun K "divisor" "divisor" s_divisor f_divisor d_divisor
  b_divisor : Binds K d_divisor ["one", "other"] []
  g_divisor : mg "divisor" = some (.ref f_divisor)
  f_wide : Addr
  d_wide : FuncData
  F_wide : Fun K "wide" "wide" s_wide f_wide d_wide
  b_wide : Binds K d_wide ["steps"] []
  g_wide : mg "wide" = some (.ref f_wide)
  f_text_for : Addr
  d_text_for : FuncData
  F_text_for : Fun K "text_for" "text_for" s_text_for f_text_for d_text_for
  b_text_for : Binds K d_text_for ["sums", "n"] []
  g_text_for : mg "text_for" = some (.ref f_text_for)
  f_loses : Addr
  d_loses : FuncData
  F_loses : Fun K "loses" "loses" s_loses f_loses d_loses
  b_loses : Binds K d_loses ["script"] []
  g_loses : mg "loses" = some (.ref f_loses)
  f_units : Addr
  d_units : FuncData
  F_units : Fun K "units" "units" s_units f_units d_units
  b_units : Binds K d_units ["length"] []
  g_units : mg "units" = some (.ref f_units)
  f_write : Addr
  d_write : FuncData
  F_write : Fun K "write" "write" s_write f_write d_write
  b_write : Binds K d_write ["script"] []
  g_write : mg "write" = some (.ref f_write)
  f_Walk_undo : Addr
  d_Walk_undo : FuncData
  F_Walk_undo_z15 : Fun K "undo" "Walk.undo" s_Walk_undo f_Walk_undo d_Walk_undo
  b_Walk_undo : Binds K d_Walk_undo ["self"] []
  f_Walk_text : Addr
  d_Walk_text : FuncData
  F_Walk_text_z15 : Fun K "text" "Walk.text" s_Walk_text f_Walk_text d_Walk_text
  b_Walk_text : Binds K d_Walk_text ["self"] []
  f_Walk_log : Addr
  d_Walk_log : FuncData
  F_Walk_log_z15 : Fun K "log" "Walk.log" s_Walk_log f_Walk_log d_Walk_log
  b_Walk_log : Binds K d_Walk_log ["self"] []
  f_Walk___len__ : Addr
  d_Walk___len__ : FuncData
  F_Walk___len___z15 : Fun K "__len__" "Walk.__len__" s_Walk___len__ f_Walk___len__ d_Walk___len__
  b_Walk___len__ : Binds K d_Walk___len__ ["self"] []
  f__law_random : Addr
  d__law_random : FuncData
  F__law_random : Fun K "_law_random" "_law_random" s__law_random f__law_random d__law_random
  b__law_random : Binds K d__law_random ["_law_script", "_law_salt"] []
  g__law_random : mg "_law_random" = some (.ref f__law_random)
  f__law_below : Addr
  d__law_below : FuncData
  F__law_below : Fun K "_law_below" "_law_below" s__law_below f__law_below d__law_below
  b__law_below : Binds K d__law_below ["_law_d", "_law_size"] []
  g__law_below : mg "_law_below" = some (.ref f__law_below)
  f_is_text : Addr
  d_is_text : FuncData
  F_is_text : Fun K "is_text" "is_text" s_is_text f_is_text d_is_text
  b_is_text : Binds K d_is_text ["value", "n"] []
  g_is_text : mg "is_text" = some (.ref f_is_text)
  f_all_done : Addr
  d_all_done : FuncData
  F_all_done : Fun K "all_done" "all_done" s_all_done f_all_done d_all_done
  b_all_done : Binds K d_all_done ["steps", "n", "text"] []
  g_all_done : mg "all_done" = some (.ref f_all_done)
  f_common_of : Addr
  d_common_of : FuncData
  F_common_of : Fun K "common_of" "common_of" s_common_of f_common_of d_common_of
  b_common_of : Binds K d_common_of ["sums"] []
  g_common_of : mg "common_of" = some (.ref f_common_of)
  f_rows_to_two_z15 : Addr
  d_rows_to_two_z15 : FuncData
  F_rows_to_two_z15 : Fun K "rows_to_two" "rows_to_two" s_rows_to_two_z15 f_rows_to_two_z15 d_rows_to_two_z15
  b_rows_to_two_z15 : Binds K d_rows_to_two_z15 [] []
  g_rows_to_two_z15 : mg "rows_to_two" = some (.ref f_rows_to_two_z15)
  f_Script___init__ : Addr
  d_Script___init__ : FuncData
  F_Script___init___z15 : Fun K "__init__" "Script.__init__" s_Script___init__ f_Script___init__ d_Script___init__
  b_Script___init__ : Binds K d_Script___init__ ["self", "steps"] []
  f_need_text : Addr
  d_need_text : FuncData
  F_need_text : Fun K "need_text" "need_text" s_need_text f_need_text d_need_text
  b_need_text : Binds K d_need_text ["n", "text"] []
  g_need_text : mg "need_text" = some (.ref f_need_text)
  f_rounds : Addr
  d_rounds : FuncData
  F_rounds : Fun K "rounds" "rounds" s_rounds f_rounds d_rounds
  b_rounds : Binds K d_rounds ["script", "n", "length"] []
  g_rounds : mg "rounds" = some (.ref f_rounds)
  f_is_choice_z15 : Addr
  d_is_choice_z15 : FuncData
  F_is_choice_z15 : Fun K "is_choice" "is_choice" s_is_choice_z15 f_is_choice_z15 d_is_choice_z15
  b_is_choice_z15 : Binds K d_is_choice_z15 ["value"] []
  g_is_choice_z15 : mg "is_choice" = some (.ref f_is_choice_z15)
  f_step_in_z15 : Addr
  d_step_in_z15 : FuncData
  F_step_in_z15 : Fun K "step_in" "step_in" s_step_in_z15 f_step_in_z15 d_step_in_z15
  b_step_in_z15 : Binds K d_step_in_z15 ["words", "number"] []
  g_step_in_z15 : mg "step_in" = some (.ref f_step_in_z15)
  f_Walk_do : Addr
  d_Walk_do : FuncData
  F_Walk_do_z15 : Fun K "do" "Walk.do" s_Walk_do f_Walk_do d_Walk_do
  b_Walk_do : Binds K d_Walk_do ["self", "step"] []
  f_shifted : Addr
  d_shifted : FuncData
  F_shifted : Fun K "shifted" "shifted" s_shifted f_shifted d_shifted
  b_shifted : Binds K d_shifted ["script", "n", "text"] []
  g_shifted : mg "shifted" = some (.ref f_shifted)
  f_trace : Addr
  d_trace : FuncData
  F_trace : Fun K "trace" "trace" s_trace f_trace d_trace
  b_trace : Binds K d_trace ["script", "n", "text"] []
  g_trace : mg "trace" = some (.ref f_trace)
  f_is_seen_z15 : Addr
  d_is_seen_z15 : FuncData
  F_is_seen_z15 : Fun K "is_seen" "is_seen" s_is_seen_z15 f_is_seen_z15 d_is_seen_z15
  b_is_seen_z15 : Binds K d_is_seen_z15 ["value"] []
  g_is_seen_z15 : mg "is_seen" = some (.ref f_is_seen_z15)
  f_Walk___init__ : Addr
  d_Walk___init__ : FuncData
  F_Walk___init__ : Fun K "__init__" "Walk.__init__" s_Walk___init__ f_Walk___init__ d_Walk___init__
  b_Walk___init__ : Binds K d_Walk___init__ ["self", "n", "text"] []
  f_undoing_z15 : Addr
  d_undoing_z15 : FuncData
  F_undoing_z15 : Fun K "undoing" "undoing" s_undoing_z15 f_undoing_z15 d_undoing_z15
  b_undoing_z15 : Binds K d_undoing_z15 ["script"] []
  g_undoing_z15 : mg "undoing" = some (.ref f_undoing_z15)
  f_fitting_z15 : Addr
  d_fitting_z15 : FuncData
  F_fitting_z15 : Fun K "fitting" "fitting" s_fitting_z15 f_fitting_z15 d_fitting_z15
  b_fitting_z15 : Binds K d_fitting_z15 ["seen"] []
  g_fitting_z15 : mg "fitting" = some (.ref f_fitting_z15)
  f_read_z15 : Addr
  d_read_z15 : FuncData
  F_read_z15 : Fun K "read" "read" s_read_z15 f_read_z15 d_read_z15
  b_read_z15 : Binds K d_read_z15 ["text"] []
  g_read_z15 : mg "read" = some (.ref f_read_z15)
  f_asking_z15 : Addr
  d_asking_z15 : FuncData
  F_asking_z15 : Fun K "asking" "asking" s_asking_z15 f_asking_z15 d_asking_z15
  b_asking_z15 : Binds K d_asking_z15 ["seen", "choices"] []
  g_asking_z15 : mg "asking" = some (.ref f_asking_z15)
  f__law_led_z15 : Addr
  d__law_led_z15 : FuncData
  F__law_led_z15 : Fun K "_law_led" "_law_led" s__law_led_z15 f__law_led_z15 d__law_led_z15
  b__law_led_z15 : Binds K d__law_led_z15 [] []
  g__law_led_z15 : mg "_law_led" = some (.ref f__law_led_z15)
  f__law_found_z15 : Addr
  d__law_found_z15 : FuncData
  F__law_found_z15 : Fun K "_law_found" "_law_found" s__law_found_z15 f__law_found_z15 d__law_found_z15
  b__law_found_z15 : Binds K d__law_found_z15 [] []
  g__law_found_z15 : mg "_law_found" = some (.ref f__law_found_z15)
  f_sum_at : Addr
  d_sum_at : FuncData
  F_sum_at : Fun K "sum_at" "sum_at" s_sum_at f_sum_at d_sum_at
  b_sum_at : Binds K d_sum_at ["steps", "length", "place"] []
  g_sum_at : mg "sum_at" = some (.ref f_sum_at)
  f_letter : Addr
  d_letter : FuncData
  F_letter : Fun K "letter" "letter" s_letter f_letter d_letter
  b_letter : Binds K d_letter ["script", "length", "place"] []
  g_letter : mg "letter" = some (.ref f_letter)
  f_unlike_sums : Addr
  d_unlike_sums : FuncData
  F_unlike_sums : Fun K "unlike_sums" "unlike_sums" s_unlike_sums f_unlike_sums d_unlike_sums
  b_unlike_sums : Binds K d_unlike_sums ["one", "other", "length"] []
  g_unlike_sums : mg "unlike_sums" = some (.ref f_unlike_sums)
  f_all_unlike : Addr
  d_all_unlike : FuncData
  F_all_unlike : Fun K "all_unlike" "all_unlike" s_all_unlike f_all_unlike d_all_unlike
  b_all_unlike : Binds K d_all_unlike ["one", "other", "reach"] []
  g_all_unlike : mg "all_unlike" = some (.ref f_all_unlike)
  f__law_shifts_z15 : Addr
  d__law_shifts_z15 : FuncData
  F__law_shifts_z15 : Fun K "_law_shifts" "_law_shifts" s__law_shifts_z15 f__law_shifts_z15 d__law_shifts_z15
  b__law_shifts_z15 : Binds K d__law_shifts_z15 [] []
  g__law_shifts_z15 : mg "_law_shifts" = some (.ref f__law_shifts_z15)
  f_first_unlike : Addr
  d_first_unlike : FuncData
  F_first_unlike : Fun K "first_unlike" "first_unlike" s_first_unlike f_first_unlike d_first_unlike
  b_first_unlike : Binds K d_first_unlike ["one", "other", "reach"] []
  g_first_unlike : mg "first_unlike" = some (.ref f_first_unlike)
  f_parting : Addr
  d_parting : FuncData
  F_parting : Fun K "parting" "parting" s_parting f_parting d_parting
  b_parting : Binds K d_parting ["one", "other"] []
  g_parting : mg "parting" = some (.ref f_parting)
  f_undone : Addr
  d_undone : FuncData
  F_undone : Fun K "undone" "undone" s_undone f_undone d_undone
  b_undone : Binds K d_undone ["one", "other"] []
  g_undone : mg "undone" = some (.ref f_undone)
  f_swaps : Addr
  d_swaps : FuncData
  F_swaps : Fun K "swaps" "swaps" s_swaps f_swaps d_swaps
  b_swaps : Binds K d_swaps ["script"] []
  g_swaps : mg "swaps" = some (.ref f_swaps)
  f_idle : Addr
  d_idle : FuncData
  F_idle : Fun K "idle" "idle" s_idle f_idle d_idle
  b_idle : Binds K d_idle ["script"] []
  g_idle : mg "idle" = some (.ref f_idle)
  f_alike : Addr
  d_alike : FuncData
  F_alike : Fun K "alike" "alike" s_alike f_alike d_alike
  b_alike : Binds K d_alike ["one", "other"] []
  g_alike : mg "alike" = some (.ref f_alike)
  f__law_decided_z15 : Addr
  d__law_decided_z15 : FuncData
  F__law_decided_z15 : Fun K "_law_decided" "_law_decided" s__law_decided_z15 f__law_decided_z15 d__law_decided_z15
  b__law_decided_z15 : Binds K d__law_decided_z15 [] []
  g__law_decided_z15 : mg "_law_decided" = some (.ref f__law_decided_z15)
  f_law_z15 : Addr
  d_law_z15 : FuncData
  F_law_z15 : Fun K "law" "law" s_law_z15 f_law_z15 d_law_z15
  b_law_z15 : Binds K d_law_z15 ["_law_script"] []
  g_law_z15 : mg "law" = some (.ref f_law_z15)
  z_abs : mg "abs" = none
  z_all : mg "all" = none
  z_any : mg "any" = none
  z_bool : mg "bool" = none
  z_dict : mg "dict" = none
  z_enumerate : mg "enumerate" = none
  z_int : mg "int" = none
  z_isinstance : mg "isinstance" = none
  z_len : mg "len" = none
  z_list : mg "list" = none
  z_max : mg "max" = none
  z_min : mg "min" = none
  z_range : mg "range" = none
  z_set : mg "set" = none
  z_sorted : mg "sorted" = none
  z_str : mg "str" = none
  z_tuple : mg "tuple" = none
  z_zip : mg "zip" = none
  a_BESIDE : Addr
  g_BESIDE : mg "BESIDE" = some (.ref a_BESIDE)
  t_BESIDE : tupIs K a_BESIDE [.str "ahead", .str "behind"] = true
  g_GREATEST : ∃ t, mg "GREATEST" = some (.int 1000000000000000000000000000000 t)
  a_ITSELF : Addr
  g_ITSELF : mg "ITSELF" = some (.ref a_ITSELF)
  t_ITSELF : tupIs K a_ITSELF [.str "mirror", .str "back"] = true
  g_MOST_LENGTH : ∃ t, mg "MOST_LENGTH" = some (.int 3 t)
  g_MOST_LETTERS : ∃ t, mg "MOST_LETTERS" = some (.int 200 t)
  g_MOST_SIZE : ∃ t, mg "MOST_SIZE" = some (.int 12 t)
  g_MOST_STEPS : ∃ t, mg "MOST_STEPS" = some (.int 5 t)
  a_NUMBERS : Addr
  g_NUMBERS : mg "NUMBERS" = some (.ref a_NUMBERS)
  T_NUMBERS : TbOk K w a_NUMBERS tb_NUMBERS
  a_PLAIN : Addr
  g_PLAIN : mg "PLAIN" = some (.ref a_PLAIN)
  t_PLAIN : tupIs K a_PLAIN [.str "back", .str "mirror"] = true
  a_SIGNED : Addr
  g_SIGNED : mg "SIGNED" = some (.ref a_SIGNED)
  t_SIGNED : tupIs K a_SIGNED [.str "shift", .str "rise", .str "fall"] = true
  C_Script : Addr
  g_Script : mg "Script" = some (.ref C_Script)
  K_Script : Cls K C_Script
  M_Script : Mk K C_Script f_Script___init__
  C_Walk : Addr
  g_Walk : mg "Walk" = some (.ref C_Walk)
  K_Walk : Cls K C_Walk
  M_Walk : Mk K C_Walk f_Walk___init__
  n_Script_rows : NoAttr K C_Script "rows"
  n_Walk_noted : NoAttr K C_Walk "noted"
  n_Walk_size : NoAttr K C_Walk "size"
  n_Walk_texts : NoAttr K C_Walk "texts"
  I_Script : C8.InsC K C_Script
  q_Script : PySem.W.findIn K (.ref C_Script) "__eq__" = some (some (.ref f_Script___eq__)) ∧ PySem.W.isFn K (.ref f_Script___eq__) = true
  p_Script_steps : Addr
  P_Script_steps : PropOf K C_Script "steps" p_Script_steps f_Script_steps
  C_BadChoice : Addr
  g_BadChoice : mg "BadChoice" = some (.ref C_BadChoice)
  C_BadLength : Addr
  g_BadLength : mg "BadLength" = some (.ref C_BadLength)
  C_BadLine : Addr
  g_BadLine : mg "BadLine" = some (.ref C_BadLine)
  C_BadPlace : Addr
  g_BadPlace : mg "BadPlace" = some (.ref C_BadPlace)
  C_BadSeen : Addr
  g_BadSeen : mg "BadSeen" = some (.ref C_BadSeen)
  C_BadSize : Addr
  g_BadSize : mg "BadSize" = some (.ref C_BadSize)
  C_BadSteps : Addr
  g_BadSteps : mg "BadSteps" = some (.ref C_BadSteps)
  C_BadText : Addr
  g_BadText : mg "BadText" = some (.ref C_BadText)
  f_BadChoice___init__ : Addr
  d_BadChoice___init__ : FuncData
  S_BadChoice : SupF P K mg "BadChoice.__init__" s_BadChoice___init__ C_BadChoice f_BadChoice___init__ d_BadChoice___init__
  b_BadChoice___init__ : Binds K d_BadChoice___init__ ["self", "index"] []
  X_BadChoice : XfC K C_BadChoice
  v_BadChoice_index : PySem.W.findIn K (.ref C_BadChoice) "index" = some none
  f_BadLine___init__ : Addr
  d_BadLine___init__ : FuncData
  S_BadLine : SupF P K mg "BadLine.__init__" s_BadLine___init__ C_BadLine f_BadLine___init__ d_BadLine___init__
  b_BadLine___init__ : Binds K d_BadLine___init__ ["self", "line", "word"] []
  X_BadLine : XfC K C_BadLine
  v_BadLine_line : PySem.W.findIn K (.ref C_BadLine) "line" = some none
  v_BadLine_word : PySem.W.findIn K (.ref C_BadLine) "word" = some none
  f_BadSeen___init__ : Addr
  d_BadSeen___init__ : FuncData
  S_BadSeen : SupF P K mg "BadSeen.__init__" s_BadSeen___init__ C_BadSeen f_BadSeen___init__ d_BadSeen___init__
  b_BadSeen___init__ : Binds K d_BadSeen___init__ ["self", "index"] []
  X_BadSeen : XfC K C_BadSeen
  v_BadSeen_index : PySem.W.findIn K (.ref C_BadSeen) "index" = some none
  f_BadSteps___init__ : Addr
  d_BadSteps___init__ : FuncData
  S_BadSteps : SupF P K mg "BadSteps.__init__" s_BadSteps___init__ C_BadSteps f_BadSteps___init__ d_BadSteps___init__
  b_BadSteps___init__ : Binds K d_BadSteps___init__ ["self", "index"] []
  X_BadSteps : XfC K C_BadSteps
  v_BadSteps_index : PySem.W.findIn K (.ref C_BadSteps) "index" = some none
  L_NUMBERS : keyL K a_NUMBERS ["ahead", "behind", "fall", "rise", "shift", "times"] = true
  w_do : Meth K C_Walk "do" f_Walk_do
  w_log : Meth K C_Walk "log" f_Walk_log
  w_text : Meth K C_Walk "text" f_Walk_text
  w_undo : Meth K C_Walk "undo" f_Walk_undo
  l_Walk : PySem.W.findIn K (.ref C_Walk) "__len__" = some (some (.ref f_Walk___len__)) ∧ PySem.W.isFn K (.ref f_Walk___len__) = true
  x_BadLength : PySem.W.excIn K C_BadLength [.type "ValueError", .type "Exception", .type "BaseException", .type "object"] "ValueError.__new__" = true ∧ PySem.W.keepIn K (.ref C_BadLength) = true ∧ PySem.W.subIn K (.ref C_BadLength) (.type "BaseException") = some true ∧ PySem.W.typeIn K (.ref C_BadLength) = some (.type "type")
  x_BadPlace : PySem.W.excIn K C_BadPlace [.type "ValueError", .type "Exception", .type "BaseException", .type "object"] "ValueError.__new__" = true ∧ PySem.W.keepIn K (.ref C_BadPlace) = true ∧ PySem.W.subIn K (.ref C_BadPlace) (.type "BaseException") = some true ∧ PySem.W.typeIn K (.ref C_BadPlace) = some (.type "type")
  x_BadSize : PySem.W.excIn K C_BadSize [.type "ValueError", .type "Exception", .type "BaseException", .type "object"] "ValueError.__new__" = true ∧ PySem.W.keepIn K (.ref C_BadSize) = true ∧ PySem.W.subIn K (.ref C_BadSize) (.type "BaseException") = some true ∧ PySem.W.typeIn K (.ref C_BadSize) = some (.type "type")
  x_BadText : PySem.W.excIn K C_BadText [.type "ValueError", .type "Exception", .type "BaseException", .type "object"] "ValueError.__new__" = true ∧ PySem.W.keepIn K (.ref C_BadText) = true ∧ PySem.W.subIn K (.ref C_BadText) (.type "BaseException") = some true ∧ PySem.W.typeIn K (.ref C_BadText) = some (.type "type")
theorem excF : ExcBaseFacts "ValueError" "ValueError.__new__" "ValueError.__init__" [.type "ValueError", .type "Exception", .type "BaseException", .type "object"] := F.excBase_ValueError
section
variable {P : Program} {w : World} {K : PySem.W.Frag} {mg : Str → Option Value} {base : Heap}
theorem sx_BadChoice : NdefX.NScope ["self", "index", "__class__"] ["self", "index"] ["__class__"] (defScope s_BadChoice___init__) := NdefX.nscope_by (by decide +kernel)
theorem okx_BadChoice (T : Tx P K mg w) : FnOk P w K mg base (L2N.CX P w) 1 T.f_BadChoice___init__ T.d_BadChoice___init__ ["self", "index"] (spX T.C_BadChoice ["index"]) := T.S_BadChoice.ok1 rfl sx_BadChoice (by decide +kernel) rfl rfl (fun _ => ⟨_, rfl⟩) T.v_BadChoice_index (by decide) (by decide)
theorem sx_BadLine : NdefX.NScope ["self", "line", "word", "__class__"] ["self", "line", "word"] ["__class__"] (defScope s_BadLine___init__) := NdefX.nscope_by (by decide +kernel)
theorem okx_BadLine (T : Tx P K mg w) : FnOk P w K mg base (L2N.CX P w) 1 T.f_BadLine___init__ T.d_BadLine___init__ ["self", "line", "word"] (spX T.C_BadLine ["line", "word"]) := T.S_BadLine.ok2 rfl sx_BadLine (by decide +kernel) rfl rfl (fun _ => ⟨_, rfl⟩) T.v_BadLine_line T.v_BadLine_word (by decide) (by decide) (by decide) (by decide)
theorem sx_BadSeen : NdefX.NScope ["self", "index", "__class__"] ["self", "index"] ["__class__"] (defScope s_BadSeen___init__) := NdefX.nscope_by (by decide +kernel)
theorem okx_BadSeen (T : Tx P K mg w) : FnOk P w K mg base (L2N.CX P w) 1 T.f_BadSeen___init__ T.d_BadSeen___init__ ["self", "index"] (spX T.C_BadSeen ["index"]) := T.S_BadSeen.ok1 rfl sx_BadSeen (by decide +kernel) rfl rfl (fun _ => ⟨_, rfl⟩) T.v_BadSeen_index (by decide) (by decide)
theorem sx_BadSteps : NdefX.NScope ["self", "index", "__class__"] ["self", "index"] ["__class__"] (defScope s_BadSteps___init__) := NdefX.nscope_by (by decide +kernel)
theorem okx_BadSteps (T : Tx P K mg w) : FnOk P w K mg base (L2N.CX P w) 1 T.f_BadSteps___init__ T.d_BadSteps___init__ ["self", "index"] (spX T.C_BadSteps ["index"]) := T.S_BadSteps.ok1 rfl sx_BadSteps (by decide +kernel) rfl rfl (fun _ => ⟨_, rfl⟩) T.v_BadSteps_index (by decide) (by decide)
theorem sc_is_step : FnScope ["value"] ["value"] (defScope s_is_step) := ⟨rfl, rfl, rfl, by decide +kernel, rfl, by decide +kernel, by decide +kernel⟩
theorem ok_is_step (T : Tx P K mg w) : FnOk P w K mg base (L2N.CX P w) 1 T.f_is_step T.d_is_step ["value"] (spP K mg 1 F_is_step) := by
    refine (fn_P (N := ["value"]) (k := 0) (m := M_is_step) T.F_is_step sc_is_step fun cdv A outer s H E hr => ?_)
    have hN : (["value"] : List Str).Nodup := sc_is_step.nd
    have hu := hr.units
    have tk := L2N.takes_of (X := cxOf (L2N.CX P w) P w K mg base ["value"] "is_step" (defScope s_is_step) T.f_is_step cdv A outer s H E) (E := E) rfl rfl rfl rfl
    have hp := passes_of (X := cxOf (L2N.CX P w) P w K mg base ["value"] "is_step" (defScope s_is_step) T.f_is_step cdv A outer s H E) rfl
    exact (ss_cons (ss_if (sb_w (sw_or (sb_not (sb_val (sd_isi "tuple" (sd_var 0) T.z_isinstance T.z_tuple bt_tuple))) (sw_or (sb_cmp r2_eq (op_eqD hu) (by rfl) (sd_var 0) (sd_tup sl_nil)) (sw_or1 (sb_not (sb_val (sd_isi "str" (sd_ix r2_ix ix_seq (sd_var 0) sd_int) T.z_isinstance T.z_str bt_str))))))) (ss_one (ss_ret (so_val sd_bl))) ss_nil)
    (ss_cons (ss_if (sb_cmp r2_in op_in_seq (by rfl) (sd_ix r2_ix ix_seq (sd_var 0) sd_int) (sd_globT T.g_PLAIN T.t_PLAIN)) (ss_one (ss_ret (so_val (sd_cmp r2_eq (op_eqD hu) (by rfl) (sd_callB rc_len call_lens (by rfl) T.z_len bt_len (sl_cons (sd_var 0) sl_nil)) sd_int)))) ss_nil)
    (ss_cons (ss_if (sb_w (sw_or (sb_knotin T.T_NUMBERS (sd_ix r2_ix ix_seq (sd_var 0) sd_int) T.g_NUMBERS) (sw_or (sb_cmp r2_ne (op_neD hu) (by rfl) (sd_callB rc_len call_lens (by rfl) T.z_len bt_len (sl_cons (sd_var 0) sl_nil)) sd_int) (sw_or (sb_not (sb_val (sd_isi "int" (sd_ix r2_ix ix_seq (sd_var 0) sd_int) T.z_isinstance T.z_int bt_int))) (sw_or1 (sb_val (sd_isi "bool" (sd_ix r2_ix ix_seq (sd_var 0) sd_int) T.z_isinstance T.z_bool bt_bool))))))) (ss_one (ss_ret (so_val sd_bl))) ss_nil)
    (ss_one (ss_ret (so_val (sd_cmp r2_in op_in_seq (by rfl) (sd_ix r2_ix ix_seq (sd_var 0) sd_int) (sd_kix T.T_NUMBERS (sd_ix r2_ix ix_seq (sd_var 0) sd_int) T.g_NUMBERS))))))))
theorem sc_all_steps_z15 : FnScope ["word", "many"] [] (defScope s_all_steps_z15) := ⟨rfl, rfl, rfl, by decide +kernel, rfl, by decide +kernel, by decide +kernel⟩
theorem ok_all_steps_z15 (T : Tx P K mg w) : FnOk P w K mg base (L2N.CX P w) 1 T.f_all_steps_z15 T.d_all_steps_z15 [] (spP K mg 0 F_all_steps_z15) := by
    refine (fn_P (N := ["word", "many"]) (k := 0) (m := M_all_steps_z15) T.F_all_steps_z15 sc_all_steps_z15 fun cdv A outer s H E hr => ?_)
    have hN : (["word", "many"] : List Str).Nodup := sc_all_steps_z15.nd
    have hu := hr.units
    have tk := L2N.takes_of (X := cxOf (L2N.CX P w) P w K mg base ["word", "many"] "all_steps" (defScope s_all_steps_z15) T.f_all_steps_z15 cdv A outer s H E) (E := E) rfl rfl rfl rfl
    have hp := passes_of (X := cxOf (L2N.CX P w) P w K mg base ["word", "many"] "all_steps" (defScope s_all_steps_z15) T.f_all_steps_z15 cdv A outer s H E) rfl
    exact (ss_one (ss_ret (so_callB rl_sortW cr_sortW (by rfl) T.z_sorted bt_sorted (sl_cons (sd_frz (so_bin rl2_cat op_cat (sd_frz (so_lc [("word", 0)] rfl hN (si_seq (sd_globT T.g_PLAIN T.t_PLAIN)) (blkOk_by (by rfl)) (fun _ _ _ _ _ => (sg_name 0 hN)) (fun _ _ _ _ _ => sts_nil) (fun _ _ _ _ _ => (sd_tup (sl_cons (sd_var 0) sl_nil))))) (sd_frz (so_lc2 (vs1 := [1]) [("word", 0), ("many", 1)] rfl hN (si_keyK T.T_NUMBERS T.L_NUMBERS T.g_NUMBERS) (blkOk_by (by rfl)) (fun _ _ _ _ _ => (sg_name 0 hN)) (fun _ _ _ _ _ => sts_nil) (fun _ _ _ _ _ => (si_seq (sd_kix T.T_NUMBERS (sd_var 0) T.g_NUMBERS))) (fun _ _ _ _ _ => (sg_name 1 hN)) (fun _ _ _ _ _ => sts_nil) (fun _ _ _ _ _ => (sd_tup (sl_cons (sd_var 0) (sl_cons (sd_var 1) sl_nil)))))))) sl_nil))))
theorem sc_Script___eq__ : FnScope ["self", "other"] ["self", "other"] (defScope s_Script___eq__) := ⟨rfl, rfl, rfl, by decide +kernel, rfl, by decide +kernel, by decide +kernel⟩
theorem ok_Script___eq__ (T : Tx P K mg w) : FnOk P w K mg base (L2N.CX P w) 1 T.f_Script___eq__ T.d_Script___eq__ ["self", "other"] (spP K mg 2 F_Script___eq__) := by
    refine (fn_P (N := ["self", "other"]) (k := 0) (m := M_Script___eq__) T.F_Script___eq__ sc_Script___eq__ fun cdv A outer s H E hr => ?_)
    have hN : (["self", "other"] : List Str).Nodup := sc_Script___eq__.nd
    have hu := hr.units
    have tk := L2N.takes_of (X := cxOf (L2N.CX P w) P w K mg base ["self", "other"] "Script.__eq__" (defScope s_Script___eq__) T.f_Script___eq__ cdv A outer s H E) (E := E) rfl rfl rfl rfl
    have hp := passes_of (X := cxOf (L2N.CX P w) P w K mg base ["self", "other"] "Script.__eq__" (defScope s_Script___eq__) T.f_Script___eq__ cdv A outer s H E) rfl
    exact (ss_one (ss_ret (so_val (sd_and (sd_isiC (sd_var 1) T.z_isinstance T.g_Script T.I_Script) (sd_one (sd_cmp r2_eq (op_eqD hu) (by rfl) (sd_fld (sd_var 0) T.g_Script T.K_Script T.n_Script_rows) (sd_fld (sd_var 1) T.g_Script T.K_Script T.n_Script_rows)))))))
theorem sc_Script_steps : FnScope ["self"] ["self"] (defScope s_Script_steps) := ⟨rfl, rfl, rfl, by decide +kernel, rfl, by decide +kernel, by decide +kernel⟩
theorem ok_Script_steps (T : Tx P K mg w) : FnOk P w K mg base (L2N.CX P w) 1 T.f_Script_steps T.d_Script_steps ["self"] (spP K mg 1 F_Script_steps) := by
    refine (fn_P (N := ["self"]) (k := 0) (m := M_Script_steps) T.F_Script_steps sc_Script_steps fun cdv A outer s H E hr => ?_)
    have hN : (["self"] : List Str).Nodup := sc_Script_steps.nd
    have hu := hr.units
    have tk := L2N.takes_of (X := cxOf (L2N.CX P w) P w K mg base ["self"] "Script.steps" (defScope s_Script_steps) T.f_Script_steps cdv A outer s H E) (E := E) rfl rfl rfl rfl
    have hp := passes_of (X := cxOf (L2N.CX P w) P w K mg base ["self"] "Script.steps" (defScope s_Script_steps) T.f_Script_steps cdv A outer s H E) rfl
    exact (ss_one (ss_ret (so_val (sd_fld (sd_var 0) T.g_Script T.K_Script T.n_Script_rows))))
theorem sc_is_from : FnScope ["value", "least", "most"] ["value", "least", "most"] (defScope s_is_from) := ⟨rfl, rfl, rfl, by decide +kernel, rfl, by decide +kernel, by decide +kernel⟩
theorem ok_is_from (T : Tx P K mg w) : FnOk P w K mg base (L2N.CX P w) 1 T.f_is_from T.d_is_from ["value", "least", "most"] (spP K mg 3 F_is_from) := by
    refine (fn_P (N := ["value", "least", "most"]) (k := 0) (m := M_is_from) T.F_is_from sc_is_from fun cdv A outer s H E hr => ?_)
    have hN : (["value", "least", "most"] : List Str).Nodup := sc_is_from.nd
    have hu := hr.units
    have tk := L2N.takes_of (X := cxOf (L2N.CX P w) P w K mg base ["value", "least", "most"] "is_from" (defScope s_is_from) T.f_is_from cdv A outer s H E) (E := E) rfl rfl rfl rfl
    have hp := passes_of (X := cxOf (L2N.CX P w) P w K mg base ["value", "least", "most"] "is_from" (defScope s_is_from) T.f_is_from cdv A outer s H E) rfl
    exact (ss_one (ss_ret (so_val (sd_and (sd_isi "int" (sd_var 0) T.z_isinstance T.z_int bt_int) (sd_and (sd_not (sd_isi "bool" (sd_var 0) T.z_isinstance T.z_bool bt_bool)) (sd_one (sd_chain r2_cmp r2_cmp op_le op_le (sd_var 1) (sd_var 0) (sd_var 2))))))))
theorem sc_done : FnScope ["step", "n", "text", "word", "last", "one", "many", "place", "beside", "other"] ["step", "n", "text"] (defScope s_done) := ⟨rfl, rfl, rfl, by decide +kernel, rfl, by decide +kernel, by decide +kernel⟩
theorem ok_done (T : Tx P K mg w) : FnOk P w K mg base (L2N.CX P w) 1 T.f_done T.d_done ["step", "n", "text"] (spP K mg 3 F_done) := by
    refine (fn_P (N := ["step", "n", "text", "word", "last", "one", "many", "place", "beside", "other"]) (k := 0) (m := M_done) T.F_done sc_done fun cdv A outer s H E hr => ?_)
    have hN : (["step", "n", "text", "word", "last", "one", "many", "place", "beside", "other"] : List Str).Nodup := sc_done.nd
    have hu := hr.units
    have tk := L2N.takes_of (X := cxOf (L2N.CX P w) P w K mg base ["step", "n", "text", "word", "last", "one", "many", "place", "beside", "other"] "done" (defScope s_done) T.f_done cdv A outer s H E) (E := E) rfl rfl rfl rfl
    have hp := passes_of (X := cxOf (L2N.CX P w) P w K mg base ["step", "n", "text", "word", "last", "one", "many", "place", "beside", "other"] "done" (defScope s_done) T.f_done cdv A outer s H E) rfl
    exact (ss_cons (ss_asg (sd_tup (sl_cons (sd_ix r2_ix ix_seq (sd_var 0) sd_int) (sl_cons (sd_bin r2_sub op_sub (sd_callB rc_len call_lens (by rfl) T.z_len bt_len (sl_cons (sd_var 2) sl_nil)) sd_int) sl_nil))) (sg_tup rfl (sgs_cons (sg_name 3 hN) (sgs_cons (sg_name 4 hN) sgs_nil))))
    (ss_cons (ss_if (sb_cmp r2_eq (op_eqD hu) (by rfl) (sd_var 3) sd_str) (ss_one (ss_ret (so_val (sd_rev (sd_var 2))))) ss_nil)
    (ss_cons (ss_if (sb_cmp r2_eq (op_eqD hu) (by rfl) (sd_var 3) sd_str) (ss_one (ss_ret (so_val (sd_callT rc_tuple call_tuple_of (by rfl) T.z_tuple bt_tuple (sl_cons (sd_frz (so_lc [("one", 5)] rfl hN (si_seq (sd_var 2)) (blkOk_by (by rfl)) (fun _ _ _ _ _ => (sg_name 5 hN)) (fun _ _ _ _ _ => sts_nil) (fun _ _ _ _ _ => (sd_bin r2_sub op_sub (sd_bin r2_sub op_sub (sd_var 1) sd_int) (sd_var 5))))) sl_nil))))) ss_nil)
    (ss_cons (ss_set 6 hN (so_val (sd_ix r2_ix ix_seq (sd_var 0) sd_int)))
    (ss_cons (ss_if (sb_cmp r2_eq (op_eqD hu) (by rfl) (sd_var 3) sd_str) (ss_one (ss_ret (so_val (sd_callT rc_tuple call_tuple_of (by rfl) T.z_tuple bt_tuple (sl_cons (sd_frz (so_lc [("one", 5)] rfl hN (si_seq (sd_var 2)) (blkOk_by (by rfl)) (fun _ _ _ _ _ => (sg_name 5 hN)) (fun _ _ _ _ _ => sts_nil) (fun _ _ _ _ _ => (sd_bin r2_mod op_mod (sd_bin r2_mul op_muls (sd_var 5) (sd_var 6)) (sd_var 1))))) sl_nil))))) ss_nil)
    (ss_cons (ss_if (sb_cmp r2_eq (op_eqD hu) (by rfl) (sd_var 3) sd_str) (ss_one (ss_ret (so_val (sd_callT rc_tuple call_tuple_of (by rfl) T.z_tuple bt_tuple (sl_cons (sd_frz (so_lc [("one", 5)] rfl hN (si_seq (sd_var 2)) (blkOk_by (by rfl)) (fun _ _ _ _ _ => (sg_name 5 hN)) (fun _ _ _ _ _ => sts_nil) (fun _ _ _ _ _ => (sd_bin r2_mod op_mod (sd_bin r2_add op_adds (sd_var 5) (sd_var 6)) (sd_var 1))))) sl_nil))))) ss_nil)
    (ss_cons (ss_if (sb_cmp r2_eq (op_eqD hu) (by rfl) (sd_var 3) sd_str) (ss_one (ss_ret (so_val (sd_callT rc_tuple call_tuple_of (by rfl) T.z_tuple bt_tuple (sl_cons (sd_frz (so_lc [("place", 7), ("one", 5)] rfl hN (si_enum (by rfl) T.z_enumerate (sl_cons (sd_var 2) sl_nil)) (blkOk_by (by rfl)) (fun _ _ _ _ _ => (sg_tup rfl (sgs_cons (sg_name 7 hN) (sgs_cons (sg_name 5 hN) sgs_nil)))) (fun _ _ _ _ _ => sts_nil) (fun _ _ _ _ _ => (sd_bin r2_mod op_mod (sd_bin r2_add op_adds (sd_var 5) (sd_bin r2_mul op_muls (sd_var 6) (sd_var 7))) (sd_var 1))))) sl_nil))))) ss_nil)
    (ss_cons (ss_if (sb_cmp r2_eq (op_eqD hu) (by rfl) (sd_var 3) sd_str) (ss_one (ss_ret (so_val (sd_callT rc_tuple call_tuple_of (by rfl) T.z_tuple bt_tuple (sl_cons (sd_frz (so_lc [("place", 7), ("one", 5)] rfl hN (si_enum (by rfl) T.z_enumerate (sl_cons (sd_var 2) sl_nil)) (blkOk_by (by rfl)) (fun _ _ _ _ _ => (sg_tup rfl (sgs_cons (sg_name 7 hN) (sgs_cons (sg_name 5 hN) sgs_nil)))) (fun _ _ _ _ _ => sts_nil) (fun _ _ _ _ _ => (sd_bin r2_mod op_mod (sd_bin r2_add op_adds (sd_var 5) (sd_bin r2_mul op_muls (sd_var 6) (sd_bin r2_sub op_sub (sd_var 4) (sd_var 7)))) (sd_var 1))))) sl_nil))))) ss_nil)
    (ss_cons (ss_set 8 hN (so_val (sd_if (sb_cmp r2_eq (op_eqD hu) (by rfl) (sd_var 3) sd_str) (sd_tup (sl_cons sd_int (sl_star (sd_slice (sd_var 2) sp_none (sp_some (sd_un r1_neg un_neg sd_int))) sl_nil))) (sd_tup (sl_star (sd_slice (sd_var 2) (sp_some sd_int) sp_none) (sl_cons sd_int sl_nil))))))
    (ss_one (ss_ret (so_val (sd_callT rc_tuple call_tuple_of (by rfl) T.z_tuple bt_tuple (sl_cons (sd_frz (so_lc [("one", 5), ("other", 9)] rfl hN (si_zip (by rfl) T.z_zip (sl_cons (sd_var 2) (sl_cons (sd_var 8) sl_nil))) (blkOk_by (by rfl)) (fun _ _ _ _ _ => (sg_tup rfl (sgs_cons (sg_name 5 hN) (sgs_cons (sg_name 9 hN) sgs_nil)))) (fun _ _ _ _ _ => sts_nil) (fun _ _ _ _ _ => (sd_bin r2_mod op_mod (sd_bin r2_add op_adds (sd_var 5) (sd_bin r2_mul op_muls (sd_var 6) (sd_var 9))) (sd_var 1))))) sl_nil))))))))))))))
theorem sc_with_more : FnScope ["one", "other", "many", "terms", "place", "often"] ["one", "other", "many"] (defScope s_with_more) := ⟨rfl, rfl, rfl, by decide +kernel, rfl, by decide +kernel, by decide +kernel⟩
theorem ok_with_more (T : Tx P K mg w) : FnOk P w K mg base (L2N.CX P w) 1 T.f_with_more T.d_with_more ["one", "other", "many"] (spP K mg 3 F_with_more) := by
    refine (fn_P (N := ["one", "other", "many", "terms", "place", "often"]) (k := 0) (m := M_with_more) T.F_with_more sc_with_more fun cdv A outer s H E hr => ?_)
    have hN : (["one", "other", "many", "terms", "place", "often"] : List Str).Nodup := sc_with_more.nd
    have hu := hr.units
    have tk := L2N.takes_of (X := cxOf (L2N.CX P w) P w K mg base ["one", "other", "many", "terms", "place", "often"] "with_more" (defScope s_with_more) T.f_with_more cdv A outer s H E) (E := E) rfl rfl rfl rfl
    have hp := passes_of (X := cxOf (L2N.CX P w) P w K mg base ["one", "other", "many", "terms", "place", "often"] "with_more" (defScope s_with_more) T.f_with_more cdv A outer s H E) rfl
    exact (ss_cons (ss_set 3 hN (so_copyK (by rfl) T.z_dict bt_dict (sd_ix r2_ix ix_seq (sd_var 0) sd_int)))
    (ss_cons (ss_for hp rfl (si_kill (si_items (sd_ix r2_ix ix_seq (sd_var 1) sd_int))) (sg_tup rfl (sgs_cons (sg_name 4 hN) (sgs_cons (sg_name 5 hN) sgs_nil))) (sss_kill (ss_one (ss_setK 3 (hu_of hr) (sd_bin r2_add op_adds (sd_getK 3 (hu_of hr) (sd_var 4) sd_int) (sd_bin r2_mul op_muls (sd_var 2) (sd_var 5))) (sd_var 4)))))
    (ss_one (ss_ret (so_val (sd_tup (sl_cons (sd_bin r2_add op_adds (sd_ix r2_ix ix_seq (sd_var 0) sd_int) (sd_bin r2_mul op_muls (sd_var 2) (sd_ix r2_ix ix_seq (sd_var 1) sd_int))) (sl_cons (sd_var 3) sl_nil))))))))
theorem sc_divisor : FnScope ["one", "other"] ["one", "other"] (defScope s_divisor) := ⟨rfl, rfl, rfl, by decide +kernel, rfl, by decide +kernel, by decide +kernel⟩
theorem ok_divisor (T : Tx P K mg w) : FnOk P w K mg base (L2N.CX P w) 1 T.f_divisor T.d_divisor ["one", "other"] (spP K mg 2 F_divisor) := by
    refine (fn_P (N := ["one", "other"]) (k := 0) (m := M_divisor) T.F_divisor sc_divisor fun cdv A outer s H E hr => ?_)
    have hN : (["one", "other"] : List Str).Nodup := sc_divisor.nd
    have hu := hr.units
    have tk := L2N.takes_of (X := cxOf (L2N.CX P w) P w K mg base ["one", "other"] "divisor" (defScope s_divisor) T.f_divisor cdv A outer s H E) (E := E) rfl rfl rfl rfl
    have hp := passes_of (X := cxOf (L2N.CX P w) P w K mg base ["one", "other"] "divisor" (defScope s_divisor) T.f_divisor cdv A outer s H E) rfl
    exact (ss_cons (ss_par 0 1 rfl hN (sl_cons (sd_callB rc_abs call_abs (by rfl) T.z_abs bt_abs (sl_cons (sd_var 0) sl_nil)) (sl_cons (sd_callB rc_abs call_abs (by rfl) T.z_abs bt_abs (sl_cons (sd_var 1) sl_nil)) sl_nil)))
    (ss_cons (ss_while (fuel := (fun _ => 1000000000000000000000000000000)) hp (sb_cmp r2_ne (op_neD hu) (by rfl) (sd_var 1) sd_int) (ss_one (ss_par 0 1 rfl hN (sl_cons (sd_var 1) (sl_cons (sd_bin r2_mod op_mod (sd_var 0) (sd_var 1)) sl_nil)))))
    (ss_one (ss_ret (so_val (sd_var 0))))))
theorem sc_wide : FnScope ["steps", "step"] ["steps"] (defScope s_wide) := ⟨rfl, rfl, rfl, by decide +kernel, rfl, by decide +kernel, by decide +kernel⟩
theorem ok_wide (T : Tx P K mg w) : FnOk P w K mg base (L2N.CX P w) 1 T.f_wide T.d_wide ["steps"] (spP K mg 1 F_wide) := by
    refine (fn_P (N := ["steps", "step"]) (k := 0) (m := M_wide) T.F_wide sc_wide fun cdv A outer s H E hr => ?_)
    have hN : (["steps", "step"] : List Str).Nodup := sc_wide.nd
    have hu := hr.units
    have tk := L2N.takes_of (X := cxOf (L2N.CX P w) P w K mg base ["steps", "step"] "wide" (defScope s_wide) T.f_wide cdv A outer s H E) (E := E) rfl rfl rfl rfl
    have hp := passes_of (X := cxOf (L2N.CX P w) P w K mg base ["steps", "step"] "wide" (defScope s_wide) T.f_wide cdv A outer s H E) rfl
    exact (ss_one (ss_ret (so_val (sd_callB rc_len call_lens (by rfl) T.z_len bt_len (sl_cons (sd_frz (so_lc [("step", 1)] rfl hN (si_seq (sd_var 0)) (blkOk_by (by rfl)) (fun _ _ _ _ _ => (sg_name 1 hN)) (fun _ _ _ _ _ => (sts_one (sb_cmp r2_in op_in_seq (by rfl) (sd_ix r2_ix ix_seq (sd_var 1) sd_int) (sd_globT T.g_BESIDE T.t_BESIDE)))) (fun _ _ _ _ _ => (sd_var 1)))) sl_nil)))))
theorem sc_text_for : FnScope ["sums", "n", "length", "number", "terms", "places", "place", "last"] ["sums", "n"] (defScope s_text_for) := ⟨rfl, rfl, rfl, by decide +kernel, rfl, by decide +kernel, by decide +kernel⟩
theorem ok_text_for (T : Tx P K mg w) : FnOk P w K mg base (L2N.CX P w) 1 T.f_text_for T.d_text_for ["sums", "n"] (spP K mg 2 F_text_for) := by
    refine (fn_P (N := ["sums", "n", "length", "number", "terms", "places", "place", "last"]) (k := 0) (m := M_text_for) T.F_text_for sc_text_for fun cdv A outer s H E hr => ?_)
    have hN : (["sums", "n", "length", "number", "terms", "places", "place", "last"] : List Str).Nodup := sc_text_for.nd
    have hu := hr.units
    have tk := L2N.takes_of (X := cxOf (L2N.CX P w) P w K mg base ["sums", "n", "length", "number", "terms", "places", "place", "last"] "text_for" (defScope s_text_for) T.f_text_for cdv A outer s H E) (E := E) rfl rfl rfl rfl
    have hp := passes_of (X := cxOf (L2N.CX P w) P w K mg base ["sums", "n", "length", "number", "terms", "places", "place", "last"] "text_for" (defScope s_text_for) T.f_text_for cdv A outer s H E) rfl
    exact (ss_cons (ss_set 2 hN (so_val (sd_callB rc_len call_lens (by rfl) T.z_len bt_len (sl_cons (sd_var 0) sl_nil))))
    (ss_cons (ss_if (sb_val (sd_callB rc_any (cr_any rfl) (by rfl) T.z_any bt_any (sl_cons (sd_frz (so_lc [("number", 3), ("terms", 4)] rfl hN (si_seq (sd_var 0)) (blkOk_by (by rfl)) (fun _ _ _ _ _ => (sg_tup rfl (sgs_cons (sg_name 3 hN) (sgs_cons (sg_name 4 hN) sgs_nil)))) (fun _ _ _ _ _ => sts_nil) (fun _ _ _ _ _ => (sd_cmp r2_ne (op_neD hu) (by rfl) (sd_bin r2_mod op_mod (sd_var 3) (sd_var 1)) sd_int)))) sl_nil))) (ss_one (ss_ret (so_val (sd_bin r2_mul op_muls (sd_tup (sl_cons sd_int sl_nil)) (sd_var 2))))) ss_nil)
    (ss_cons (ss_setLc2 (vs1 := [6]) 5 [("number", 3), ("terms", 4), ("place", 6)] rfl hN (by rfl) (si_seq (sd_var 0)) (blkOk_by (by rfl)) (fun _ _ _ _ _ => (sg_tup rfl (sgs_cons (sg_name 3 hN) (sgs_cons (sg_name 4 hN) sgs_nil)))) (fun _ _ _ _ _ => sts_nil) (fun _ _ _ _ _ => (si_keys (sd_var 4))) (fun _ _ _ _ _ => (sg_name 6 hN)) (fun _ _ _ _ _ => (sts_one (sb_cmp r2_ne (op_neD hu) (by rfl) (sd_bin r2_mod op_mod (sd_dix (hu_of hr) (sd_var 4) (sd_var 6)) (sd_var 1)) sd_int))) (fun _ _ _ _ _ => (sd_var 6)))
    (ss_cons (ss_if (sb_cmp r2_eq (op_eqD hu) (by rfl) (sd_var 5) (sd_frz (so_lst sl_nil))) (ss_one (ss_ret (so_val sd_non))) ss_nil)
    (ss_cons (ss_set 7 hN (so_val (sd_callB rc_max (call_maxs rfl) (by rfl) T.z_max bt_max (sl_cons (sd_var 5) sl_nil))))
    (ss_one (ss_ret (so_val (sd_bin r2_add op_adds (sd_bin r2_add op_adds (sd_bin r2_mul op_muls (sd_tup (sl_cons sd_int sl_nil)) (sd_var 7)) (sd_tup (sl_cons sd_int sl_nil))) (sd_bin r2_mul op_muls (sd_tup (sl_cons sd_int sl_nil)) (sd_bin r2_sub op_sub (sd_bin r2_sub op_sub (sd_var 2) sd_int) (sd_var 7))))))))))))
theorem sc_loses : FnScope ["script", "found", "step"] ["script"] (defScope s_loses) := ⟨rfl, rfl, rfl, by decide +kernel, rfl, by decide +kernel, by decide +kernel⟩
theorem ok_loses (T : Tx P K mg w) : FnOk P w K mg base (L2N.CX P w) 1 T.f_loses T.d_loses ["script"] (spP K mg 1 F_loses) := by
    refine (fn_P (N := ["script", "found", "step"]) (k := 0) (m := M_loses) T.F_loses sc_loses fun cdv A outer s H E hr => ?_)
    have hN : (["script", "found", "step"] : List Str).Nodup := sc_loses.nd
    have hu := hr.units
    have tk := L2N.takes_of (X := cxOf (L2N.CX P w) P w K mg base ["script", "found", "step"] "loses" (defScope s_loses) T.f_loses cdv A outer s H E) (E := E) rfl rfl rfl rfl
    have hp := passes_of (X := cxOf (L2N.CX P w) P w K mg base ["script", "found", "step"] "loses" (defScope s_loses) T.f_loses cdv A outer s H E) rfl
    exact (ss_cons (ss_setLc 1 [("step", 2)] rfl hN (by rfl) (si_seq (sd_fld (sd_var 0) T.g_Script T.K_Script T.n_Script_rows)) (blkOk_by (by rfl)) (fun _ _ _ _ _ => (sg_name 2 hN)) (fun _ _ _ _ _ => (sts_one (sb_cmp r2_eq (op_eqD hu) (by rfl) (sd_ix r2_ix ix_seq (sd_var 2) sd_int) sd_str))) (fun _ _ _ _ _ => (sd_ix r2_ix ix_seq (sd_var 2) sd_int)))
    (ss_one (ss_ret (so_val (sd_if (sb_cmp r2_ne (op_neD hu) (by rfl) (sd_var 1) (sd_frz (so_lst sl_nil))) (sd_callB rc_min (call_mins rfl) (by rfl) T.z_min bt_min (sl_cons (sd_var 1) sl_nil)) sd_non)))))
theorem sc_units : FnScope ["length", "every", "one", "place"] ["length"] (defScope s_units) := ⟨rfl, rfl, rfl, by decide +kernel, rfl, by decide +kernel, by decide +kernel⟩
theorem ok_units (T : Tx P K mg w) : FnOk P w K mg base (L2N.CX P w) 1 T.f_units T.d_units ["length"] (spP K mg 1 F_units) := by
    refine (fn_P (N := ["length", "every", "one", "place"]) (k := 0) (m := M_units) T.F_units sc_units fun cdv A outer s H E hr => ?_)
    have hN : (["length", "every", "one", "place"] : List Str).Nodup := sc_units.nd
    have hu := hr.units
    have tk := L2N.takes_of (X := cxOf (L2N.CX P w) P w K mg base ["length", "every", "one", "place"] "units" (defScope s_units) T.f_units cdv A outer s H E) (E := E) rfl rfl rfl rfl
    have hp := passes_of (X := cxOf (L2N.CX P w) P w K mg base ["length", "every", "one", "place"] "units" (defScope s_units) T.f_units cdv A outer s H E) rfl
    exact (ss_cons (ss_set 1 hN (so_val (sd_frz (so_listR rfl (by rfl) T.z_list (sr_1 (by rfl) T.z_range (sd_var 0))))))
    (ss_one (ss_ret (so_bin rl2_cat op_cat (sd_frz (so_lst (sl_cons (sd_bin r2_mul op_muls (sd_tup (sl_cons sd_int sl_nil)) (sd_var 0)) sl_nil))) (sd_frz (so_lc [("one", 2)] rfl hN (si_seq (sd_var 1)) (blkOk_by (by rfl)) (fun _ _ _ _ _ => (sg_name 2 hN)) (fun _ _ _ _ _ => sts_nil) (fun _ _ _ _ _ => (sd_callT rc_tuple call_tuple_of (by rfl) T.z_tuple bt_tuple (sl_cons (sd_frz (so_lc [("place", 3)] rfl hN (si_seq (sd_var 1)) (blkOk_by (by rfl)) (fun _ _ _ _ _ => (sg_name 3 hN)) (fun _ _ _ _ _ => sts_nil) (fun _ _ _ _ _ => (sd_callT rc_int call_int1 (by rfl) T.z_int bt_int (sl_cons (sd_cmp r2_eq (op_eqD hu) (by rfl) (sd_var 3) (sd_var 2)) sl_nil))))) sl_nil)))))))))
theorem sc_write : FnScope ["script", "step", "part"] ["script"] (defScope s_write) := ⟨rfl, rfl, rfl, by decide +kernel, rfl, by decide +kernel, by decide +kernel⟩
theorem ok_write (T : Tx P K mg w) : FnOk P w K mg base (L2N.CX P w) 1 T.f_write T.d_write ["script"] (spP K mg 1 F_write) := by
    refine (fn_P (N := ["script", "step", "part"]) (k := 0) (m := M_write) T.F_write sc_write fun cdv A outer s H E hr => ?_)
    have hN : (["script", "step", "part"] : List Str).Nodup := sc_write.nd
    have hu := hr.units
    have tk := L2N.takes_of (X := cxOf (L2N.CX P w) P w K mg base ["script", "step", "part"] "write" (defScope s_write) T.f_write cdv A outer s H E) (E := E) rfl rfl rfl rfl
    have hp := passes_of (X := cxOf (L2N.CX P w) P w K mg base ["script", "step", "part"] "write" (defScope s_write) T.f_write cdv A outer s H E) rfl
    exact (ss_one (ss_ret (so_val (sd_join sd_str (sd_frz (so_lc [("step", 1)] rfl hN (si_seq (sd_fld (sd_var 0) T.g_Script T.K_Script T.n_Script_rows)) (blkOk_by (by rfl)) (fun _ _ _ _ _ => (sg_name 1 hN)) (fun _ _ _ _ _ => sts_nil) (fun _ _ _ _ _ => (sd_bin r2_add op_adds (sd_join sd_str (sd_frz (so_lc [("part", 2)] rfl hN (si_seq (sd_var 1)) (blkOk_by (by rfl)) (fun _ _ _ _ _ => (sg_name 2 hN)) (fun _ _ _ _ _ => sts_nil) (fun _ _ _ _ _ => (sd_callT rc_str call_strU (by rfl) T.z_str bt_str (sl_cons (sd_var 2) sl_nil)))))) sd_str))))))))
theorem sc_Walk_undo : FnScope ["self"] ["self"] (defScope s_Walk_undo) := ⟨rfl, rfl, rfl, by decide +kernel, rfl, by decide +kernel, by decide +kernel⟩
theorem ok_Walk_undo (T : Tx P K mg w) : FnOk P w K mg base (L2N.CX P w) 1 T.f_Walk_undo T.d_Walk_undo ["self"] (spL K mg 1 F_Walk_undo_z15) := by
    refine (fn_L (N := ["self"]) (k := 0) (m := M_Walk_undo_z15) T.F_Walk_undo_z15 sc_Walk_undo fun cdv A outer s H E hr => ?_)
    have hN : (["self"] : List Str).Nodup := sc_Walk_undo.nd
    have hu := hr.units
    have tk := L2N.takes_of (X := cxOf (L2N.CX P w) P w K mg base ["self"] "Walk.undo" (defScope s_Walk_undo) T.f_Walk_undo cdv A outer s H E) (E := E) rfl rfl rfl rfl
    have hp := passes_of (X := cxOf (L2N.CX P w) P w K mg base ["self"] "Walk.undo" (defScope s_Walk_undo) T.f_Walk_undo cdv A outer s H E) rfl
    exact (ss_cons (ss_if (sb_weq 0 ⟨T.g_Walk, T.K_Walk, T.n_Walk_size, T.n_Walk_texts, T.n_Walk_noted⟩ hu (sd_frz (so_lst sl_nil))) (ss_one (ss_ret (so_val sd_bl))) ss_nil)
    (ss_cons (ss_expr (so_wpopN 0 ⟨T.g_Walk, T.K_Walk, T.n_Walk_size, T.n_Walk_texts, T.n_Walk_noted⟩))
    (ss_cons (ss_expr (so_wpopT 0 ⟨T.g_Walk, T.K_Walk, T.n_Walk_size, T.n_Walk_texts, T.n_Walk_noted⟩))
    (ss_one (ss_ret (so_val sd_bl))))))
theorem sc_Walk_text : FnScope ["self"] ["self"] (defScope s_Walk_text) := ⟨rfl, rfl, rfl, by decide +kernel, rfl, by decide +kernel, by decide +kernel⟩
theorem ok_Walk_text (T : Tx P K mg w) : FnOk P w K mg base (L2N.CX P w) 1 T.f_Walk_text T.d_Walk_text ["self"] (spL K mg 1 F_Walk_text_z15) := by
    refine (fn_L (N := ["self"]) (k := 0) (m := M_Walk_text_z15) T.F_Walk_text_z15 sc_Walk_text fun cdv A outer s H E hr => ?_)
    have hN : (["self"] : List Str).Nodup := sc_Walk_text.nd
    have hu := hr.units
    have tk := L2N.takes_of (X := cxOf (L2N.CX P w) P w K mg base ["self"] "Walk.text" (defScope s_Walk_text) T.f_Walk_text cdv A outer s H E) (E := E) rfl rfl rfl rfl
    have hp := passes_of (X := cxOf (L2N.CX P w) P w K mg base ["self"] "Walk.text" (defScope s_Walk_text) T.f_Walk_text cdv A outer s H E) rfl
    exact (ss_one (ss_ret (so_val (sd_wix 0 ⟨T.g_Walk, T.K_Walk, T.n_Walk_size, T.n_Walk_texts, T.n_Walk_noted⟩ (sd_un r1_neg un_neg sd_int)))))
theorem sc_Walk_log : FnScope ["self"] ["self"] (defScope s_Walk_log) := ⟨rfl, rfl, rfl, by decide +kernel, rfl, by decide +kernel, by decide +kernel⟩
theorem ok_Walk_log (T : Tx P K mg w) : FnOk P w K mg base (L2N.CX P w) 1 T.f_Walk_log T.d_Walk_log ["self"] (spL K mg 1 F_Walk_log_z15) := by
    refine (fn_L (N := ["self"]) (k := 0) (m := M_Walk_log_z15) T.F_Walk_log_z15 sc_Walk_log fun cdv A outer s H E hr => ?_)
    have hN : (["self"] : List Str).Nodup := sc_Walk_log.nd
    have hu := hr.units
    have tk := L2N.takes_of (X := cxOf (L2N.CX P w) P w K mg base ["self"] "Walk.log" (defScope s_Walk_log) T.f_Walk_log cdv A outer s H E) (E := E) rfl rfl rfl rfl
    have hp := passes_of (X := cxOf (L2N.CX P w) P w K mg base ["self"] "Walk.log" (defScope s_Walk_log) T.f_Walk_log cdv A outer s H E) rfl
    exact (ss_one (ss_ret (so_val (sd_frz (so_wlist 0 ⟨T.g_Walk, T.K_Walk, T.n_Walk_size, T.n_Walk_texts, T.n_Walk_noted⟩ (by rfl) T.z_list)))))
theorem sc_Walk___len__ : FnScope ["self"] ["self"] (defScope s_Walk___len__) := ⟨rfl, rfl, rfl, by decide +kernel, rfl, by decide +kernel, by decide +kernel⟩
theorem ok_Walk___len__ (T : Tx P K mg w) : FnOk P w K mg base (L2N.CX P w) 1 T.f_Walk___len__ T.d_Walk___len__ ["self"] (spL K mg 1 F_Walk___len___z15) := by
    refine (fn_L (N := ["self"]) (k := 0) (m := M_Walk___len___z15) T.F_Walk___len___z15 sc_Walk___len__ fun cdv A outer s H E hr => ?_)
    have hN : (["self"] : List Str).Nodup := sc_Walk___len__.nd
    have hu := hr.units
    have tk := L2N.takes_of (X := cxOf (L2N.CX P w) P w K mg base ["self"] "Walk.__len__" (defScope s_Walk___len__) T.f_Walk___len__ cdv A outer s H E) (E := E) rfl rfl rfl rfl
    have hp := passes_of (X := cxOf (L2N.CX P w) P w K mg base ["self"] "Walk.__len__" (defScope s_Walk___len__) T.f_Walk___len__ cdv A outer s H E) rfl
    exact (ss_one (ss_ret (so_val (sd_wlen 0 ⟨T.g_Walk, T.K_Walk, T.n_Walk_size, T.n_Walk_texts, T.n_Walk_noted⟩ (by rfl) T.z_len))))
theorem sc__law_random : FnScope ["_law_script", "_law_salt", "_law_seed", "_law_cell"] ["_law_script", "_law_salt"] (defScope s__law_random) := ⟨rfl, rfl, rfl, by decide +kernel, rfl, by decide +kernel, by decide +kernel⟩
theorem ok__law_random (T : Tx P K mg w) : FnOk P w K mg base (L2N.CX P w) 1 T.f__law_random T.d__law_random ["_law_script", "_law_salt"] (spP K mg 2 F__law_random) := by
    refine (fn_P (N := ["_law_script", "_law_salt", "_law_seed", "_law_cell"]) (k := 0) (m := M__law_random) T.F__law_random sc__law_random fun cdv A outer s H E hr => ?_)
    have hN : (["_law_script", "_law_salt", "_law_seed", "_law_cell"] : List Str).Nodup := sc__law_random.nd
    have hu := hr.units
    have tk := L2N.takes_of (X := cxOf (L2N.CX P w) P w K mg base ["_law_script", "_law_salt", "_law_seed", "_law_cell"] "_law_random" (defScope s__law_random) T.f__law_random cdv A outer s H E) (E := E) rfl rfl rfl rfl
    have hp := passes_of (X := cxOf (L2N.CX P w) P w K mg base ["_law_script", "_law_salt", "_law_seed", "_law_cell"] "_law_random" (defScope s__law_random) T.f__law_random cdv A outer s H E) rfl
    exact (ss_cons (ss_set 2 hN (so_val (sd_var 1)))
    (ss_cons (ss_for hp rfl (si_kill (si_seq (sd_var 0))) (sg_name 3 hN) (sss_kill (ss_one (ss_set 2 hN (so_val (sd_bin r2_mod op_mod (sd_callT rc_int call_int1 (by rfl) T.z_int bt_int (sl_cons (sd_bin r2_add op_adds (sd_bin r2_mul op_muls (sd_var 2) sd_int) (sd_callB rc_abs call_abs (by rfl) T.z_abs bt_abs (sl_cons (sd_var 3) sl_nil))) sl_nil)) sd_int))))))
    (ss_one (ss_ret (so_bin rl2_cat op_cat (sd_frz (so_lst (sl_cons (sd_var 2) (sl_cons sd_int sl_nil)))) (sd_frz (so_lc [("_law_cell", 3)] rfl hN (si_seq (sd_var 0)) (blkOk_by (by rfl)) (fun _ _ _ _ _ => (sg_name 3 hN)) (fun _ _ _ _ _ => (sts_one (sb_cmp r2_cmp op_ge (by rfl) (sd_var 3) (sd_bin r2_pow op_pow sd_int sd_int)))) (fun _ _ _ _ _ => (sd_var 3)))))))))
theorem sc__law_below : FnScope ["_law_d", "_law_size", "_law_result"] ["_law_d", "_law_size"] (defScope s__law_below) := ⟨rfl, rfl, rfl, by decide +kernel, rfl, by decide +kernel, by decide +kernel⟩
theorem ok__law_below (T : Tx P K mg w) : FnOk P w K mg base (L2N.CX P w) 1 T.f__law_below T.d__law_below ["_law_d", "_law_size"] (spL K mg 2 F__law_below) := by
    refine (fn_L (N := ["_law_d", "_law_size", "_law_result"]) (k := 0) (m := M__law_below) T.F__law_below sc__law_below fun cdv A outer s H E hr => ?_)
    have hN : (["_law_d", "_law_size", "_law_result"] : List Str).Nodup := sc__law_below.nd
    have hu := hr.units
    have tk := L2N.takes_of (X := cxOf (L2N.CX P w) P w K mg base ["_law_d", "_law_size", "_law_result"] "_law_below" (defScope s__law_below) T.f__law_below cdv A outer s H E) (E := E) rfl rfl rfl rfl
    have hp := passes_of (X := cxOf (L2N.CX P w) P w K mg base ["_law_d", "_law_size", "_law_result"] "_law_below" (defScope s__law_below) T.f__law_below cdv A outer s H E) rfl
    exact (ss_cons (ss_if (sb_w (sw_and (sb_cmp r2_eq (op_eqD hu) (by rfl) (sd_ixO 0 sd_int) sd_int) (sw_and1 (sb_cmp r2_cmp op_gt (by rfl) (sd_lenO 0 (by rfl) T.z_len) sd_int)))) (ss_one (ss_setIx (k0 := 0) 0 (sd_pop 0 sd_int) sd_int)) ss_nil)
    (ss_cons (ss_if (sb_cmp r2_cmp op_gt (by rfl) (sd_ixO 0 sd_int) sd_int) (ss_cons (ss_set 2 hN (so_val (sd_bin r2_mod op_mod (sd_callT rc_int call_int1 (by rfl) T.z_int bt_int (sl_cons (sd_ixO 0 sd_int) sl_nil)) (sd_var 1))))
    (ss_cons (ss_setIx (k0 := 0) 0 (sd_bin r2_fdiv op_fdivW (sd_ixO 0 sd_int) (sd_var 1)) sd_int)
    (ss_one (ss_ret (so_val (sd_var 2)))))) ss_nil)
    (ss_cons (ss_setIx (k0 := 0) 0 (sd_bin r2_mod op_mod (sd_callT rc_int call_int1 (by rfl) T.z_int bt_int (sl_cons (sd_bin r2_add op_adds (sd_bin r2_mul op_muls (sd_ixO 0 sd_int) sd_int) sd_int) sl_nil)) sd_int) sd_int)
    (ss_one (ss_ret (so_val (sd_bin r2_mod op_mod (sd_callT rc_int call_int1 (by rfl) T.z_int bt_int (sl_cons (sd_bin r2_fdiv op_fdivW (sd_ixO 0 sd_int) sd_int) sl_nil)) (sd_var 1))))))))
theorem sc_is_text : FnScope ["value", "n", "one"] ["value", "n"] (defScope s_is_text) := ⟨rfl, rfl, rfl, by decide +kernel, rfl, by decide +kernel, by decide +kernel⟩
theorem ok_is_text (T : Tx P K mg w) : FnOk P w K mg base (L2N.CX P w) 2 T.f_is_text T.d_is_text ["value", "n"] (spP K mg 2 F_is_text) := by
    refine (fn_P (N := ["value", "n", "one"]) (k := 1) (m := M_is_text) T.F_is_text sc_is_text fun cdv A outer s H E hr => ?_)
    have hN : (["value", "n", "one"] : List Str).Nodup := sc_is_text.nd
    have hu := hr.units
    have tk := L2N.takes_of (X := cxOf (L2N.CX P w) P w K mg base ["value", "n", "one"] "is_text" (defScope s_is_text) T.f_is_text cdv A outer s H E) (E := E) rfl rfl rfl rfl
    have hp := passes_of (X := cxOf (L2N.CX P w) P w K mg base ["value", "n", "one"] "is_text" (defScope s_is_text) T.f_is_text cdv A outer s H E) rfl
    exact (ss_cons (ss_if (sb_w (sw_or (sb_not (sb_val (sd_isi "tuple" (sd_var 0) T.z_isinstance T.z_tuple bt_tuple))) (sw_or1 (sb_cmp r2_cmp op_gt (by rfl) (sd_callB rc_len call_lens (by rfl) T.z_len bt_len (sl_cons (sd_var 0) sl_nil)) (sd_globI T.g_MOST_LETTERS.choose_spec))))) (ss_one (ss_ret (so_val sd_bl))) ss_nil)
    (ss_one (ss_ret (so_val (sd_callB rc_all (cr_all rfl) (by rfl) T.z_all bt_all (sl_cons (sd_frz (so_lc [("one", 2)] rfl hN (si_seq (sd_var 0)) (blkOk_by (by rfl)) (fun _ _ _ _ _ => (sg_name 2 hN)) (fun _ _ _ _ _ => sts_nil) (fun _ _ _ _ _ => (sd_frz (so_call ((ok_is_from T).mono (by decide)) hr T.g_is_from T.F_is_from.kp T.b_is_from takes_noneN (sl_cons (sd_var 2) (sl_cons sd_int (sl_cons (sd_bin r2_sub op_sub (sd_var 1) sd_int) sl_nil)))))))) sl_nil))))))
theorem sc_all_done : FnScope ["steps", "n", "text", "step"] ["steps", "n", "text"] (defScope s_all_done) := ⟨rfl, rfl, rfl, by decide +kernel, rfl, by decide +kernel, by decide +kernel⟩
theorem ok_all_done (T : Tx P K mg w) : FnOk P w K mg base (L2N.CX P w) 2 T.f_all_done T.d_all_done ["steps", "n", "text"] (spP K mg 3 F_all_done) := by
    refine (fn_P (N := ["steps", "n", "text", "step"]) (k := 1) (m := M_all_done) T.F_all_done sc_all_done fun cdv A outer s H E hr => ?_)
    have hN : (["steps", "n", "text", "step"] : List Str).Nodup := sc_all_done.nd
    have hu := hr.units
    have tk := L2N.takes_of (X := cxOf (L2N.CX P w) P w K mg base ["steps", "n", "text", "step"] "all_done" (defScope s_all_done) T.f_all_done cdv A outer s H E) (E := E) rfl rfl rfl rfl
    have hp := passes_of (X := cxOf (L2N.CX P w) P w K mg base ["steps", "n", "text", "step"] "all_done" (defScope s_all_done) T.f_all_done cdv A outer s H E) rfl
    exact (ss_cons (ss_for hp rfl (si_kill (si_seq (sd_var 0))) (sg_name 3 hN) (sss_kill (ss_one (ss_set 2 hN (so_val (sd_frz (so_call ((ok_done T).mono (by decide)) hr T.g_done T.F_done.kp T.b_done tk (sl_cons (sd_var 3) (sl_cons (sd_var 1) (sl_cons (sd_var 2) sl_nil))))))))))
    (ss_one (ss_ret (so_val (sd_var 2)))))
theorem sc_common_of : FnScope ["sums", "found", "number", "terms", "often"] ["sums"] (defScope s_common_of) := ⟨rfl, rfl, rfl, by decide +kernel, rfl, by decide +kernel, by decide +kernel⟩
theorem ok_common_of (T : Tx P K mg w) : FnOk P w K mg base (L2N.CX P w) 2 T.f_common_of T.d_common_of ["sums"] (spP K mg 1 F_common_of) := by
    refine (fn_P (N := ["sums", "found", "number", "terms", "often"]) (k := 1) (m := M_common_of) T.F_common_of sc_common_of fun cdv A outer s H E hr => ?_)
    have hN : (["sums", "found", "number", "terms", "often"] : List Str).Nodup := sc_common_of.nd
    have hu := hr.units
    have tk := L2N.takes_of (X := cxOf (L2N.CX P w) P w K mg base ["sums", "found", "number", "terms", "often"] "common_of" (defScope s_common_of) T.f_common_of cdv A outer s H E) (E := E) rfl rfl rfl rfl
    have hp := passes_of (X := cxOf (L2N.CX P w) P w K mg base ["sums", "found", "number", "terms", "often"] "common_of" (defScope s_common_of) T.f_common_of cdv A outer s H E) rfl
    exact (ss_cons (ss_set 1 hN (so_val sd_int))
    (ss_cons (ss_for hp rfl (si_kill (si_seq (sd_var 0))) (sg_tup rfl (sgs_cons (sg_name 2 hN) (sgs_cons (sg_name 3 hN) sgs_nil))) (sss_kill (ss_cons (ss_set 1 hN (so_val (sd_frz (so_call ((ok_divisor T).mono (by decide)) hr T.g_divisor T.F_divisor.kp T.b_divisor tk (sl_cons (sd_var 1) (sl_cons (sd_var 2) sl_nil))))))
    (ss_one (ss_for hp rfl (si_kill (si_values (sd_var 3))) (sg_name 4 hN) (sss_kill (ss_one (ss_set 1 hN (so_val (sd_frz (so_call ((ok_divisor T).mono (by decide)) hr T.g_divisor T.F_divisor.kp T.b_divisor tk (sl_cons (sd_var 1) (sl_cons (sd_var 4) sl_nil)))))))))))))
    (ss_one (ss_ret (so_val (sd_var 1))))))
theorem sc_rows_to_two_z15 : FnScope ["every", "step", "one", "other"] [] (defScope s_rows_to_two_z15) := ⟨rfl, rfl, rfl, by decide +kernel, rfl, by decide +kernel, by decide +kernel⟩
theorem ok_rows_to_two_z15 (T : Tx P K mg w) : FnOk P w K mg base (L2N.CX P w) 2 T.f_rows_to_two_z15 T.d_rows_to_two_z15 [] (spP K mg 0 F_rows_to_two_z15) := by
    refine (fn_P (N := ["every", "step", "one", "other"]) (k := 1) (m := M_rows_to_two_z15) T.F_rows_to_two_z15 sc_rows_to_two_z15 fun cdv A outer s H E hr => ?_)
    have hN : (["every", "step", "one", "other"] : List Str).Nodup := sc_rows_to_two_z15.nd
    have hu := hr.units
    have tk := L2N.takes_of (X := cxOf (L2N.CX P w) P w K mg base ["every", "step", "one", "other"] "rows_to_two" (defScope s_rows_to_two_z15) T.f_rows_to_two_z15 cdv A outer s H E) (E := E) rfl rfl rfl rfl
    have hp := passes_of (X := cxOf (L2N.CX P w) P w K mg base ["every", "step", "one", "other"] "rows_to_two" (defScope s_rows_to_two_z15) T.f_rows_to_two_z15 cdv A outer s H E) rfl
    exact (ss_cons (ss_set 0 hN (so_val (sd_frz (so_call0 ((ok_all_steps_z15 T).mono (by decide)) hr T.g_all_steps_z15 T.F_all_steps_z15.kp T.b_all_steps_z15 tk))))
    (ss_one (ss_ret (so_lst (sl_cons (sd_tup sl_nil) (sl_star (sd_frz (so_lc [("step", 1)] rfl hN (si_seq (sd_var 0)) (blkOk_by (by rfl)) (fun _ _ _ _ _ => (sg_name 1 hN)) (fun _ _ _ _ _ => sts_nil) (fun _ _ _ _ _ => (sd_tup (sl_cons (sd_var 1) sl_nil))))) (sl_star (sd_frz (so_lc2 (vs1 := [3]) [("one", 2), ("other", 3)] rfl hN (si_seq (sd_var 0)) (blkOk_by (by rfl)) (fun _ _ _ _ _ => (sg_name 2 hN)) (fun _ _ _ _ _ => sts_nil) (fun _ _ _ _ _ => (si_seq (sd_var 0))) (fun _ _ _ _ _ => (sg_name 3 hN)) (fun _ _ _ _ _ => sts_nil) (fun _ _ _ _ _ => (sd_tup (sl_cons (sd_var 2) (sl_cons (sd_var 3) sl_nil)))))) sl_nil)))))))
theorem sc_Script___init__ : FnScope ["self", "steps", "index", "step"] ["self", "steps"] (defScope s_Script___init__) := ⟨rfl, rfl, rfl, by decide +kernel, rfl, by decide +kernel, by decide +kernel⟩
theorem ok_Script___init__ (T : Tx P K mg w) : FnOk P w K mg base (L2N.CX P w) 3 T.f_Script___init__ T.d_Script___init__ ["self", "steps"] (spL K mg 2 F_Script___init___z15) := by
    refine (fn_L (N := ["self", "steps", "index", "step"]) (k := 2) (m := M_Script___init___z15) T.F_Script___init___z15 sc_Script___init__ fun cdv A outer s H E hr => ?_)
    have hN : (["self", "steps", "index", "step"] : List Str).Nodup := sc_Script___init__.nd
    have hu := hr.units
    have tk := L2N.takes_of (X := cxOf (L2N.CX P w) P w K mg base ["self", "steps", "index", "step"] "Script.__init__" (defScope s_Script___init__) T.f_Script___init__ cdv A outer s H E) (E := E) rfl rfl rfl rfl
    have hp := passes_of (X := cxOf (L2N.CX P w) P w K mg base ["self", "steps", "index", "step"] "Script.__init__" (defScope s_Script___init__) T.f_Script___init__ cdv A outer s H E) rfl
    exact (ss_cons (ss_if (sb_w (sw_or (sb_not (sb_val (sd_isi "tuple" (sd_var 1) T.z_isinstance T.z_tuple bt_tuple))) (sw_or1 (sb_cmp r2_cmp op_gt (by rfl) (sd_callB rc_len call_lens (by rfl) T.z_len bt_len (sl_cons (sd_var 1) sl_nil)) (sd_globI T.g_MOST_STEPS.choose_spec))))) (ss_one (ss_raiseX rfl tk T.S_BadSteps.oex T.S_BadSteps.ini T.S_BadSteps.ty ((okx_BadSteps T).mono (by decide)) (by decide) hr T.b_BadSteps___init__ T.g_BadSteps (sl_cons (sd_un r1_neg un_neg sd_int) sl_nil))) ss_nil)
    (ss_cons (ss_for hp rfl (si_kill (si_enum (by rfl) T.z_enumerate (sl_cons (sd_var 1) sl_nil))) (sg_tup rfl (sgs_cons (sg_name 2 hN) (sgs_cons (sg_name 3 hN) sgs_nil))) (sss_kill (ss_one (ss_if (sb_not (sb_val (sd_frz (so_call ((ok_is_step T).mono (by decide)) hr T.g_is_step T.F_is_step.kp T.b_is_step tk (sl_cons (sd_var 3) sl_nil))))) (ss_one (ss_raiseX rfl tk T.S_BadSteps.oex T.S_BadSteps.ini T.S_BadSteps.ty ((okx_BadSteps T).mono (by decide)) (by decide) hr T.b_BadSteps___init__ T.g_BadSteps (sl_cons (sd_var 2) sl_nil))) ss_nil))))
    (ss_one (ss_setF 0 (sd_var 1) T.g_Script T.K_Script T.n_Script_rows))))
theorem sc_need_text : FnScope ["n", "text"] ["n", "text"] (defScope s_need_text) := ⟨rfl, rfl, rfl, by decide +kernel, rfl, by decide +kernel, by decide +kernel⟩
theorem ok_need_text (T : Tx P K mg w) : FnOk P w K mg base (L2N.CX P w) 3 T.f_need_text T.d_need_text ["n", "text"] (spP K mg 2 F_need_text) := by
    refine (fn_P (N := ["n", "text"]) (k := 2) (m := M_need_text) T.F_need_text sc_need_text fun cdv A outer s H E hr => ?_)
    have hN : (["n", "text"] : List Str).Nodup := sc_need_text.nd
    have hu := hr.units
    have tk := L2N.takes_of (X := cxOf (L2N.CX P w) P w K mg base ["n", "text"] "need_text" (defScope s_need_text) T.f_need_text cdv A outer s H E) (E := E) rfl rfl rfl rfl
    have hp := passes_of (X := cxOf (L2N.CX P w) P w K mg base ["n", "text"] "need_text" (defScope s_need_text) T.f_need_text cdv A outer s H E) rfl
    exact (ss_cons (ss_if (sb_not (sb_val (sd_frz (so_call ((ok_is_from T).mono (by decide)) hr T.g_is_from T.F_is_from.kp T.b_is_from tk (sl_cons (sd_var 0) (sl_cons sd_int (sl_cons (sd_globI T.g_GREATEST.choose_spec) sl_nil))))))) (ss_one (ss_raise0 rfl tk excF T.x_BadSize.1 T.g_BadSize T.x_BadSize.2.1 T.x_BadSize.2.2.1 T.x_BadSize.2.2.2)) ss_nil)
    (ss_one (ss_if (sb_not (sb_val (sd_frz (so_call ((ok_is_text T).mono (by decide)) hr T.g_is_text T.F_is_text.kp T.b_is_text tk (sl_cons (sd_var 1) (sl_cons (sd_var 0) sl_nil)))))) (ss_one (ss_raise0 rfl tk excF T.x_BadText.1 T.g_BadText T.x_BadText.2.1 T.x_BadText.2.2.1 T.x_BadText.2.2.2)) ss_nil)))
theorem sc_rounds : FnScope ["script", "n", "length", "step", "first", "now", "found", "text"] ["script", "n", "length"] (defScope s_rounds) := ⟨rfl, rfl, rfl, by decide +kernel, rfl, by decide +kernel, by decide +kernel⟩
theorem ok_rounds (T : Tx P K mg w) : FnOk P w K mg base (L2N.CX P w) 3 T.f_rounds T.d_rounds ["script", "n", "length"] (spP K mg 3 F_rounds) := by
    refine (fn_P (N := ["script", "n", "length", "step", "first", "now", "found", "text"]) (k := 2) (m := M_rounds) T.F_rounds sc_rounds fun cdv A outer s H E hr => ?_)
    have hN : (["script", "n", "length", "step", "first", "now", "found", "text"] : List Str).Nodup := sc_rounds.nd
    have hu := hr.units
    have tk := L2N.takes_of (X := cxOf (L2N.CX P w) P w K mg base ["script", "n", "length", "step", "first", "now", "found", "text"] "rounds" (defScope s_rounds) T.f_rounds cdv A outer s H E) (E := E) rfl rfl rfl rfl
    have hp := passes_of (X := cxOf (L2N.CX P w) P w K mg base ["script", "n", "length", "step", "first", "now", "found", "text"] "rounds" (defScope s_rounds) T.f_rounds cdv A outer s H E) rfl
    exact (ss_cons (ss_if (sb_not (sb_val (sd_frz (so_call ((ok_is_from T).mono (by decide)) hr T.g_is_from T.F_is_from.kp T.b_is_from tk (sl_cons (sd_var 1) (sl_cons sd_int (sl_cons (sd_globI T.g_MOST_SIZE.choose_spec) sl_nil))))))) (ss_one (ss_raise0 rfl tk excF T.x_BadSize.1 T.g_BadSize T.x_BadSize.2.1 T.x_BadSize.2.2.1 T.x_BadSize.2.2.2)) ss_nil)
    (ss_cons (ss_if (sb_not (sb_val (sd_frz (so_call ((ok_is_from T).mono (by decide)) hr T.g_is_from T.F_is_from.kp T.b_is_from tk (sl_cons (sd_var 2) (sl_cons sd_int (sl_cons (sd_globI T.g_MOST_LENGTH.choose_spec) sl_nil))))))) (ss_one (ss_raise0 rfl tk excF T.x_BadLength.1 T.g_BadLength T.x_BadLength.2.1 T.x_BadLength.2.2.1 T.x_BadLength.2.2.2)) ss_nil)
    (ss_cons (ss_if (sb_val (sd_callB rc_any (cr_any rfl) (by rfl) T.z_any bt_any (sl_cons (sd_frz (so_lc [("step", 3)] rfl hN (si_seq (sd_fld (sd_var 0) T.g_Script T.K_Script T.n_Script_rows)) (blkOk_by (by rfl)) (fun _ _ _ _ _ => (sg_name 3 hN)) (fun _ _ _ _ _ => sts_nil) (fun _ _ _ _ _ => (sd_and (sd_cmp r2_eq (op_eqD hu) (by rfl) (sd_ix r2_ix ix_seq (sd_var 3) sd_int) sd_str) (sd_one (sd_cmp r2_cmp op_gt (by rfl) (sd_frz (so_call ((ok_divisor T).mono (by decide)) hr T.g_divisor T.F_divisor.kp T.b_divisor takes_noneN (sl_cons (sd_ix r2_ix ix_seq (sd_var 3) sd_int) (sl_cons (sd_var 1) sl_nil)))) sd_int)))))) sl_nil))) (ss_one (ss_ret (so_val sd_non))) ss_nil)
    (ss_cons (ss_set 4 hN (so_val (sd_frz (so_call ((ok_units T).mono (by decide)) hr T.g_units T.F_units.kp T.b_units tk (sl_cons (sd_var 2) sl_nil)))))
    (ss_cons (ss_par 5 6 rfl hN (sl_cons (sd_frz (so_lc [("text", 7)] rfl hN (si_seq (sd_var 4)) (blkOk_by (by rfl)) (fun _ _ _ _ _ => (sg_name 7 hN)) (fun _ _ _ _ _ => sts_nil) (fun _ _ _ _ _ => (sd_frz (so_call ((ok_all_done T).mono (by decide)) hr T.g_all_done T.F_all_done.kp T.b_all_done takes_noneN (sl_cons (sd_fld (sd_var 0) T.g_Script T.K_Script T.n_Script_rows) (sl_cons (sd_var 1) (sl_cons (sd_var 7) sl_nil)))))))) (sl_cons sd_int sl_nil)))
    (ss_cons (ss_while (fuel := (fun _ => 1000000000000000000000000000000)) hp (sb_cmp r2_ne (op_neD hu) (by rfl) (sd_var 5) (sd_var 4)) (ss_cons (ss_setLc 5 [("text", 7)] rfl hN (by rfl) (si_seq (sd_var 5)) (blkOk_by (by rfl)) (fun _ _ _ _ _ => (sg_name 7 hN)) (fun _ _ _ _ _ => sts_nil) (fun _ _ _ _ _ => (sd_frz (so_call ((ok_all_done T).mono (by decide)) hr T.g_all_done T.F_all_done.kp T.b_all_done takes_noneN (sl_cons (sd_fld (sd_var 0) T.g_Script T.K_Script T.n_Script_rows) (sl_cons (sd_var 1) (sl_cons (sd_var 7) sl_nil)))))))
    (ss_one (ss_aug 6 ip_add hN sd_int))))
    (ss_one (ss_ret (so_val (sd_var 6))))))))))
theorem sc_is_choice_z15 : FnScope ["value"] ["value"] (defScope s_is_choice_z15) := ⟨rfl, rfl, rfl, by decide +kernel, rfl, by decide +kernel, by decide +kernel⟩
theorem ok_is_choice_z15 (T : Tx P K mg w) : FnOk P w K mg base (L2N.CX P w) 3 T.f_is_choice_z15 T.d_is_choice_z15 ["value"] (spP K mg 1 F_is_choice_z15) := by
    refine (fn_P (N := ["value"]) (k := 2) (m := M_is_choice_z15) T.F_is_choice_z15 sc_is_choice_z15 fun cdv A outer s H E hr => ?_)
    have hN : (["value"] : List Str).Nodup := sc_is_choice_z15.nd
    have hu := hr.units
    have tk := L2N.takes_of (X := cxOf (L2N.CX P w) P w K mg base ["value"] "is_choice" (defScope s_is_choice_z15) T.f_is_choice_z15 cdv A outer s H E) (E := E) rfl rfl rfl rfl
    have hp := passes_of (X := cxOf (L2N.CX P w) P w K mg base ["value"] "is_choice" (defScope s_is_choice_z15) T.f_is_choice_z15 cdv A outer s H E) rfl
    exact (ss_cons (ss_if (sb_w (sw_or (sb_not (sb_val (sd_isi "tuple" (sd_var 0) T.z_isinstance T.z_tuple bt_tuple))) (sw_or (sb_cmp r2_ne (op_neD hu) (by rfl) (sd_callB rc_len call_lens (by rfl) T.z_len bt_len (sl_cons (sd_var 0) sl_nil)) sd_int) (sw_or1 (sb_not (sb_val (sd_frz (so_call ((ok_is_from T).mono (by decide)) hr T.g_is_from T.F_is_from.kp T.b_is_from tk (sl_cons (sd_ix r2_ix ix_seq (sd_var 0) sd_int) (sl_cons sd_int (sl_cons (sd_globI T.g_GREATEST.choose_spec) sl_nil))))))))))) (ss_one (ss_ret (so_val sd_bl))) ss_nil)
    (ss_one (ss_ret (so_call ((ok_is_text T).mono (by decide)) hr T.g_is_text T.F_is_text.kp T.b_is_text tk (sl_cons (sd_ix r2_ix ix_seq (sd_var 0) sd_int) (sl_cons (sd_ix r2_ix ix_seq (sd_var 0) sd_int) sl_nil))))))
theorem sc_step_in_z15 : FnScope ["words", "number", "due", "many"] ["words", "number"] (defScope s_step_in_z15) := ⟨rfl, rfl, rfl, by decide +kernel, rfl, by decide +kernel, by decide +kernel⟩
theorem ok_step_in_z15 (T : Tx P K mg w) : FnOk P w K mg base (L2N.CX P w) 3 T.f_step_in_z15 T.d_step_in_z15 ["words", "number"] (spP K mg 2 F_step_in_z15) := by
    refine (fn_P (N := ["words", "number", "due", "many"]) (k := 2) (m := M_step_in_z15) T.F_step_in_z15 sc_step_in_z15 fun cdv A outer s H E hr => ?_)
    have hN : (["words", "number", "due", "many"] : List Str).Nodup := sc_step_in_z15.nd
    have hu := hr.units
    have tk := L2N.takes_of (X := cxOf (L2N.CX P w) P w K mg base ["words", "number", "due", "many"] "step_in" (defScope s_step_in_z15) T.f_step_in_z15 cdv A outer s H E) (E := E) rfl rfl rfl rfl
    have hp := passes_of (X := cxOf (L2N.CX P w) P w K mg base ["words", "number", "due", "many"] "step_in" (defScope s_step_in_z15) T.f_step_in_z15 cdv A outer s H E) rfl
    exact (ss_cons (ss_if (sb_w (sw_and (sb_knotin T.T_NUMBERS (sd_ix r2_ix ix_seq (sd_var 0) sd_int) T.g_NUMBERS) (sw_and1 (sb_cmp r2_notIn op_notIn_seq (by rfl) (sd_ix r2_ix ix_seq (sd_var 0) sd_int) (sd_globT T.g_PLAIN T.t_PLAIN))))) (ss_one (ss_raiseX rfl tk T.S_BadLine.oex T.S_BadLine.ini T.S_BadLine.ty ((okx_BadLine T).mono (by decide)) (by decide) hr T.b_BadLine___init__ T.g_BadLine (sl_cons (sd_var 1) (sl_cons sd_int sl_nil)))) ss_nil)
    (ss_cons (ss_set 2 hN (so_val (sd_if (sb_kin T.T_NUMBERS (sd_ix r2_ix ix_seq (sd_var 0) sd_int) T.g_NUMBERS) sd_int sd_int)))
    (ss_cons (ss_if (sb_w (sw_and (sb_cmp r2_eq (op_eqD hu) (by rfl) (sd_var 2) sd_int) (sw_and1 (sb_w (sw_or (sb_cmp r2_cmp op_lt (by rfl) (sd_callB rc_len call_lens (by rfl) T.z_len bt_len (sl_cons (sd_var 0) sl_nil)) sd_int) (sw_or1 (sb_cmp r2_notIn op_notIn_seq (by rfl) (sd_ix r2_ix ix_seq (sd_var 0) sd_int) (sd_frz (so_lc [("many", 3)] rfl hN (si_seq (sd_kix T.T_NUMBERS (sd_ix r2_ix ix_seq (sd_var 0) sd_int) T.g_NUMBERS)) (blkOk_by (by rfl)) (fun _ _ _ _ _ => (sg_name 3 hN)) (fun _ _ _ _ _ => sts_nil) (fun _ _ _ _ _ => (sd_callT rc_str call_strU (by rfl) T.z_str bt_str (sl_cons (sd_var 3) sl_nil)))))))))))) (ss_one (ss_raiseX rfl tk T.S_BadLine.oex T.S_BadLine.ini T.S_BadLine.ty ((okx_BadLine T).mono (by decide)) (by decide) hr T.b_BadLine___init__ T.g_BadLine (sl_cons (sd_var 1) (sl_cons sd_int sl_nil)))) ss_nil)
    (ss_cons (ss_if (sb_cmp r2_cmp op_gt (by rfl) (sd_callB rc_len call_lens (by rfl) T.z_len bt_len (sl_cons (sd_var 0) sl_nil)) (sd_var 2)) (ss_one (ss_raiseX rfl tk T.S_BadLine.oex T.S_BadLine.ini T.S_BadLine.ty ((okx_BadLine T).mono (by decide)) (by decide) hr T.b_BadLine___init__ T.g_BadLine (sl_cons (sd_var 1) (sl_cons (sd_bin r2_add op_adds (sd_var 2) sd_int) sl_nil)))) ss_nil)
    (ss_one (ss_ret (so_val (sd_if (sb_cmp r2_eq (op_eqD hu) (by rfl) (sd_var 2) sd_int) (sd_tup (sl_cons (sd_ix r2_ix ix_seq (sd_var 0) sd_int) (sl_cons (sd_callT rc_intU call_intU (by rfl) T.z_int bt_int (sl_cons (sd_ix r2_ix ix_seq (sd_var 0) sd_int) sl_nil)) sl_nil))) (sd_tup (sl_cons (sd_ix r2_ix ix_seq (sd_var 0) sd_int) sl_nil))))))))))
theorem sc_Walk_do : FnScope ["self", "step"] ["self", "step"] (defScope s_Walk_do) := ⟨rfl, rfl, rfl, by decide +kernel, rfl, by decide +kernel, by decide +kernel⟩
theorem ok_Walk_do (T : Tx P K mg w) : FnOk P w K mg base (L2N.CX P w) 3 T.f_Walk_do T.d_Walk_do ["self", "step"] (spL K mg 2 F_Walk_do_z15) := by
    refine (fn_L (N := ["self", "step"]) (k := 2) (m := M_Walk_do_z15) T.F_Walk_do_z15 sc_Walk_do fun cdv A outer s H E hr => ?_)
    have hN : (["self", "step"] : List Str).Nodup := sc_Walk_do.nd
    have hu := hr.units
    have tk := L2N.takes_of (X := cxOf (L2N.CX P w) P w K mg base ["self", "step"] "Walk.do" (defScope s_Walk_do) T.f_Walk_do cdv A outer s H E) (E := E) rfl rfl rfl rfl
    have hp := passes_of (X := cxOf (L2N.CX P w) P w K mg base ["self", "step"] "Walk.do" (defScope s_Walk_do) T.f_Walk_do cdv A outer s H E) rfl
    exact (ss_cons (ss_if (sb_not (sb_val (sd_frz (so_call ((ok_is_step T).mono (by decide)) hr T.g_is_step T.F_is_step.kp T.b_is_step tk (sl_cons (sd_var 1) sl_nil))))) (ss_one (ss_raiseX rfl tk T.S_BadSteps.oex T.S_BadSteps.ini T.S_BadSteps.ty ((okx_BadSteps T).mono (by decide)) (by decide) hr T.b_BadSteps___init__ T.g_BadSteps (sl_cons sd_int sl_nil))) ss_nil)
    (ss_cons (ss_expr (so_wappT 0 ⟨T.g_Walk, T.K_Walk, T.n_Walk_size, T.n_Walk_texts, T.n_Walk_noted⟩ (sd_frz (so_call ((ok_done T).mono (by decide)) hr T.g_done T.F_done.kp T.b_done tk (sl_cons (sd_var 1) (sl_cons (sd_wsize 0 ⟨T.g_Walk, T.K_Walk, T.n_Walk_size, T.n_Walk_texts, T.n_Walk_noted⟩) (sl_cons (sd_wix 0 ⟨T.g_Walk, T.K_Walk, T.n_Walk_size, T.n_Walk_texts, T.n_Walk_noted⟩ (sd_un r1_neg un_neg sd_int)) sl_nil)))))))
    (ss_cons (ss_expr (so_wappN 0 ⟨T.g_Walk, T.K_Walk, T.n_Walk_size, T.n_Walk_texts, T.n_Walk_noted⟩ (sd_var 1)))
    (ss_one (ss_ret (so_val (sd_wix 0 ⟨T.g_Walk, T.K_Walk, T.n_Walk_size, T.n_Walk_texts, T.n_Walk_noted⟩ (sd_un r1_neg un_neg sd_int))))))))
theorem sc_shifted : FnScope ["script", "n", "text"] ["script", "n", "text"] (defScope s_shifted) := ⟨rfl, rfl, rfl, by decide +kernel, rfl, by decide +kernel, by decide +kernel⟩
theorem ok_shifted (T : Tx P K mg w) : FnOk P w K mg base (L2N.CX P w) 4 T.f_shifted T.d_shifted ["script", "n", "text"] (spP K mg 3 F_shifted) := by
    refine (fn_P (N := ["script", "n", "text"]) (k := 3) (m := M_shifted) T.F_shifted sc_shifted fun cdv A outer s H E hr => ?_)
    have hN : (["script", "n", "text"] : List Str).Nodup := sc_shifted.nd
    have hu := hr.units
    have tk := L2N.takes_of (X := cxOf (L2N.CX P w) P w K mg base ["script", "n", "text"] "shifted" (defScope s_shifted) T.f_shifted cdv A outer s H E) (E := E) rfl rfl rfl rfl
    have hp := passes_of (X := cxOf (L2N.CX P w) P w K mg base ["script", "n", "text"] "shifted" (defScope s_shifted) T.f_shifted cdv A outer s H E) rfl
    exact (ss_cons (ss_expr (so_call ((ok_need_text T).mono (by decide)) hr T.g_need_text T.F_need_text.kp T.b_need_text tk (sl_cons (sd_var 1) (sl_cons (sd_var 2) sl_nil))))
    (ss_one (ss_ret (so_call ((ok_all_done T).mono (by decide)) hr T.g_all_done T.F_all_done.kp T.b_all_done tk (sl_cons (sd_fld (sd_var 0) T.g_Script T.K_Script T.n_Script_rows) (sl_cons (sd_var 1) (sl_cons (sd_var 2) sl_nil)))))))
theorem sc_trace : FnScope ["script", "n", "text", "found", "step"] ["script", "n", "text"] (defScope s_trace) := ⟨rfl, rfl, rfl, by decide +kernel, rfl, by decide +kernel, by decide +kernel⟩
theorem ok_trace (T : Tx P K mg w) : FnOk P w K mg base (L2N.CX P w) 4 T.f_trace T.d_trace ["script", "n", "text"] (spP K mg 3 F_trace) := by
    refine (fn_P (N := ["script", "n", "text", "found", "step"]) (k := 3) (m := M_trace) T.F_trace sc_trace fun cdv A outer s H E hr => ?_)
    have hN : (["script", "n", "text", "found", "step"] : List Str).Nodup := sc_trace.nd
    have hu := hr.units
    have tk := L2N.takes_of (X := cxOf (L2N.CX P w) P w K mg base ["script", "n", "text", "found", "step"] "trace" (defScope s_trace) T.f_trace cdv A outer s H E) (E := E) rfl rfl rfl rfl
    have hp := passes_of (X := cxOf (L2N.CX P w) P w K mg base ["script", "n", "text", "found", "step"] "trace" (defScope s_trace) T.f_trace cdv A outer s H E) rfl
    exact (ss_cons (ss_expr (so_call ((ok_need_text T).mono (by decide)) hr T.g_need_text T.F_need_text.kp T.b_need_text tk (sl_cons (sd_var 1) (sl_cons (sd_var 2) sl_nil))))
    (ss_cons (ss_set 3 hN (so_lst (sl_cons (sd_var 2) sl_nil)))
    (ss_cons (ss_for hp rfl (si_kill (si_seq (sd_fld (sd_var 0) T.g_Script T.K_Script T.n_Script_rows))) (sg_name 4 hN) (sss_kill (ss_one (ss_expr (so_append 3 (sd_frz (so_call ((ok_done T).mono (by decide)) hr T.g_done T.F_done.kp T.b_done tk (sl_cons (sd_var 4) (sl_cons (sd_var 1) (sl_cons (sd_ixO 3 (sd_un r1_neg un_neg sd_int)) sl_nil))))))))))
    (ss_one (ss_ret (so_take 3))))))
theorem sc_is_seen_z15 : FnScope ["value"] ["value"] (defScope s_is_seen_z15) := ⟨rfl, rfl, rfl, by decide +kernel, rfl, by decide +kernel, by decide +kernel⟩
theorem ok_is_seen_z15 (T : Tx P K mg w) : FnOk P w K mg base (L2N.CX P w) 4 T.f_is_seen_z15 T.d_is_seen_z15 ["value"] (spP K mg 1 F_is_seen_z15) := by
    refine (fn_P (N := ["value"]) (k := 3) (m := M_is_seen_z15) T.F_is_seen_z15 sc_is_seen_z15 fun cdv A outer s H E hr => ?_)
    have hN : (["value"] : List Str).Nodup := sc_is_seen_z15.nd
    have hu := hr.units
    have tk := L2N.takes_of (X := cxOf (L2N.CX P w) P w K mg base ["value"] "is_seen" (defScope s_is_seen_z15) T.f_is_seen_z15 cdv A outer s H E) (E := E) rfl rfl rfl rfl
    have hp := passes_of (X := cxOf (L2N.CX P w) P w K mg base ["value"] "is_seen" (defScope s_is_seen_z15) T.f_is_seen_z15 cdv A outer s H E) rfl
    exact (ss_cons (ss_if (sb_w (sw_or (sb_not (sb_val (sd_isi "tuple" (sd_var 0) T.z_isinstance T.z_tuple bt_tuple))) (sw_or (sb_cmp r2_ne (op_neD hu) (by rfl) (sd_callB rc_len call_lens (by rfl) T.z_len bt_len (sl_cons (sd_var 0) sl_nil)) sd_int) (sw_or1 (sb_not (sb_val (sd_frz (so_call ((ok_is_choice_z15 T).mono (by decide)) hr T.g_is_choice_z15 T.F_is_choice_z15.kp T.b_is_choice_z15 tk (sl_cons (sd_slice (sd_var 0) sp_none (sp_some sd_int)) sl_nil))))))))) (ss_one (ss_ret (so_val sd_bl))) ss_nil)
    (ss_one (ss_ret (so_val (sd_and (sd_frz (so_call ((ok_is_text T).mono (by decide)) hr T.g_is_text T.F_is_text.kp T.b_is_text tk (sl_cons (sd_ix r2_ix ix_seq (sd_var 0) sd_int) (sl_cons (sd_ix r2_ix ix_seq (sd_var 0) sd_int) sl_nil)))) (sd_one (sd_cmp r2_eq (op_eqD hu) (by rfl) (sd_callB rc_len call_lens (by rfl) T.z_len bt_len (sl_cons (sd_ix r2_ix ix_seq (sd_var 0) sd_int) sl_nil)) (sd_callB rc_len call_lens (by rfl) T.z_len bt_len (sl_cons (sd_ix r2_ix ix_seq (sd_var 0) sd_int) sl_nil)))))))))
theorem sc_Walk___init__ : FnScope ["self", "n", "text"] ["self", "n", "text"] (defScope s_Walk___init__) := ⟨rfl, rfl, rfl, by decide +kernel, rfl, by decide +kernel, by decide +kernel⟩
theorem ok_Walk___init__ (T : Tx P K mg w) : FnOk P w K mg base (L2N.CX P w) 4 T.f_Walk___init__ T.d_Walk___init__ ["self", "n", "text"] (spWI K mg F_need_text) := by
    refine (fn_WI (k := 3) T.F_Walk___init__ sc_Walk___init__ T.g_Walk T.K_Walk T.n_Walk_size T.n_Walk_texts T.n_Walk_noted fun cdv A outer s H E hr => ?_)
    have hN : (["self", "n", "text"] : List Str).Nodup := sc_Walk___init__.nd
    have hu := hr.units
    have tk := L2N.takes_of (X := cxOf (L2N.CX P w) P w K mg base ["self", "n", "text"] "Walk.__init__" (defScope s_Walk___init__) T.f_Walk___init__ cdv A outer s H E) (E := E) rfl rfl rfl rfl
    have hp := passes_of (X := cxOf (L2N.CX P w) P w K mg base ["self", "n", "text"] "Walk.__init__" (defScope s_Walk___init__) T.f_Walk___init__ cdv A outer s H E) rfl
    have hr1 := hr
    exact pss_cons (ss_expr (so_call ((ok_need_text T).mono (by decide)) hr T.g_need_text T.F_need_text.kp T.b_need_text tk (sl_cons (sd_var 1) (sl_cons (sd_var 2) sl_nil)))) (pss_cons (ps_fld (pe_var (i := 0) rfl (by first | exact Or.inl rfl | exact Or.inr (Or.inl rfl) | exact Or.inr (Or.inr rfl)) (by decide) (by decide)) (pe_var (i := 1) rfl (by first | exact Or.inl rfl | exact Or.inr (Or.inl rfl) | exact Or.inr (Or.inr rfl)) (by decide) (by decide)) rfl) (pss_cons (ps_fld (pe_var (i := 0) rfl (by first | exact Or.inl rfl | exact Or.inr (Or.inl rfl) | exact Or.inr (Or.inr rfl)) (by decide) (by decide)) (pe_lst (pa_cons (pe_var (i := 2) rfl (by first | exact Or.inl rfl | exact Or.inr (Or.inl rfl) | exact Or.inr (Or.inr rfl)) (by decide) (by decide)) pa_nil)) rfl) (pss_one (ps_fld (pe_var (i := 0) rfl (by first | exact Or.inl rfl | exact Or.inr (Or.inl rfl) | exact Or.inr (Or.inr rfl)) (by decide) (by decide)) (pe_lst pa_nil) rfl))))
theorem sc_undoing_z15 : FnScope ["script", "found", "step"] ["script"] (defScope s_undoing_z15) := ⟨rfl, rfl, rfl, by decide +kernel, rfl, by decide +kernel, by decide +kernel⟩
theorem ok_undoing_z15 (T : Tx P K mg w) : FnOk P w K mg base (L2N.CX P w) 5 T.f_undoing_z15 T.d_undoing_z15 ["script"] (spP K mg 1 F_undoing_z15) := by
    refine (fn_P (N := ["script", "found", "step"]) (k := 4) (m := M_undoing_z15) T.F_undoing_z15 sc_undoing_z15 fun cdv A outer s H E hr => ?_)
    have hN : (["script", "found", "step"] : List Str).Nodup := sc_undoing_z15.nd
    have hu := hr.units
    have tk := L2N.takes_of (X := cxOf (L2N.CX P w) P w K mg base ["script", "found", "step"] "undoing" (defScope s_undoing_z15) T.f_undoing_z15 cdv A outer s H E) (E := E) rfl rfl rfl rfl
    have hp := passes_of (X := cxOf (L2N.CX P w) P w K mg base ["script", "found", "step"] "undoing" (defScope s_undoing_z15) T.f_undoing_z15 cdv A outer s H E) rfl
    have hr1 := hr
    exact (ss_cons (ss_set 1 hN (so_lst sl_nil))
    (ss_cons (ss_for hp rfl (si_kill (si_seq (sd_rev (sd_fld (sd_var 0) T.g_Script T.K_Script T.n_Script_rows)))) (sg_name 2 hN) (sss_kill (ss_one (ss_if (sb_cmp r2_in op_in_seq (by rfl) (sd_ix r2_ix ix_seq (sd_var 2) sd_int) (sd_globT T.g_ITSELF T.t_ITSELF)) (ss_one (ss_expr (so_append 1 (sd_var 2)))) (ss_one (ss_if (sb_cmp r2_in op_in_seq (by rfl) (sd_ix r2_ix ix_seq (sd_var 2) sd_int) (sd_globT T.g_SIGNED T.t_SIGNED)) (ss_one (ss_expr (so_append 1 (sd_tup (sl_cons (sd_ix r2_ix ix_seq (sd_var 2) sd_int) (sl_cons (sd_un r1_neg un_neg (sd_ix r2_ix ix_seq (sd_var 2) sd_int)) sl_nil)))))) (ss_one (ss_ret (so_val sd_non)))))))))
    (ss_one (ss_ret (so_make T.M_Script ((ok_Script___init__ T).mono (by decide)) hr1 T.g_Script T.b_Script___init__ tk (sl_cons (sd_callT rc_tuple call_tuple_of (by rfl) T.z_tuple bt_tuple (sl_cons (sd_var 1) sl_nil)) sl_nil))))))
theorem sc_fitting_z15 : FnScope ["seen", "index", "one", "found", "n", "text", "told", "steps"] ["seen"] (defScope s_fitting_z15) := ⟨rfl, rfl, rfl, by decide +kernel, rfl, by decide +kernel, by decide +kernel⟩
theorem ok_fitting_z15 (T : Tx P K mg w) : FnOk P w K mg base (L2N.CX P w) 5 T.f_fitting_z15 T.d_fitting_z15 ["seen"] (spP K mg 1 F_fitting_z15) := by
    refine (fn_P (N := ["seen", "index", "one", "found", "n", "text", "told", "steps"]) (k := 4) (m := M_fitting_z15) T.F_fitting_z15 sc_fitting_z15 fun cdv A outer s H E hr => ?_)
    have hN : (["seen", "index", "one", "found", "n", "text", "told", "steps"] : List Str).Nodup := sc_fitting_z15.nd
    have hu := hr.units
    have tk := L2N.takes_of (X := cxOf (L2N.CX P w) P w K mg base ["seen", "index", "one", "found", "n", "text", "told", "steps"] "fitting" (defScope s_fitting_z15) T.f_fitting_z15 cdv A outer s H E) (E := E) rfl rfl rfl rfl
    have hp := passes_of (X := cxOf (L2N.CX P w) P w K mg base ["seen", "index", "one", "found", "n", "text", "told", "steps"] "fitting" (defScope s_fitting_z15) T.f_fitting_z15 cdv A outer s H E) rfl
    exact (ss_cons (ss_for hp rfl (si_kill (si_enum (by rfl) T.z_enumerate (sl_cons (sd_var 0) sl_nil))) (sg_tup rfl (sgs_cons (sg_name 1 hN) (sgs_cons (sg_name 2 hN) sgs_nil))) (sss_kill (ss_one (ss_if (sb_not (sb_val (sd_frz (so_call ((ok_is_seen_z15 T).mono (by decide)) hr T.g_is_seen_z15 T.F_is_seen_z15.kp T.b_is_seen_z15 tk (sl_cons (sd_var 2) sl_nil))))) (ss_one (ss_raiseX rfl tk T.S_BadSeen.oex T.S_BadSeen.ini T.S_BadSeen.ty ((okx_BadSeen T).mono (by decide)) (by decide) hr T.b_BadSeen___init__ T.g_BadSeen (sl_cons (sd_var 1) sl_nil))) ss_nil))))
    (ss_cons (ss_set 3 hN (so_val (sd_frz (so_call0 ((ok_rows_to_two_z15 T).mono (by decide)) hr T.g_rows_to_two_z15 T.F_rows_to_two_z15.kp T.b_rows_to_two_z15 tk))))
    (ss_cons (ss_for hp rfl (si_kill (si_seq (sd_var 0))) (sg_tup rfl (sgs_cons (sg_name 4 hN) (sgs_cons (sg_name 5 hN) (sgs_cons (sg_name 6 hN) sgs_nil)))) (sss_kill (ss_one (ss_setLc 3 [("steps", 7)] rfl hN (by rfl) (si_seq (sd_var 3)) (blkOk_by (by rfl)) (fun _ _ _ _ _ => (sg_name 7 hN)) (fun _ _ _ _ _ => (sts_one (sb_cmp r2_eq (op_eqD hu) (by rfl) (sd_frz (so_call ((ok_all_done T).mono (by decide)) hr T.g_all_done T.F_all_done.kp T.b_all_done takes_noneN (sl_cons (sd_var 7) (sl_cons (sd_var 4) (sl_cons (sd_var 5) sl_nil))))) (sd_var 6)))) (fun _ _ _ _ _ => (sd_var 7))))))
    (ss_one (ss_ret (so_val (sd_var 3)))))))
theorem sc_read_z15 : FnScope ["text", "lines", "found", "at", "line"] ["text"] (defScope s_read_z15) := ⟨rfl, rfl, rfl, by decide +kernel, rfl, by decide +kernel, by decide +kernel⟩
theorem ok_read_z15 (T : Tx P K mg w) : FnOk P w K mg base (L2N.CX P w) 5 T.f_read_z15 T.d_read_z15 ["text"] (spP K mg 1 F_read_z15) := by
    refine (fn_P (N := ["text", "lines", "found", "at", "line"]) (k := 4) (m := M_read_z15) T.F_read_z15 sc_read_z15 fun cdv A outer s H E hr => ?_)
    have hN : (["text", "lines", "found", "at", "line"] : List Str).Nodup := sc_read_z15.nd
    have hu := hr.units
    have tk := L2N.takes_of (X := cxOf (L2N.CX P w) P w K mg base ["text", "lines", "found", "at", "line"] "read" (defScope s_read_z15) T.f_read_z15 cdv A outer s H E) (E := E) rfl rfl rfl rfl
    have hp := passes_of (X := cxOf (L2N.CX P w) P w K mg base ["text", "lines", "found", "at", "line"] "read" (defScope s_read_z15) T.f_read_z15 cdv A outer s H E) rfl
    have hr1 := hr
    exact (ss_cons (ss_set 1 hN (so_val (sd_frz (so_split (sd_var 0) sd_str))))
    (ss_cons (ss_set 2 hN (so_lst sl_nil))
    (ss_cons (ss_for hp rfl (si_kill (si_enum (by rfl) T.z_enumerate (sl_cons (sd_slice (sd_var 1) sp_none (sp_some (sd_un r1_neg un_neg sd_int))) sl_nil))) (sg_tup rfl (sgs_cons (sg_name 3 hN) (sgs_cons (sg_name 4 hN) sgs_nil))) (sss_kill (ss_cons (ss_if (sb_cmp r2_eq (op_eqD hu) (by rfl) (sd_var 3) (sd_globI T.g_MOST_STEPS.choose_spec)) (ss_one (ss_raiseX rfl tk T.S_BadLine.oex T.S_BadLine.ini T.S_BadLine.ty ((okx_BadLine T).mono (by decide)) (by decide) hr T.b_BadLine___init__ T.g_BadLine (sl_cons (sd_bin r2_add op_adds (sd_var 3) sd_int) (sl_cons sd_int sl_nil)))) ss_nil)
    (ss_one (ss_expr (so_append 2 (sd_frz (so_call ((ok_step_in_z15 T).mono (by decide)) hr T.g_step_in_z15 T.F_step_in_z15.kp T.b_step_in_z15 tk (sl_cons (sd_frz (so_split (sd_var 4) sd_str)) (sl_cons (sd_bin r2_add op_adds (sd_var 3) sd_int) sl_nil))))))))))
    (ss_cons (ss_if (sb_cmp r2_ne (op_neD hu) (by rfl) (sd_ix r2_ix ix_seq (sd_var 1) (sd_un r1_neg un_neg sd_int)) sd_str) (ss_one (ss_raiseX rfl tk T.S_BadLine.oex T.S_BadLine.ini T.S_BadLine.ty ((okx_BadLine T).mono (by decide)) (by decide) hr T.b_BadLine___init__ T.g_BadLine (sl_cons (sd_callB rc_len call_lens (by rfl) T.z_len bt_len (sl_cons (sd_var 1) sl_nil)) (sl_cons sd_int sl_nil)))) ss_nil)
    (ss_one (ss_ret (so_make T.M_Script ((ok_Script___init__ T).mono (by decide)) hr1 T.g_Script T.b_Script___init__ tk (sl_cons (sd_callT rc_tuple call_tuple_of (by rfl) T.z_tuple bt_tuple (sl_cons (sd_var 2) sl_nil)) sl_nil))))))))
theorem sc_asking_z15 : FnScope ["seen", "choices", "found", "index", "one", "n", "text", "steps"] ["seen", "choices"] (defScope s_asking_z15) := ⟨rfl, rfl, rfl, by decide +kernel, rfl, by decide +kernel, by decide +kernel⟩
theorem ok_asking_z15 (T : Tx P K mg w) : FnOk P w K mg base (L2N.CX P w) 6 T.f_asking_z15 T.d_asking_z15 ["seen", "choices"] (spP K mg 2 F_asking_z15) := by
    refine (fn_P (N := ["seen", "choices", "found", "index", "one", "n", "text", "steps"]) (k := 5) (m := M_asking_z15) T.F_asking_z15 sc_asking_z15 fun cdv A outer s H E hr => ?_)
    have hN : (["seen", "choices", "found", "index", "one", "n", "text", "steps"] : List Str).Nodup := sc_asking_z15.nd
    have hu := hr.units
    have tk := L2N.takes_of (X := cxOf (L2N.CX P w) P w K mg base ["seen", "choices", "found", "index", "one", "n", "text", "steps"] "asking" (defScope s_asking_z15) T.f_asking_z15 cdv A outer s H E) (E := E) rfl rfl rfl rfl
    have hp := passes_of (X := cxOf (L2N.CX P w) P w K mg base ["seen", "choices", "found", "index", "one", "n", "text", "steps"] "asking" (defScope s_asking_z15) T.f_asking_z15 cdv A outer s H E) rfl
    exact (ss_cons (ss_set 2 hN (so_val (sd_frz (so_call ((ok_fitting_z15 T).mono (by decide)) hr T.g_fitting_z15 T.F_fitting_z15.kp T.b_fitting_z15 tk (sl_cons (sd_var 0) sl_nil)))))
    (ss_cons (ss_for hp rfl (si_kill (si_enum (by rfl) T.z_enumerate (sl_cons (sd_var 1) sl_nil))) (sg_tup rfl (sgs_cons (sg_name 3 hN) (sgs_cons (sg_name 4 hN) sgs_nil))) (sss_kill (ss_one (ss_if (sb_not (sb_val (sd_frz (so_call ((ok_is_choice_z15 T).mono (by decide)) hr T.g_is_choice_z15 T.F_is_choice_z15.kp T.b_is_choice_z15 tk (sl_cons (sd_var 4) sl_nil))))) (ss_one (ss_raiseX rfl tk T.S_BadChoice.oex T.S_BadChoice.ini T.S_BadChoice.ty ((okx_BadChoice T).mono (by decide)) (by decide) hr T.b_BadChoice___init__ T.g_BadChoice (sl_cons (sd_var 3) sl_nil))) ss_nil))))
    (ss_cons (ss_for hp rfl (si_kill (si_enum (by rfl) T.z_enumerate (sl_cons (sd_var 1) sl_nil))) (sg_tup rfl (sgs_cons (sg_name 3 hN) (sgs_cons (sg_tup rfl (sgs_cons (sg_name 5 hN) (sgs_cons (sg_name 6 hN) sgs_nil))) sgs_nil))) (sss_kill (ss_one (ss_if (sb_cmp r2_cmp op_gt (by rfl) (sd_lenSet rfl hu T.z_len T.z_set (sd_frz (so_lc [("steps", 7)] rfl hN (si_seq (sd_var 2)) (blkOk_by (by rfl)) (fun _ _ _ _ _ => (sg_name 7 hN)) (fun _ _ _ _ _ => sts_nil) (fun _ _ _ _ _ => (sd_frz (so_call ((ok_all_done T).mono (by decide)) hr T.g_all_done T.F_all_done.kp T.b_all_done takes_noneN (sl_cons (sd_var 7) (sl_cons (sd_var 5) (sl_cons (sd_var 6) sl_nil))))))))) sd_int) (ss_one (ss_ret (so_val (sd_var 3)))) ss_nil))))
    (ss_one (ss_ret (so_val sd_non))))))
theorem sc__law_led_z15 : FnScope ["_law_walk", "_law_script"] [] (defScope s__law_led_z15) := ⟨rfl, rfl, rfl, by decide +kernel, rfl, by decide +kernel, by decide +kernel⟩
theorem ok__law_led_z15 (T : Tx P K mg w) : FnOk P w K mg base (L2N.CX P w) 6 T.f__law_led_z15 T.d__law_led_z15 [] (spPG K mg 0 F__law_led_z15) := by
    refine (fn_PG (N := ["_law_walk", "_law_script"]) (k := 5) (M := M__law_led_z15) T.F__law_led_z15 sc__law_led_z15 fun cdv A outer s H E hr => ?_)
    have hN : (["_law_walk", "_law_script"] : List Str).Nodup := sc__law_led_z15.nd
    have hu := hr.units
    have tk := L2N.takes_of (X := cxOf (L2N.CX P w) P w K mg base ["_law_walk", "_law_script"] "_law_led" (defScope s__law_led_z15) T.f__law_led_z15 cdv A outer s H E) (E := E) rfl rfl rfl rfl
    have hp := passes_of (X := cxOf (L2N.CX P w) P w K mg base ["_law_walk", "_law_script"] "_law_led" (defScope s__law_led_z15) T.f__law_led_z15 cdv A outer s H E) rfl
    have hr1 := hr
    exact (ssg_head (ss_newW 0 hN T.M_Walk ((ok_Walk___init__ T).mono (by decide)) hr1 T.g_Walk T.b_Walk___init__ tk (sl_cons sd_int (sl_cons (sd_tup (sl_cons sd_int (sl_cons sd_int sl_nil))) sl_nil)))
    (ss_cons (ss_if (sb_cmp r2_ne (op_neD hu) (by rfl) (sd_frz (so_lst (sl_cons (sd_frz (so_methL 0 ⟨T.g_Walk, T.K_Walk, T.n_Walk_size, T.n_Walk_texts, T.n_Walk_noted⟩ T.w_do ((ok_Walk_do T).mono (by decide)) hr T.b_Walk_do tk (sl_cons (sd_tup (sl_cons sd_str (sl_cons sd_int sl_nil))) sl_nil))) (sl_cons (sd_frz (so_methL 0 ⟨T.g_Walk, T.K_Walk, T.n_Walk_size, T.n_Walk_texts, T.n_Walk_noted⟩ T.w_do ((ok_Walk_do T).mono (by decide)) hr T.b_Walk_do tk (sl_cons (sd_tup (sl_cons sd_str sl_nil)) sl_nil))) (sl_cons (sd_frz (so_methL0 0 ⟨T.g_Walk, T.K_Walk, T.n_Walk_size, T.n_Walk_texts, T.n_Walk_noted⟩ T.w_undo ((ok_Walk_undo T).mono (by decide)) hr T.b_Walk_undo tk)) sl_nil))))) (sd_frz (so_lst (sl_cons (sd_tup (sl_cons sd_int (sl_cons sd_int sl_nil))) (sl_cons (sd_tup (sl_cons sd_int (sl_cons sd_int sl_nil))) (sl_cons sd_bl sl_nil)))))) (ss_one (ss_ret (so_val sd_bl))) ss_nil)
    (ss_cons (ss_if (sb_cmp r2_ne (op_neD hu) (by rfl) (sd_frz (so_lst (sl_cons (sd_frz (so_methL0 0 ⟨T.g_Walk, T.K_Walk, T.n_Walk_size, T.n_Walk_texts, T.n_Walk_noted⟩ T.w_text ((ok_Walk_text T).mono (by decide)) hr T.b_Walk_text tk)) (sl_cons (sd_frz (so_methL0 0 ⟨T.g_Walk, T.K_Walk, T.n_Walk_size, T.n_Walk_texts, T.n_Walk_noted⟩ T.w_log ((ok_Walk_log T).mono (by decide)) hr T.b_Walk_log tk)) (sl_cons (sd_lenW 0 ⟨T.g_Walk, T.K_Walk, T.n_Walk_size, T.n_Walk_texts, T.n_Walk_noted⟩ ((ok_Walk___len__ T).mono (by decide)) hr1 T.l_Walk.1 T.l_Walk.2 T.b_Walk___len__ (by rfl) T.z_len) sl_nil))))) (sd_frz (so_lst (sl_cons (sd_tup (sl_cons sd_int (sl_cons sd_int sl_nil))) (sl_cons (sd_frz (so_lst (sl_cons (sd_tup (sl_cons sd_str (sl_cons sd_int sl_nil))) sl_nil))) (sl_cons sd_int sl_nil)))))) (ss_one (ss_ret (so_val sd_bl))) ss_nil)
    (ss_cons (ss_set 1 hN (so_val (sd_frz (so_make T.M_Script ((ok_Script___init__ T).mono (by decide)) hr1 T.g_Script T.b_Script___init__ tk (sl_cons (sd_tup (sl_cons (sd_tup (sl_cons sd_str (sl_cons (sd_un r1_neg un_neg sd_int) sl_nil))) (sl_cons (sd_tup (sl_cons sd_str sl_nil)) (sl_cons (sd_tup (sl_cons sd_str (sl_cons sd_int sl_nil))) sl_nil)))) sl_nil)))))
    (ss_one (ss_ret (so_val (sd_and (sd_cmp r2_eq (op_eqD hu) (by rfl) (sd_frz (so_call ((ok_write T).mono (by decide)) hr T.g_write T.F_write.kp T.b_write tk (sl_cons (sd_var 1) sl_nil))) sd_str) (sd_one (sd_cmp (r2_eqO T.g_Script) (op_eqO ((ok_Script___eq__ T).mono (by decide)) hr T.q_Script.1 T.q_Script.2 T.b_Script___eq__) (by rfl) (sd_frz (so_call ((ok_read_z15 T).mono (by decide)) hr T.g_read_z15 T.F_read_z15.kp T.b_read_z15 tk (sl_cons (sd_frz (so_call ((ok_write T).mono (by decide)) hr T.g_write T.F_write.kp T.b_write tk (sl_cons (sd_var 1) sl_nil))) sl_nil))) (sd_var 1)))))))))))
theorem sc__law_found_z15 : FnScope [] [] (defScope s__law_found_z15) := ⟨rfl, rfl, rfl, by decide +kernel, rfl, by decide +kernel, by decide +kernel⟩
theorem ok__law_found_z15 (T : Tx P K mg w) : FnOk P w K mg base (L2N.CX P w) 7 T.f__law_found_z15 T.d__law_found_z15 [] (spP K mg 0 F__law_found_z15) := by
    refine (fn_P (N := []) (k := 6) (m := M__law_found_z15) T.F__law_found_z15 sc__law_found_z15 fun cdv A outer s H E hr => ?_)
    have hN : ([] : List Str).Nodup := sc__law_found_z15.nd
    have hu := hr.units
    have tk := L2N.takes_of (X := cxOf (L2N.CX P w) P w K mg base [] "_law_found" (defScope s__law_found_z15) T.f__law_found_z15 cdv A outer s H E) (E := E) rfl rfl rfl rfl
    have hp := passes_of (X := cxOf (L2N.CX P w) P w K mg base [] "_law_found" (defScope s__law_found_z15) T.f__law_found_z15 cdv A outer s H E) rfl
    have hr1 := hr
    exact (ss_cons (ss_if (sb_cmp r2_ne (op_neD hu) (by rfl) (sd_frz (so_lst (sl_cons (sd_frz (so_call ((ok_rounds T).mono (by decide)) hr T.g_rounds T.F_rounds.kp T.b_rounds tk (sl_cons (sd_frz (so_make T.M_Script ((ok_Script___init__ T).mono (by decide)) hr1 T.g_Script T.b_Script___init__ tk (sl_cons (sd_tup (sl_cons (sd_tup (sl_cons sd_str (sl_cons sd_int sl_nil))) sl_nil)) sl_nil))) (sl_cons sd_int (sl_cons sd_int sl_nil))))) (sl_cons (sd_frz (so_call ((ok_rounds T).mono (by decide)) hr T.g_rounds T.F_rounds.kp T.b_rounds tk (sl_cons (sd_frz (so_make T.M_Script ((ok_Script___init__ T).mono (by decide)) hr1 T.g_Script T.b_Script___init__ tk (sl_cons (sd_tup (sl_cons (sd_tup (sl_cons sd_str (sl_cons sd_int sl_nil))) sl_nil)) sl_nil))) (sl_cons sd_int (sl_cons sd_int sl_nil))))) sl_nil)))) (sd_frz (so_lst (sl_cons sd_int (sl_cons sd_int sl_nil))))) (ss_one (ss_ret (so_val sd_bl))) ss_nil)
    (ss_cons (ss_if (sb_cmp r2_ne (op_neD hu) (by rfl) (sd_frz (so_lst (sl_cons (sd_frz (so_call ((ok_rounds T).mono (by decide)) hr T.g_rounds T.F_rounds.kp T.b_rounds tk (sl_cons (sd_frz (so_make T.M_Script ((ok_Script___init__ T).mono (by decide)) hr1 T.g_Script T.b_Script___init__ tk (sl_cons (sd_tup (sl_cons (sd_tup (sl_cons sd_str (sl_cons sd_int sl_nil))) sl_nil)) sl_nil))) (sl_cons sd_int (sl_cons sd_int sl_nil))))) (sl_cons (sd_frz (so_call ((ok_rounds T).mono (by decide)) hr T.g_rounds T.F_rounds.kp T.b_rounds tk (sl_cons (sd_frz (so_make T.M_Script ((ok_Script___init__ T).mono (by decide)) hr1 T.g_Script T.b_Script___init__ tk (sl_cons (sd_tup (sl_cons (sd_tup (sl_cons sd_str (sl_cons sd_int sl_nil))) sl_nil)) sl_nil))) (sl_cons sd_int (sl_cons sd_int sl_nil))))) sl_nil)))) (sd_frz (so_lst (sl_cons sd_int (sl_cons sd_non sl_nil))))) (ss_one (ss_ret (so_val sd_bl))) ss_nil)
    (ss_cons (ss_if (sb_cmp r2_ne (op_neD hu) (by rfl) (sd_frz (so_call ((ok_fitting_z15 T).mono (by decide)) hr T.g_fitting_z15 T.F_fitting_z15.kp T.b_fitting_z15 tk (sl_cons (sd_frz (so_lst (sl_cons (sd_tup (sl_cons sd_int (sl_cons (sd_tup (sl_cons sd_int (sl_cons sd_int sl_nil))) (sl_cons (sd_tup (sl_cons sd_int (sl_cons sd_int sl_nil))) sl_nil)))) sl_nil))) sl_nil))) (sd_frz (so_lst (sl_cons (sd_tup (sl_cons (sd_tup (sl_cons sd_str (sl_cons (sd_un r1_neg un_neg sd_int) sl_nil))) (sl_cons (sd_tup (sl_cons sd_str sl_nil)) sl_nil))) (sl_cons (sd_tup (sl_cons (sd_tup (sl_cons sd_str sl_nil)) (sl_cons (sd_tup (sl_cons sd_str (sl_cons sd_int sl_nil))) sl_nil))) sl_nil))))) (ss_one (ss_ret (so_val sd_bl))) ss_nil)
    (ss_one (ss_ret (so_val (sd_and (sd_cmp r2_eq (op_eqD hu) (by rfl) (sd_frz (so_call ((ok_asking_z15 T).mono (by decide)) hr T.g_asking_z15 T.F_asking_z15.kp T.b_asking_z15 tk (sl_cons (sd_frz (so_lst (sl_cons (sd_tup (sl_cons sd_int (sl_cons (sd_tup (sl_cons sd_int sl_nil)) (sl_cons (sd_tup (sl_cons sd_int sl_nil)) sl_nil)))) sl_nil))) (sl_cons (sd_frz (so_lst (sl_cons (sd_tup (sl_cons sd_int (sl_cons (sd_tup (sl_cons sd_int sl_nil)) sl_nil))) (sl_cons (sd_tup (sl_cons sd_int (sl_cons (sd_tup (sl_cons sd_int sl_nil)) sl_nil))) sl_nil)))) sl_nil)))) sd_int) (sd_one (sd_cmp r2_eq (op_eqD hu) (by rfl) (sd_callB rc_len call_lens (by rfl) T.z_len bt_len (sl_cons (sd_frz (so_call ((ok_fitting_z15 T).mono (by decide)) hr T.g_fitting_z15 T.F_fitting_z15.kp T.b_fitting_z15 tk (sl_cons (sd_frz (so_lst sl_nil)) sl_nil))) sl_nil)) sd_int)))))))))
theorem sc_sum_at : FnScope ["steps", "length", "place", "before", "step", "last", "here", "many", "often"] ["steps", "length", "place"] (defScope s_sum_at) := ⟨rfl, rfl, rfl, by decide +kernel, rfl, by decide +kernel, by decide +kernel⟩
theorem ok_sum_at (T : Tx P K mg w) : ∀ n : Nat, FnOk P w K mg base (L2N.CX P w) (n + 1) T.f_sum_at T.d_sum_at ["steps", "length", "place"] (spP K mg 3 (F_sum_at n))
  | 0 => never_P rfl
  | n + 1 => by
    have ih := ok_sum_at T n
    refine (fn_P (N := ["steps", "length", "place", "before", "step", "last", "here", "many", "often"]) (k := n + 1) (m := M_sum_at (F_sum_at n)) T.F_sum_at sc_sum_at fun cdv A outer s H E hr => ?_)
    have hN : (["steps", "length", "place", "before", "step", "last", "here", "many", "often"] : List Str).Nodup := sc_sum_at.nd
    have hu := hr.units
    have tk := L2N.takes_of (X := cxOf (L2N.CX P w) P w K mg base ["steps", "length", "place", "before", "step", "last", "here", "many", "often"] "sum_at" (defScope s_sum_at) T.f_sum_at cdv A outer s H E) (E := E) rfl rfl rfl rfl
    have hp := passes_of (X := cxOf (L2N.CX P w) P w K mg base ["steps", "length", "place", "before", "step", "last", "here", "many", "often"] "sum_at" (defScope s_sum_at) T.f_sum_at cdv A outer s H E) rfl
    exact (ss_cons (ss_if (sb_cmp r2_eq (op_eqD hu) (by rfl) (sd_var 0) (sd_tup sl_nil)) (ss_one (ss_ret (so_val (sd_tup (sl_cons sd_int (sl_cons (sd_frz (so_disp (SPs.cons (sd_var 2) sd_int SPs.nil))) sl_nil)))))) ss_nil)
    (ss_cons (ss_par 3 4 rfl hN (sl_cons (sd_slice (sd_var 0) sp_none (sp_some (sd_un r1_neg un_neg sd_int))) (sl_cons (sd_ix r2_ix ix_seq (sd_var 0) (sd_un r1_neg un_neg sd_int)) sl_nil)))
    (ss_cons (ss_set 5 hN (so_val (sd_bin r2_sub op_sub (sd_var 1) sd_int)))
    (ss_cons (ss_if (sb_cmp r2_eq (op_eqD hu) (by rfl) (sd_ix r2_ix ix_seq (sd_var 4) sd_int) sd_str) (ss_one (ss_ret (so_call ih hr T.g_sum_at T.F_sum_at.kp T.b_sum_at tk (sl_cons (sd_var 3) (sl_cons (sd_var 1) (sl_cons (sd_bin r2_sub op_sub (sd_var 5) (sd_var 2)) sl_nil)))))) ss_nil)
    (ss_cons (ss_set 6 hN (so_val (sd_frz (so_call ih hr T.g_sum_at T.F_sum_at.kp T.b_sum_at tk (sl_cons (sd_var 3) (sl_cons (sd_var 1) (sl_cons (sd_var 2) sl_nil)))))))
    (ss_cons (ss_if (sb_cmp r2_eq (op_eqD hu) (by rfl) (sd_ix r2_ix ix_seq (sd_var 4) sd_int) sd_str) (ss_one (ss_ret (so_call ((ok_with_more T).mono (by omega)) hr T.g_with_more T.F_with_more.kp T.b_with_more tk (sl_cons (sd_tup (sl_cons (sd_un r1_neg un_neg sd_int) (sl_cons (sd_frz so_dict0) sl_nil))) (sl_cons (sd_var 6) (sl_cons (sd_un r1_neg un_neg sd_int) sl_nil)))))) ss_nil)
    (ss_cons (ss_set 7 hN (so_val (sd_ix r2_ix ix_seq (sd_var 4) sd_int)))
    (ss_cons (ss_if (sb_cmp r2_eq (op_eqD hu) (by rfl) (sd_ix r2_ix ix_seq (sd_var 4) sd_int) sd_str) (ss_one (ss_ret (so_call ((ok_with_more T).mono (by omega)) hr T.g_with_more T.F_with_more.kp T.b_with_more tk (sl_cons (sd_tup (sl_cons sd_int (sl_cons (sd_frz so_dict0) sl_nil))) (sl_cons (sd_var 6) (sl_cons (sd_var 7) sl_nil)))))) ss_nil)
    (ss_cons (ss_if (sb_cmp r2_eq (op_eqD hu) (by rfl) (sd_ix r2_ix ix_seq (sd_var 4) sd_int) sd_str) (ss_one (ss_ret (so_val (sd_if (sb_cmp r2_cmp op_gt (by rfl) (sd_var 2) sd_int) (sd_frz (so_call ((ok_with_more T).mono (by omega)) hr T.g_with_more T.F_with_more.kp T.b_with_more tk (sl_cons (sd_var 6) (sl_cons (sd_frz (so_call ih hr T.g_sum_at T.F_sum_at.kp T.b_sum_at tk (sl_cons (sd_var 3) (sl_cons (sd_var 1) (sl_cons (sd_bin r2_sub op_sub (sd_var 2) sd_int) sl_nil))))) (sl_cons (sd_var 7) sl_nil))))) (sd_var 6))))) ss_nil)
    (ss_cons (ss_if (sb_cmp r2_eq (op_eqD hu) (by rfl) (sd_ix r2_ix ix_seq (sd_var 4) sd_int) sd_str) (ss_one (ss_ret (so_val (sd_if (sb_cmp r2_cmp op_lt (by rfl) (sd_var 2) (sd_var 5)) (sd_frz (so_call ((ok_with_more T).mono (by omega)) hr T.g_with_more T.F_with_more.kp T.b_with_more tk (sl_cons (sd_var 6) (sl_cons (sd_frz (so_call ih hr T.g_sum_at T.F_sum_at.kp T.b_sum_at tk (sl_cons (sd_var 3) (sl_cons (sd_var 1) (sl_cons (sd_bin r2_add op_adds (sd_var 2) sd_int) sl_nil))))) (sl_cons (sd_var 7) sl_nil))))) (sd_var 6))))) ss_nil)
    (ss_cons (ss_set 8 hN (so_val (sd_dix (hu_of hr) (sd_frz (so_disp (SPs.cons sd_str sd_int (SPs.cons sd_str (sd_var 2) (SPs.cons sd_str (sd_bin r2_sub op_sub (sd_var 5) (sd_var 2)) SPs.nil))))) (sd_ix r2_ix ix_seq (sd_var 4) sd_int))))
    (ss_one (ss_ret (so_call ((ok_with_more T).mono (by omega)) hr T.g_with_more T.F_with_more.kp T.b_with_more tk (sl_cons (sd_var 6) (sl_cons (sd_tup (sl_cons (sd_var 8) (sl_cons (sd_frz so_dict0) sl_nil))) (sl_cons (sd_var 7) sl_nil)))))))))))))))))
theorem sc_letter : FnScope ["script", "length", "place", "number", "terms", "one"] ["script", "length", "place"] (defScope s_letter) := ⟨rfl, rfl, rfl, by decide +kernel, rfl, by decide +kernel, by decide +kernel⟩
theorem ok_letter (T : Tx P K mg w) : FnOk P w K mg base (L2N.CX P w) 14 T.f_letter T.d_letter ["script", "length", "place"] (spP K mg 3 F_letter) := by
    refine (fn_P (N := ["script", "length", "place", "number", "terms", "one"]) (k := 13) (m := M_letter) T.F_letter sc_letter fun cdv A outer s H E hr => ?_)
    have hN : (["script", "length", "place", "number", "terms", "one"] : List Str).Nodup := sc_letter.nd
    have hu := hr.units
    have tk := L2N.takes_of (X := cxOf (L2N.CX P w) P w K mg base ["script", "length", "place", "number", "terms", "one"] "letter" (defScope s_letter) T.f_letter cdv A outer s H E) (E := E) rfl rfl rfl rfl
    have hp := passes_of (X := cxOf (L2N.CX P w) P w K mg base ["script", "length", "place", "number", "terms", "one"] "letter" (defScope s_letter) T.f_letter cdv A outer s H E) rfl
    exact (ss_cons (ss_if (sb_not (sb_val (sd_frz (so_call ((ok_is_from T).mono (by decide)) hr T.g_is_from T.F_is_from.kp T.b_is_from tk (sl_cons (sd_var 1) (sl_cons sd_int (sl_cons (sd_globI T.g_GREATEST.choose_spec) sl_nil))))))) (ss_one (ss_raise0 rfl tk excF T.x_BadLength.1 T.g_BadLength T.x_BadLength.2.1 T.x_BadLength.2.2.1 T.x_BadLength.2.2.2)) ss_nil)
    (ss_cons (ss_if (sb_not (sb_val (sd_frz (so_call ((ok_is_from T).mono (by decide)) hr T.g_is_from T.F_is_from.kp T.b_is_from tk (sl_cons (sd_var 2) (sl_cons sd_int (sl_cons (sd_bin r2_sub op_sub (sd_var 1) sd_int) sl_nil))))))) (ss_one (ss_raise0 rfl tk excF T.x_BadPlace.1 T.g_BadPlace T.x_BadPlace.2.1 T.x_BadPlace.2.2.1 T.x_BadPlace.2.2.2)) ss_nil)
    (ss_cons (ss_asg (sd_frz (so_call ((ok_sum_at T 12).mono (by decide)) hr T.g_sum_at T.F_sum_at.kp T.b_sum_at tk (sl_cons (sd_fld (sd_var 0) T.g_Script T.K_Script T.n_Script_rows) (sl_cons (sd_var 1) (sl_cons (sd_var 2) sl_nil))))) (sg_tup rfl (sgs_cons (sg_name 3 hN) (sgs_cons (sg_name 4 hN) sgs_nil))))
    (ss_one (ss_ret (so_val (sd_tup (sl_cons (sd_var 3) (sl_cons (sd_callT rc_tuple call_tuple_of (by rfl) T.z_tuple bt_tuple (sl_cons (sd_frz (so_lc [("one", 5)] rfl hN (si_seq (sd_frz (so_callB rl_sorted (call_sortU rfl) (by rfl) T.z_sorted bt_sorted (sl_cons (sd_var 4) sl_nil)))) (blkOk_by (by rfl)) (fun _ _ _ _ _ => (sg_name 5 hN)) (fun _ _ _ _ _ => (sts_one (sb_cmp r2_ne (op_neD hu) (by rfl) (sd_dix (hu_of hr) (sd_var 4) (sd_var 5)) sd_int))) (fun _ _ _ _ _ => (sd_tup (sl_cons (sd_var 5) (sl_cons (sd_dix (hu_of hr) (sd_var 4) (sd_var 5)) sl_nil)))))) sl_nil)) sl_nil)))))))))
theorem sc_unlike_sums : FnScope ["one", "other", "length", "place"] ["one", "other", "length"] (defScope s_unlike_sums) := ⟨rfl, rfl, rfl, by decide +kernel, rfl, by decide +kernel, by decide +kernel⟩
theorem ok_unlike_sums (T : Tx P K mg w) : FnOk P w K mg base (L2N.CX P w) 14 T.f_unlike_sums T.d_unlike_sums ["one", "other", "length"] (spP K mg 3 F_unlike_sums) := by
    refine (fn_P (N := ["one", "other", "length", "place"]) (k := 13) (m := M_unlike_sums) T.F_unlike_sums sc_unlike_sums fun cdv A outer s H E hr => ?_)
    have hN : (["one", "other", "length", "place"] : List Str).Nodup := sc_unlike_sums.nd
    have hu := hr.units
    have tk := L2N.takes_of (X := cxOf (L2N.CX P w) P w K mg base ["one", "other", "length", "place"] "unlike_sums" (defScope s_unlike_sums) T.f_unlike_sums cdv A outer s H E) (E := E) rfl rfl rfl rfl
    have hp := passes_of (X := cxOf (L2N.CX P w) P w K mg base ["one", "other", "length", "place"] "unlike_sums" (defScope s_unlike_sums) T.f_unlike_sums cdv A outer s H E) rfl
    exact (ss_one (ss_ret (so_lc [("place", 3)] rfl hN (si_r1 (by rfl) T.z_range (sl_cons (sd_var 2) sl_nil)) (blkOk_by (by rfl)) (fun _ _ _ _ _ => (sg_name 3 hN)) (fun _ _ _ _ _ => sts_nil) (fun _ _ _ _ _ => (sd_frz (so_call ((ok_with_more T).mono (by decide)) hr T.g_with_more T.F_with_more.kp T.b_with_more takes_noneN (sl_cons (sd_frz (so_call ((ok_sum_at T 12).mono (by decide)) hr T.g_sum_at T.F_sum_at.kp T.b_sum_at takes_noneN (sl_cons (sd_var 0) (sl_cons (sd_var 2) (sl_cons (sd_var 3) sl_nil))))) (sl_cons (sd_frz (so_call ((ok_sum_at T 12).mono (by decide)) hr T.g_sum_at T.F_sum_at.kp T.b_sum_at takes_noneN (sl_cons (sd_var 1) (sl_cons (sd_var 2) (sl_cons (sd_var 3) sl_nil))))) (sl_cons (sd_un r1_neg un_neg sd_int) sl_nil)))))))))
theorem sc_all_unlike : FnScope ["one", "other", "reach", "length"] ["one", "other", "reach"] (defScope s_all_unlike) := ⟨rfl, rfl, rfl, by decide +kernel, rfl, by decide +kernel, by decide +kernel⟩
theorem ok_all_unlike (T : Tx P K mg w) : FnOk P w K mg base (L2N.CX P w) 15 T.f_all_unlike T.d_all_unlike ["one", "other", "reach"] (spP K mg 3 F_all_unlike) := by
    refine (fn_P (N := ["one", "other", "reach", "length"]) (k := 14) (m := M_all_unlike) T.F_all_unlike sc_all_unlike fun cdv A outer s H E hr => ?_)
    have hN : (["one", "other", "reach", "length"] : List Str).Nodup := sc_all_unlike.nd
    have hu := hr.units
    have tk := L2N.takes_of (X := cxOf (L2N.CX P w) P w K mg base ["one", "other", "reach", "length"] "all_unlike" (defScope s_all_unlike) T.f_all_unlike cdv A outer s H E) (E := E) rfl rfl rfl rfl
    have hp := passes_of (X := cxOf (L2N.CX P w) P w K mg base ["one", "other", "reach", "length"] "all_unlike" (defScope s_all_unlike) T.f_all_unlike cdv A outer s H E) rfl
    exact (ss_one (ss_ret (so_lc [("length", 3)] rfl hN (si_r2 (by rfl) T.z_range (sl_cons sd_int (sl_cons (sd_bin r2_add op_adds (sd_bin r2_mul op_muls sd_int (sd_var 2)) sd_int) sl_nil))) (blkOk_by (by rfl)) (fun _ _ _ _ _ => (sg_name 3 hN)) (fun _ _ _ _ _ => sts_nil) (fun _ _ _ _ _ => (sd_frz (so_call ((ok_unlike_sums T).mono (by decide)) hr T.g_unlike_sums T.F_unlike_sums.kp T.b_unlike_sums takes_noneN (sl_cons (sd_var 0) (sl_cons (sd_var 1) (sl_cons (sd_var 3) sl_nil)))))))))
theorem sc__law_shifts_z15 : FnScope ["_law_script", "_law_many"] [] (defScope s__law_shifts_z15) := ⟨rfl, rfl, rfl, by decide +kernel, rfl, by decide +kernel, by decide +kernel⟩
theorem ok__law_shifts_z15 (T : Tx P K mg w) : FnOk P w K mg base (L2N.CX P w) 15 T.f__law_shifts_z15 T.d__law_shifts_z15 [] (spP K mg 0 F__law_shifts_z15) := by
    refine (fn_P (N := ["_law_script", "_law_many"]) (k := 14) (m := M__law_shifts_z15) T.F__law_shifts_z15 sc__law_shifts_z15 fun cdv A outer s H E hr => ?_)
    have hN : (["_law_script", "_law_many"] : List Str).Nodup := sc__law_shifts_z15.nd
    have hu := hr.units
    have tk := L2N.takes_of (X := cxOf (L2N.CX P w) P w K mg base ["_law_script", "_law_many"] "_law_shifts" (defScope s__law_shifts_z15) T.f__law_shifts_z15 cdv A outer s H E) (E := E) rfl rfl rfl rfl
    have hp := passes_of (X := cxOf (L2N.CX P w) P w K mg base ["_law_script", "_law_many"] "_law_shifts" (defScope s__law_shifts_z15) T.f__law_shifts_z15 cdv A outer s H E) rfl
    have hr1 := hr
    exact (ss_cons (ss_set 0 hN (so_val (sd_frz (so_make T.M_Script ((ok_Script___init__ T).mono (by decide)) hr1 T.g_Script T.b_Script___init__ tk (sl_cons (sd_tup (sl_cons (sd_tup (sl_cons sd_str (sl_cons sd_int sl_nil))) (sl_cons (sd_tup (sl_cons sd_str sl_nil)) (sl_cons (sd_tup (sl_cons sd_str sl_nil)) (sl_cons (sd_tup (sl_cons sd_str (sl_cons sd_int sl_nil))) sl_nil))))) sl_nil)))))
    (ss_cons (ss_set 1 hN (so_val (sd_bin r2_pow op_pow sd_int sd_int)))
    (ss_cons (ss_if (sb_w (sw_or (sb_cmp r2_ne (op_neD hu) (by rfl) (sd_frz (so_call ((ok_shifted T).mono (by decide)) hr T.g_shifted T.F_shifted.kp T.b_shifted tk (sl_cons (sd_var 0) (sl_cons sd_int (sl_cons (sd_tup (sl_cons sd_int (sl_cons sd_int (sl_cons sd_int sl_nil)))) sl_nil))))) (sd_tup (sl_cons sd_int (sl_cons sd_int (sl_cons sd_int sl_nil))))) (sw_or1 (sb_cmp r2_ne (op_neD hu) (by rfl) (sd_ix r2_ix ix_seq (sd_frz (so_call ((ok_trace T).mono (by decide)) hr T.g_trace T.F_trace.kp T.b_trace tk (sl_cons (sd_var 0) (sl_cons sd_int (sl_cons (sd_tup (sl_cons sd_int (sl_cons sd_int (sl_cons sd_int sl_nil)))) sl_nil))))) sd_int) (sd_tup (sl_cons sd_int (sl_cons sd_int (sl_cons sd_int sl_nil)))))))) (ss_one (ss_ret (so_val sd_bl))) ss_nil)
    (ss_cons (ss_if (sb_cmp r2_ne (op_neD hu) (by rfl) (sd_frz (so_call ((ok_shifted T).mono (by decide)) hr T.g_shifted T.F_shifted.kp T.b_shifted tk (sl_cons (sd_frz (so_make T.M_Script ((ok_Script___init__ T).mono (by decide)) hr1 T.g_Script T.b_Script___init__ tk (sl_cons (sd_tup (sl_cons (sd_tup (sl_cons sd_str (sl_cons sd_int sl_nil))) sl_nil)) sl_nil))) (sl_cons (sd_var 1) (sl_cons (sd_tup (sl_cons (sd_bin r2_sub op_sub (sd_var 1) sd_int) sl_nil)) sl_nil))))) (sd_tup (sl_cons (sd_bin r2_sub op_sub (sd_var 1) sd_int) sl_nil))) (ss_one (ss_ret (so_val sd_bl))) ss_nil)
    (ss_cons (ss_if (sb_cmp r2_ne (op_neD hu) (by rfl) (sd_frz (so_call ((ok_letter T).mono (by decide)) hr T.g_letter T.F_letter.kp T.b_letter tk (sl_cons (sd_frz (so_make T.M_Script ((ok_Script___init__ T).mono (by decide)) hr1 T.g_Script T.b_Script___init__ tk (sl_cons (sd_tup (sl_cons (sd_tup (sl_cons sd_str (sl_cons sd_int sl_nil))) (sl_cons (sd_tup (sl_cons sd_str (sl_cons sd_int sl_nil))) sl_nil))) sl_nil))) (sl_cons (sd_var 1) (sl_cons sd_int sl_nil))))) (sd_tup (sl_cons sd_int (sl_cons (sd_tup (sl_cons (sd_tup (sl_cons sd_int (sl_cons sd_int sl_nil))) (sl_cons (sd_tup (sl_cons sd_int (sl_cons sd_int sl_nil))) (sl_cons (sd_tup (sl_cons sd_int (sl_cons sd_int sl_nil))) sl_nil)))) sl_nil)))) (ss_one (ss_ret (so_val sd_bl))) ss_nil)
    (ss_cons (ss_if (sb_cmp r2_ne (op_neD hu) (by rfl) (sd_frz (so_call ((ok_letter T).mono (by decide)) hr T.g_letter T.F_letter.kp T.b_letter tk (sl_cons (sd_var 0) (sl_cons sd_int (sl_cons sd_int sl_nil))))) (sd_tup (sl_cons (sd_un r1_neg un_neg sd_int) (sl_cons (sd_tup (sl_cons (sd_tup (sl_cons sd_int (sl_cons (sd_un r1_neg un_neg sd_int) sl_nil))) (sl_cons (sd_tup (sl_cons sd_int (sl_cons (sd_un r1_neg un_neg sd_int) sl_nil))) sl_nil))) sl_nil)))) (ss_one (ss_ret (so_val sd_bl))) ss_nil)
    (ss_one (ss_ret (so_val (sd_cmp r2_eq (op_eqD hu) (by rfl) (sd_frz (so_call ((ok_letter T).mono (by decide)) hr T.g_letter T.F_letter.kp T.b_letter tk (sl_cons (sd_frz (so_make T.M_Script ((ok_Script___init__ T).mono (by decide)) hr1 T.g_Script T.b_Script___init__ tk (sl_cons (sd_tup (sl_cons (sd_tup (sl_cons sd_str (sl_cons sd_int sl_nil))) (sl_cons (sd_tup (sl_cons sd_str sl_nil)) sl_nil))) sl_nil))) (sl_cons (sd_var 1) (sl_cons sd_int sl_nil))))) (sd_tup (sl_cons (sd_bin r2_sub op_sub sd_int (sd_bin r2_mul op_muls sd_int (sd_var 1))) (sl_cons (sd_tup (sl_cons (sd_tup (sl_cons sd_int (sl_cons (sd_un r1_neg un_neg sd_int) sl_nil))) sl_nil)) sl_nil)))))))))))))
theorem sc_first_unlike : FnScope ["one", "other", "reach", "every", "common", "sums", "n", "text"] ["one", "other", "reach"] (defScope s_first_unlike) := ⟨rfl, rfl, rfl, by decide +kernel, rfl, by decide +kernel, by decide +kernel⟩
theorem ok_first_unlike (T : Tx P K mg w) : FnOk P w K mg base (L2N.CX P w) 16 T.f_first_unlike T.d_first_unlike ["one", "other", "reach"] (spP K mg 3 F_first_unlike) := by
    refine (fn_P (N := ["one", "other", "reach", "every", "common", "sums", "n", "text"]) (k := 15) (m := M_first_unlike) T.F_first_unlike sc_first_unlike fun cdv A outer s H E hr => ?_)
    have hN : (["one", "other", "reach", "every", "common", "sums", "n", "text"] : List Str).Nodup := sc_first_unlike.nd
    have hu := hr.units
    have tk := L2N.takes_of (X := cxOf (L2N.CX P w) P w K mg base ["one", "other", "reach", "every", "common", "sums", "n", "text"] "first_unlike" (defScope s_first_unlike) T.f_first_unlike cdv A outer s H E) (E := E) rfl rfl rfl rfl
    have hp := passes_of (X := cxOf (L2N.CX P w) P w K mg base ["one", "other", "reach", "every", "common", "sums", "n", "text"] "first_unlike" (defScope s_first_unlike) T.f_first_unlike cdv A outer s H E) rfl
    exact (ss_cons (ss_set 3 hN (so_val (sd_frz (so_call ((ok_all_unlike T).mono (by decide)) hr T.g_all_unlike T.F_all_unlike.kp T.b_all_unlike tk (sl_cons (sd_var 0) (sl_cons (sd_var 1) (sl_cons (sd_var 2) sl_nil)))))))
    (ss_cons (ss_set 4 hN (so_val sd_int))
    (ss_cons (ss_for hp rfl (si_kill (si_seq (sd_var 3))) (sg_name 5 hN) (sss_kill (ss_one (ss_set 4 hN (so_val (sd_frz (so_call ((ok_divisor T).mono (by decide)) hr T.g_divisor T.F_divisor.kp T.b_divisor tk (sl_cons (sd_var 4) (sl_cons (sd_frz (so_call ((ok_common_of T).mono (by decide)) hr T.g_common_of T.F_common_of.kp T.b_common_of tk (sl_cons (sd_var 5) sl_nil))) sl_nil)))))))))
    (ss_cons (ss_if (sb_cmp r2_eq (op_eqD hu) (by rfl) (sd_var 4) sd_int) (ss_one (ss_ret (so_val sd_non))) ss_nil)
    (ss_cons (ss_set 6 hN (so_val sd_int))
    (ss_cons (ss_pre (ss_while (fuel := (fun _ => 1000000000000000000000000000000)) hp (sb_cmp r2_eq (op_eqD hu) (by rfl) (sd_bin r2_mod op_mod (sd_var 4) (sd_var 6)) sd_int) (sss_kill (ss_one (ss_aug 6 ip_add hN sd_int)))))
    (ss_cons (ss_for hp rfl (si_kill (si_seq (sd_var 3))) (sg_name 5 hN) (sss_kill (ss_cons (ss_set 7 hN (so_val (sd_frz (so_call ((ok_text_for T).mono (by decide)) hr T.g_text_for T.F_text_for.kp T.b_text_for tk (sl_cons (sd_var 5) (sl_cons (sd_var 6) sl_nil))))))
    (ss_one (ss_if (sb_cmp r2_notN op_notN (by rfl) (sd_var 7) sd_non) (ss_one (ss_ret (so_val (sd_tup (sl_cons (sd_var 6) (sl_cons (sd_var 7) sl_nil)))))) ss_nil)))))
    (ss_one (ss_ret (so_val sd_non))))))))))
theorem sc_parting : FnScope ["one", "other"] ["one", "other"] (defScope s_parting) := ⟨rfl, rfl, rfl, by decide +kernel, rfl, by decide +kernel, by decide +kernel⟩
theorem ok_parting (T : Tx P K mg w) : FnOk P w K mg base (L2N.CX P w) 17 T.f_parting T.d_parting ["one", "other"] (spP K mg 2 F_parting) := by
    refine (fn_P (N := ["one", "other"]) (k := 16) (m := M_parting) T.F_parting sc_parting fun cdv A outer s H E hr => ?_)
    have hN : (["one", "other"] : List Str).Nodup := sc_parting.nd
    have hu := hr.units
    have tk := L2N.takes_of (X := cxOf (L2N.CX P w) P w K mg base ["one", "other"] "parting" (defScope s_parting) T.f_parting cdv A outer s H E) (E := E) rfl rfl rfl rfl
    have hp := passes_of (X := cxOf (L2N.CX P w) P w K mg base ["one", "other"] "parting" (defScope s_parting) T.f_parting cdv A outer s H E) rfl
    exact (ss_one (ss_ret (so_call ((ok_first_unlike T).mono (by decide)) hr T.g_first_unlike T.F_first_unlike.kp T.b_first_unlike tk (sl_cons (sd_fld (sd_var 0) T.g_Script T.K_Script T.n_Script_rows) (sl_cons (sd_fld (sd_var 1) T.g_Script T.K_Script T.n_Script_rows) (sl_cons (sd_callB rc_max (call_maxs rfl) (by rfl) T.z_max bt_max (sl_cons (sd_frz (so_call ((ok_wide T).mono (by decide)) hr T.g_wide T.F_wide.kp T.b_wide tk (sl_cons (sd_fld (sd_var 0) T.g_Script T.K_Script T.n_Script_rows) sl_nil))) (sl_cons (sd_frz (so_call ((ok_wide T).mono (by decide)) hr T.g_wide T.F_wide.kp T.b_wide tk (sl_cons (sd_fld (sd_var 1) T.g_Script T.K_Script T.n_Script_rows) sl_nil))) sl_nil))) sl_nil))))))
theorem sc_undone : FnScope ["one", "other", "steps"] ["one", "other"] (defScope s_undone) := ⟨rfl, rfl, rfl, by decide +kernel, rfl, by decide +kernel, by decide +kernel⟩
theorem ok_undone (T : Tx P K mg w) : FnOk P w K mg base (L2N.CX P w) 17 T.f_undone T.d_undone ["one", "other"] (spP K mg 2 F_undone) := by
    refine (fn_P (N := ["one", "other", "steps"]) (k := 16) (m := M_undone) T.F_undone sc_undone fun cdv A outer s H E hr => ?_)
    have hN : (["one", "other", "steps"] : List Str).Nodup := sc_undone.nd
    have hu := hr.units
    have tk := L2N.takes_of (X := cxOf (L2N.CX P w) P w K mg base ["one", "other", "steps"] "undone" (defScope s_undone) T.f_undone cdv A outer s H E) (E := E) rfl rfl rfl rfl
    have hp := passes_of (X := cxOf (L2N.CX P w) P w K mg base ["one", "other", "steps"] "undone" (defScope s_undone) T.f_undone cdv A outer s H E) rfl
    exact (ss_cons (ss_set 2 hN (so_val (sd_bin r2_add op_adds (sd_fld (sd_var 0) T.g_Script T.K_Script T.n_Script_rows) (sd_fld (sd_var 1) T.g_Script T.K_Script T.n_Script_rows))))
    (ss_one (ss_ret (so_call ((ok_first_unlike T).mono (by decide)) hr T.g_first_unlike T.F_first_unlike.kp T.b_first_unlike tk (sl_cons (sd_var 2) (sl_cons (sd_tup sl_nil) (sl_cons (sd_frz (so_call ((ok_wide T).mono (by decide)) hr T.g_wide T.F_wide.kp T.b_wide tk (sl_cons (sd_var 2) sl_nil))) sl_nil)))))))
theorem sc_swaps : FnScope ["script", "rows", "found", "index", "other"] ["script"] (defScope s_swaps) := ⟨rfl, rfl, rfl, by decide +kernel, rfl, by decide +kernel, by decide +kernel⟩
theorem ok_swaps (T : Tx P K mg w) : FnOk P w K mg base (L2N.CX P w) 17 T.f_swaps T.d_swaps ["script"] (spP K mg 1 F_swaps) := by
    refine (fn_P (N := ["script", "rows", "found", "index", "other"]) (k := 16) (m := M_swaps) T.F_swaps sc_swaps fun cdv A outer s H E hr => ?_)
    have hN : (["script", "rows", "found", "index", "other"] : List Str).Nodup := sc_swaps.nd
    have hu := hr.units
    have tk := L2N.takes_of (X := cxOf (L2N.CX P w) P w K mg base ["script", "rows", "found", "index", "other"] "swaps" (defScope s_swaps) T.f_swaps cdv A outer s H E) (E := E) rfl rfl rfl rfl
    have hp := passes_of (X := cxOf (L2N.CX P w) P w K mg base ["script", "rows", "found", "index", "other"] "swaps" (defScope s_swaps) T.f_swaps cdv A outer s H E) rfl
    exact (ss_cons (ss_set 1 hN (so_val (sd_fld (sd_var 0) T.g_Script T.K_Script T.n_Script_rows)))
    (ss_cons (ss_set 2 hN (so_lst sl_nil))
    (ss_cons (ss_for hp rfl (si_kill (si_r1 (by rfl) T.z_range (sl_cons (sd_bin r2_sub op_sub (sd_callB rc_len call_lens (by rfl) T.z_len bt_len (sl_cons (sd_var 1) sl_nil)) sd_int) sl_nil))) (sg_name 3 hN) (sss_kill (ss_cons (ss_set 4 hN (so_val (sd_tup (sl_star (sd_slice (sd_var 1) sp_none (sp_some (sd_var 3))) (sl_cons (sd_ix r2_ix ix_seq (sd_var 1) (sd_bin r2_add op_adds (sd_var 3) sd_int)) (sl_cons (sd_ix r2_ix ix_seq (sd_var 1) (sd_var 3)) (sl_star (sd_slice (sd_var 1) (sp_some (sd_bin r2_add op_adds (sd_var 3) sd_int)) sp_none) sl_nil)))))))
    (ss_one (ss_if (sb_cmp r2_isN op_isN (by rfl) (sd_frz (so_call ((ok_first_unlike T).mono (by decide)) hr T.g_first_unlike T.F_first_unlike.kp T.b_first_unlike tk (sl_cons (sd_var 1) (sl_cons (sd_var 4) (sl_cons (sd_frz (so_call ((ok_wide T).mono (by decide)) hr T.g_wide T.F_wide.kp T.b_wide tk (sl_cons (sd_var 1) sl_nil))) sl_nil))))) sd_non) (ss_one (ss_expr (so_append 2 (sd_var 3)))) ss_nil)))))
    (ss_one (ss_ret (so_take 2))))))
theorem sc_idle : FnScope ["script", "rows", "found", "one", "other", "left"] ["script"] (defScope s_idle) := ⟨rfl, rfl, rfl, by decide +kernel, rfl, by decide +kernel, by decide +kernel⟩
theorem ok_idle (T : Tx P K mg w) : FnOk P w K mg base (L2N.CX P w) 17 T.f_idle T.d_idle ["script"] (spP K mg 1 F_idle) := by
    refine (fn_P (N := ["script", "rows", "found", "one", "other", "left"]) (k := 16) (m := M_idle) T.F_idle sc_idle fun cdv A outer s H E hr => ?_)
    have hN : (["script", "rows", "found", "one", "other", "left"] : List Str).Nodup := sc_idle.nd
    have hu := hr.units
    have tk := L2N.takes_of (X := cxOf (L2N.CX P w) P w K mg base ["script", "rows", "found", "one", "other", "left"] "idle" (defScope s_idle) T.f_idle cdv A outer s H E) (E := E) rfl rfl rfl rfl
    have hp := passes_of (X := cxOf (L2N.CX P w) P w K mg base ["script", "rows", "found", "one", "other", "left"] "idle" (defScope s_idle) T.f_idle cdv A outer s H E) rfl
    exact (ss_cons (ss_set 1 hN (so_val (sd_fld (sd_var 0) T.g_Script T.K_Script T.n_Script_rows)))
    (ss_cons (ss_set 2 hN (so_lst sl_nil))
    (ss_cons (ss_for hp rfl (si_kill (si_r1 (by rfl) T.z_range (sl_cons (sd_callB rc_len call_lens (by rfl) T.z_len bt_len (sl_cons (sd_var 1) sl_nil)) sl_nil))) (sg_name 3 hN) (sss_kill (ss_one (ss_for hp rfl (si_kill (si_r2 (by rfl) T.z_range (sl_cons (sd_bin r2_add op_adds (sd_var 3) sd_int) (sl_cons (sd_callB rc_len call_lens (by rfl) T.z_len bt_len (sl_cons (sd_var 1) sl_nil)) sl_nil)))) (sg_name 4 hN) (sss_kill (ss_cons (ss_set 5 hN (so_val (sd_bin r2_add op_adds (sd_bin r2_add op_adds (sd_slice (sd_var 1) sp_none (sp_some (sd_var 3))) (sd_slice (sd_var 1) (sp_some (sd_bin r2_add op_adds (sd_var 3) sd_int)) (sp_some (sd_var 4)))) (sd_slice (sd_var 1) (sp_some (sd_bin r2_add op_adds (sd_var 4) sd_int)) sp_none))))
    (ss_one (ss_if (sb_cmp r2_isN op_isN (by rfl) (sd_frz (so_call ((ok_first_unlike T).mono (by decide)) hr T.g_first_unlike T.F_first_unlike.kp T.b_first_unlike tk (sl_cons (sd_var 1) (sl_cons (sd_var 5) (sl_cons (sd_frz (so_call ((ok_wide T).mono (by decide)) hr T.g_wide T.F_wide.kp T.b_wide tk (sl_cons (sd_var 1) sl_nil))) sl_nil))))) sd_non) (ss_one (ss_expr (so_append 2 (sd_tup (sl_cons (sd_var 3) (sl_cons (sd_var 4) sl_nil)))))) ss_nil))))))))
    (ss_one (ss_ret (so_take 2))))))
theorem sc_alike : FnScope ["one", "other"] ["one", "other"] (defScope s_alike) := ⟨rfl, rfl, rfl, by decide +kernel, rfl, by decide +kernel, by decide +kernel⟩
theorem ok_alike (T : Tx P K mg w) : FnOk P w K mg base (L2N.CX P w) 18 T.f_alike T.d_alike ["one", "other"] (spP K mg 2 F_alike) := by
    refine (fn_P (N := ["one", "other"]) (k := 17) (m := M_alike) T.F_alike sc_alike fun cdv A outer s H E hr => ?_)
    have hN : (["one", "other"] : List Str).Nodup := sc_alike.nd
    have hu := hr.units
    have tk := L2N.takes_of (X := cxOf (L2N.CX P w) P w K mg base ["one", "other"] "alike" (defScope s_alike) T.f_alike cdv A outer s H E) (E := E) rfl rfl rfl rfl
    have hp := passes_of (X := cxOf (L2N.CX P w) P w K mg base ["one", "other"] "alike" (defScope s_alike) T.f_alike cdv A outer s H E) rfl
    exact (ss_one (ss_ret (so_val (sd_cmp r2_isN op_isN (by rfl) (sd_frz (so_call ((ok_parting T).mono (by decide)) hr T.g_parting T.F_parting.kp T.b_parting tk (sl_cons (sd_var 0) (sl_cons (sd_var 1) sl_nil)))) sd_non))))
theorem sc__law_decided_z15 : FnScope [] [] (defScope s__law_decided_z15) := ⟨rfl, rfl, rfl, by decide +kernel, rfl, by decide +kernel, by decide +kernel⟩
theorem ok__law_decided_z15 (T : Tx P K mg w) : FnOk P w K mg base (L2N.CX P w) 19 T.f__law_decided_z15 T.d__law_decided_z15 [] (spP K mg 0 F__law_decided_z15) := by
    refine (fn_P (N := []) (k := 18) (m := M__law_decided_z15) T.F__law_decided_z15 sc__law_decided_z15 fun cdv A outer s H E hr => ?_)
    have hN : ([] : List Str).Nodup := sc__law_decided_z15.nd
    have hu := hr.units
    have tk := L2N.takes_of (X := cxOf (L2N.CX P w) P w K mg base [] "_law_decided" (defScope s__law_decided_z15) T.f__law_decided_z15 cdv A outer s H E) (E := E) rfl rfl rfl rfl
    have hp := passes_of (X := cxOf (L2N.CX P w) P w K mg base [] "_law_decided" (defScope s__law_decided_z15) T.f__law_decided_z15 cdv A outer s H E) rfl
    have hr1 := hr
    exact (ss_cons (ss_if (sb_cmp r2_ne (op_neD hu) (by rfl) (sd_frz (so_call ((ok_parting T).mono (by decide)) hr T.g_parting T.F_parting.kp T.b_parting tk (sl_cons (sd_frz (so_make T.M_Script ((ok_Script___init__ T).mono (by decide)) hr1 T.g_Script T.b_Script___init__ tk (sl_cons (sd_tup (sl_cons (sd_tup (sl_cons sd_str (sl_cons sd_int sl_nil))) sl_nil)) sl_nil))) (sl_cons (sd_frz (so_make T.M_Script ((ok_Script___init__ T).mono (by decide)) hr1 T.g_Script T.b_Script___init__ tk (sl_cons (sd_tup (sl_cons (sd_tup (sl_cons sd_str (sl_cons sd_int sl_nil))) sl_nil)) sl_nil))) sl_nil)))) (sd_tup (sl_cons sd_int (sl_cons (sd_tup (sl_cons sd_int sl_nil)) sl_nil)))) (ss_one (ss_ret (so_val sd_bl))) ss_nil)
    (ss_cons (ss_if (sb_cmp r2_ne (op_neD hu) (by rfl) (sd_frz (so_call ((ok_parting T).mono (by decide)) hr T.g_parting T.F_parting.kp T.b_parting tk (sl_cons (sd_frz (so_make T.M_Script ((ok_Script___init__ T).mono (by decide)) hr1 T.g_Script T.b_Script___init__ tk (sl_cons (sd_tup (sl_cons (sd_tup (sl_cons sd_str (sl_cons sd_int sl_nil))) sl_nil)) sl_nil))) (sl_cons (sd_frz (so_make T.M_Script ((ok_Script___init__ T).mono (by decide)) hr1 T.g_Script T.b_Script___init__ tk (sl_cons (sd_tup (sl_cons (sd_tup (sl_cons sd_str (sl_cons sd_int sl_nil))) sl_nil)) sl_nil))) sl_nil)))) (sd_tup (sl_cons sd_int (sl_cons (sd_tup (sl_cons sd_int (sl_cons sd_int sl_nil))) sl_nil)))) (ss_one (ss_ret (so_val sd_bl))) ss_nil)
    (ss_cons (ss_if (sb_not (sb_val (sd_frz (so_call ((ok_alike T).mono (by decide)) hr T.g_alike T.F_alike.kp T.b_alike tk (sl_cons (sd_frz (so_make T.M_Script ((ok_Script___init__ T).mono (by decide)) hr1 T.g_Script T.b_Script___init__ tk (sl_cons (sd_tup (sl_cons (sd_tup (sl_cons sd_str (sl_cons sd_int sl_nil))) (sl_cons (sd_tup (sl_cons sd_str sl_nil)) sl_nil))) sl_nil))) (sl_cons (sd_frz (so_make T.M_Script ((ok_Script___init__ T).mono (by decide)) hr1 T.g_Script T.b_Script___init__ tk (sl_cons (sd_tup (sl_cons (sd_tup (sl_cons sd_str sl_nil)) (sl_cons (sd_tup (sl_cons sd_str (sl_cons sd_int sl_nil))) sl_nil))) sl_nil))) sl_nil)))))) (ss_one (ss_ret (so_val sd_bl))) ss_nil)
    (ss_cons (ss_if (sb_cmp r2_ne (op_neD hu) (by rfl) (sd_frz (so_call ((ok_undone T).mono (by decide)) hr T.g_undone T.F_undone.kp T.b_undone tk (sl_cons (sd_frz (so_make T.M_Script ((ok_Script___init__ T).mono (by decide)) hr1 T.g_Script T.b_Script___init__ tk (sl_cons (sd_tup (sl_cons (sd_tup (sl_cons sd_str (sl_cons sd_int sl_nil))) sl_nil)) sl_nil))) (sl_cons (sd_frz (so_make T.M_Script ((ok_Script___init__ T).mono (by decide)) hr1 T.g_Script T.b_Script___init__ tk (sl_cons (sd_tup (sl_cons (sd_tup (sl_cons sd_str (sl_cons (sd_un r1_neg un_neg sd_int) sl_nil))) sl_nil)) sl_nil))) sl_nil)))) (sd_tup (sl_cons sd_int (sl_cons (sd_tup (sl_cons sd_int (sl_cons sd_int sl_nil))) sl_nil)))) (ss_one (ss_ret (so_val sd_bl))) ss_nil)
    (ss_cons (ss_if (sb_cmp r2_ne (op_neD hu) (by rfl) (sd_prop (sd_frz (so_call ((ok_undoing_z15 T).mono (by decide)) hr T.g_undoing_z15 T.F_undoing_z15.kp T.b_undoing_z15 tk (sl_cons (sd_frz (so_make T.M_Script ((ok_Script___init__ T).mono (by decide)) hr1 T.g_Script T.b_Script___init__ tk (sl_cons (sd_tup (sl_cons (sd_tup (sl_cons sd_str (sl_cons sd_int sl_nil))) (sl_cons (sd_tup (sl_cons sd_str sl_nil)) (sl_cons (sd_tup (sl_cons sd_str (sl_cons sd_int sl_nil))) sl_nil)))) sl_nil))) sl_nil))) T.g_Script T.K_Script T.P_Script_steps ((ok_Script_steps T).mono (by decide)) hr1 T.b_Script_steps) (sd_tup (sl_cons (sd_tup (sl_cons sd_str (sl_cons (sd_un r1_neg un_neg sd_int) sl_nil))) (sl_cons (sd_tup (sl_cons sd_str sl_nil)) (sl_cons (sd_tup (sl_cons sd_str (sl_cons (sd_un r1_neg un_neg sd_int) sl_nil))) sl_nil))))) (ss_one (ss_ret (so_val sd_bl))) ss_nil)
    (ss_cons (ss_if (sb_cmp r2_ne (op_neD hu) (by rfl) (sd_frz (so_lst (sl_cons (sd_frz (so_call ((ok_loses T).mono (by decide)) hr T.g_loses T.F_loses.kp T.b_loses tk (sl_cons (sd_frz (so_make T.M_Script ((ok_Script___init__ T).mono (by decide)) hr1 T.g_Script T.b_Script___init__ tk (sl_cons (sd_tup (sl_cons (sd_tup (sl_cons sd_str (sl_cons sd_int sl_nil))) (sl_cons (sd_tup (sl_cons sd_str (sl_cons sd_int sl_nil))) sl_nil))) sl_nil))) sl_nil))) (sl_cons (sd_frz (so_call ((ok_loses T).mono (by decide)) hr T.g_loses T.F_loses.kp T.b_loses tk (sl_cons (sd_frz (so_make T.M_Script ((ok_Script___init__ T).mono (by decide)) hr1 T.g_Script T.b_Script___init__ tk (sl_cons (sd_tup (sl_cons (sd_tup (sl_cons sd_str (sl_cons sd_int sl_nil))) sl_nil)) sl_nil))) sl_nil))) sl_nil)))) (sd_frz (so_lst (sl_cons sd_int (sl_cons sd_non sl_nil))))) (ss_one (ss_ret (so_val sd_bl))) ss_nil)
    (ss_cons (ss_if (sb_cmp r2_ne (op_neD hu) (by rfl) (sd_frz (so_call ((ok_swaps T).mono (by decide)) hr T.g_swaps T.F_swaps.kp T.b_swaps tk (sl_cons (sd_frz (so_make T.M_Script ((ok_Script___init__ T).mono (by decide)) hr1 T.g_Script T.b_Script___init__ tk (sl_cons (sd_tup (sl_cons (sd_tup (sl_cons sd_str (sl_cons sd_int sl_nil))) (sl_cons (sd_tup (sl_cons sd_str (sl_cons sd_int sl_nil))) (sl_cons (sd_tup (sl_cons sd_str (sl_cons sd_int sl_nil))) sl_nil)))) sl_nil))) sl_nil))) (sd_frz (so_lst (sl_cons sd_int sl_nil)))) (ss_one (ss_ret (so_val sd_bl))) ss_nil)
    (ss_cons (ss_if (sb_cmp r2_ne (op_neD hu) (by rfl) (sd_frz (so_call ((ok_idle T).mono (by decide)) hr T.g_idle T.F_idle.kp T.b_idle tk (sl_cons (sd_frz (so_make T.M_Script ((ok_Script___init__ T).mono (by decide)) hr1 T.g_Script T.b_Script___init__ tk (sl_cons (sd_tup (sl_cons (sd_tup (sl_cons sd_str sl_nil)) (sl_cons (sd_tup (sl_cons sd_str (sl_cons sd_int sl_nil))) (sl_cons (sd_tup (sl_cons sd_str sl_nil)) sl_nil)))) sl_nil))) sl_nil))) (sd_frz (so_lst sl_nil))) (ss_one (ss_ret (so_val sd_bl))) ss_nil)
    (ss_one (ss_ret (so_val (sd_cmp r2_eq (op_eqD hu) (by rfl) (sd_frz (so_call ((ok_idle T).mono (by decide)) hr T.g_idle T.F_idle.kp T.b_idle tk (sl_cons (sd_frz (so_make T.M_Script ((ok_Script___init__ T).mono (by decide)) hr1 T.g_Script T.b_Script___init__ tk (sl_cons (sd_tup (sl_cons (sd_tup (sl_cons sd_str sl_nil)) (sl_cons (sd_tup (sl_cons sd_str (sl_cons sd_int sl_nil))) (sl_cons (sd_tup (sl_cons sd_str sl_nil)) sl_nil)))) sl_nil))) sl_nil))) (sd_frz (so_lst (sl_cons (sd_tup (sl_cons sd_int (sl_cons sd_int sl_nil))) sl_nil)))))))))))))))
theorem sc_law_z15 : FnScope ["_law_script", "_law_d", "_law_known"] ["_law_script"] (defScope s_law_z15) := ⟨rfl, rfl, rfl, by decide +kernel, rfl, by decide +kernel, by decide +kernel⟩
theorem ok_law_z15 (T : Tx P K mg w) (h_law_led_z15 : ∀ p1 p2, ∃ s, F__law_led_z15 p1 p2 [] = .ok (.val (.bl true)) s) : FnOk P w K mg base (L2N.CX P w) 20 T.f_law_z15 T.d_law_z15 ["_law_script"] (spP K mg 1 F_law_z15) := by
    refine (fn_P (N := ["_law_script", "_law_d", "_law_known"]) (k := 19) (m := M_law_z15) T.F_law_z15 sc_law_z15 fun cdv A outer s H E hr => ?_)
    have hN : (["_law_script", "_law_d", "_law_known"] : List Str).Nodup := sc_law_z15.nd
    have hu := hr.units
    have tk := L2N.takes_of (X := cxOf (L2N.CX P w) P w K mg base ["_law_script", "_law_d", "_law_known"] "law" (defScope s_law_z15) T.f_law_z15 cdv A outer s H E) (E := E) rfl rfl rfl rfl
    have hp := passes_of (X := cxOf (L2N.CX P w) P w K mg base ["_law_script", "_law_d", "_law_known"] "law" (defScope s_law_z15) T.f_law_z15 cdv A outer s H E) rfl
    exact (ss_cons (ss_set 1 hN (so_call ((ok__law_random T).mono (by decide)) hr T.g__law_random T.F__law_random.kp T.b__law_random tk (sl_cons (sd_var 0) (sl_cons sd_int sl_nil))))
    (ss_cons (ss_set 2 hN (so_val (sd_frz (so_callL 1 ((ok__law_below T).mono (by decide)) hr T.g__law_below T.F__law_below.kp T.b__law_below tk (sl_cons sd_int sl_nil)))))
    (ss_cons (ss_if (sb_cmp r2_eq (op_eqD hu) (by rfl) (sd_var 2) sd_int) (ss_one (ss_ret (so_call0 ((ok__law_shifts_z15 T).mono (by decide)) hr T.g__law_shifts_z15 T.F__law_shifts_z15.kp T.b__law_shifts_z15 tk))) ss_nil)
    (ss_cons (ss_if (sb_cmp r2_eq (op_eqD hu) (by rfl) (sd_var 2) sd_int) (ss_one (ss_ret (so_call0 ((ok__law_decided_z15 T).mono (by decide)) hr T.g__law_decided_z15 T.F__law_decided_z15.kp T.b__law_decided_z15 tk))) ss_nil)
    (ss_one (ss_ret (so_val (sd_if (sb_cmp r2_eq (op_eqD hu) (by rfl) (sd_var 2) sd_int) (sd_frz (so_call0 ((ok__law_found_z15 T).mono (by decide)) hr T.g__law_found_z15 T.F__law_found_z15.kp T.b__law_found_z15 tk)) (sd_frz (so_callG0 (hox := none) ((ok__law_led_z15 T).mono (by decide)) h_law_led_z15 hr T.g__law_led_z15 T.F__law_led_z15.kp T.b__law_led_z15 tk))))))))))
end
end Den

set_option maxHeartbeats 4000000
namespace Den
open PySem PySem.Spec PyProof.Rows L2
local macro_rules | `(tactic| array_get_dec) => `(tactic| repeat (first | (with_reducible (first | refine w_seq ?_ | refine kq_nx ?_ | refine kq_rt ?_ | refine w_bin ?_ | refine w_un ?_ | refine w_isi ?_ | refine w_val ?_ | refine w_frz ?_ | refine w_test ?_ | refine kt_bl ?_ | refine w_if ?_ | refine w_and ?_ | refine w_or ?_ | refine w_not ?_ | refine w_mAnd ?_ | refine w_mOr ?_ | refine w_mNot ?_ | refine w_chain ?_ | refine w_nil ?_ | refine w_cons ?_ | refine w_star ?_ | refine w_app ?_ | refine w_appL ?_ | refine w_binL ?_ | refine w_nx ?_ | refine w_drop ?_ | refine w_ret ?_ | refine w_retN ?_ | refine w_ifs ?_ | refine w_set ?_ | refine w_asg ?_ | refine w_seqI ?_ | refine w_K ?_ | refine w_setIx ?_ | refine kg_nx ?_ | refine kg_rt ?_ | refine sm_frzI ?_ | refine sm_frzK ?_ | refine w_dict0 ?_ | refine w_setF ?_ | refine w_fld ?_ | refine w_rev ?_ | refine w_r1 ?_ | refine w_en ?_ | refine w_zp ?_ | refine w_sl ?_ | refine w_pNo ?_ | refine w_pSo ?_ | refine w_for ?_ | refine w_compI ?_ | refine w_comp2I ?_ | refine w_isiC ?_ | refine sm_isiC ?_ | refine w_prop ?_ | refine w_yes ?_ | refine kb_t ?_ | refine kb_f ?_ | refine kl_nx ?_ | refine kl_rt ?_ | refine kf_nx ?_ | refine kf_v ?_ | refine kf_o ?_ | refine w_pre ?_ | refine w_iKill ?_ | refine w_kill ?_ | refine kk_nx ?_ | refine kk_rt ?_ | refine kse_nx ?_ | refine kse_rt ?_ | refine w_setK ?_ | refine w_copyK ?_ | refine w_disp ?_ | refine w_pairs ?_ | refine w_pairs0 ?_ | refine w_din ?_ | refine w_inT ?_ | refine w_items ?_ | refine w_values ?_ | refine w_keys ?_ | refine w_rg1 ?_ | refine w_rg2 ?_ | refine w_listR ?_ | refine w_r2 ?_ | refine w_split ?_ | refine w_join ?_ | refine w_par ?_ | refine w_kin ?_ | refine w_kix ?_ | refine w_call ?_ | refine sm_add ?_ | refine sm_sub ?_ | refine sm_neg ?_ | refine sm_cmp ?_ | refine sm_eqI ?_ | refine sm_neI ?_ | refine sm_intI ?_ | refine sm_absI ?_ | refine sm_lenT ?_ | refine sm_lenL ?_ | refine sm_tupL ?_ | refine sm_frzV ?_ | refine sm_frzL ?_ | refine sm_itT ?_ | refine sm_itL ?_ | refine sm_itS ?_ | refine sm_slT ?_ | refine sm_slL ?_ | refine w_tup ?_ | refine w_lst ?_)) | ((with_reducible refine' w_var ?e ?_); (case e => exact rfl)) | ((with_reducible refine' w_varO ?e ?f ?_); (case e => exact rfl); (case f => exact rfl)) | ((with_reducible refine' kput_v ?e ?_); (case e => exact rfl)) | ((with_reducible refine' kput_o ?e ?_); (case e => exact rfl)) | ((with_reducible refine' sm_gN ?e ?_); (case e => exact rfl)) | ((with_reducible refine' w_ixO ?e ?_); (case e => exact rfl)) | ((with_reducible refine' w_lenO ?e ?_); (case e => exact rfl)) | ((with_reducible refine' w_append ?e ?_); (case e => exact rfl)) | ((with_reducible refine' w_aug ?e ?_); (case e => exact rfl)) | ((with_reducible refine' w_getK ?e ?_); (case e => exact rfl)) | ((with_reducible refine' kb_tr ?e ?_); (case e => with_reducible assumption)) | ((with_reducible refine' kb_fr ?e ?_); (case e => with_reducible assumption)) | ((with_reducible refine' kb_tr ?e ?_); (case e => exact rfl)) | ((with_reducible refine' kb_fr ?e ?_); (case e => exact rfl)) | ((with_reducible refine' sm_isNr ?e ?_); (case e => exact rfl)) | ((with_reducible refine' sm_notNr ?e ?_); (case e => exact rfl)) | ((with_reducible refine' sm_neB ?e ?_); (case e => exact rfl)) | ((with_reducible refine' sm_mulTr ?e ?_); (case e => exact rfl)) | ((with_reducible refine' sm_gT ?e ?_); (case e => exact rfl)) | ((with_reducible refine' w_pop ?e ?_); (case e => exact rfl)) | ((with_reducible refine' w_take ?e ?_); (case e => exact rfl)) | ((with_reducible refine' w_takeV ?e ?_); (case e => exact rfl)) | ((with_reducible refine' sm_mod ?e ?_); (case e => first | with_reducible assumption | decide | omega)) | ((with_reducible refine' sm_mul ?e ?_); (case e => first | exact .inl (by with_reducible assumption) | exact .inr (by with_reducible assumption) | exact .inl (by decide +kernel) | exact .inr (by decide +kernel) | with_reducible assumption)) | ((with_reducible refine' sm_eqSf ?e ?_); (case e => decide +kernel)) | ((with_reducible refine' sm_eqSt ?e ?_); (case e => decide +kernel)) | ((with_reducible refine' sm_ixT ?e ?_); (case e => first | exact atI0 | exact atI1 | with_reducible assumption | exact atI_last _ _)) | ((with_reducible refine' sm_add1 ?e ?_); (case e => first | with_reducible assumption | exact fits_of (by first | (simp; done) | (simp; omega) | omega))) | ((with_reducible refine' sm_addT ?e ?_); (case e => first | with_reducible assumption | exact fits_of (by first | (simp; done) | (simp; omega) | omega))) | ((with_reducible refine' sm_ixL ?e ?_); (case e => first | exact atI0 | exact atI1 | with_reducible assumption | exact atI_last _ _)) | ((with_reducible refine' sm_pow ?e ?f ?g ?_); (case e => decide); (case f => decide); (case g => decide +kernel)) | ((with_reducible refine' sm_fdiv ?e ?f ?_); (case e => first | with_reducible assumption | decide); (case f => first | with_reducible assumption | decide +kernel)) | ((with_reducible refine' sm_dix ?e ?f ?_); (case e => exact rfl); (case f => first | with_reducible assumption | exact rfl)) | ((with_reducible refine' sm_isi ?e ?_ ?n ?x); (case e => exact rfl); (case n => exact fun _ _ z => (by cases z)); (case x => exact fun _ _ z => (by cases z))) | ((with_reducible refine' And.intro (show (i62 _ && i62 _ && decide _) = true from ?e) ?_); (case e => first | with_reducible assumption | exact lrs (by constructor <;> first | omega | (simp; done) | (simp; omega)) (by constructor <;> first | omega | (simp; done) | (simp; omega)))) | ((with_reducible refine' And.intro (show fits _ = true from ?e) ?_); (case e => first | with_reducible assumption | exact fits_of (by first | (simp; done) | (simp; omega) | omega | (simp only [Str.length_append]; omega)))) | ((with_reducible refine' And.intro ?e (fok_of ?f ?_)); (case e => exact rfl); (case f => array_mem_dec)) | ((with_reducible refine' And.intro (show i62 _ = true from ?e) ?_); (case e => first | exact i62_of (by constructor <;> first | omega | (simp; done) | (simp; omega)) | with_reducible assumption)) | ((with_reducible refine' w_draw ?e ?_); (case e => exact rfl)) | ((with_reducible refine' Exists.intro _ (Exists.intro _ (And.intro ?e (And.intro (show _ + 1 = _ from ?f) (And.intro (show DOk _ from ?g) ?_))))); (case e => exact rfl); (case f => exact rfl); (case g => with_reducible assumption)) | ((with_reducible refine' dthen ?e ?_); (case e => array_mem_dec)) | (with_reducible refine w_makeE ?_) | ((with_reducible refine' And.intro (show _ + 1 = _ from ?e) (mok_of ?f ?_)); (case e => exact rfl); (case f => array_mem_dec)) | ((with_reducible refine' And.intro (show List.length _ ≤ 15 from ?e) ?_); (case e => first | exact Nat.le_of_ble_eq_true rfl | with_reducible assumption)) | ((with_reducible refine' Exists.intro _ (Exists.intro _ (Exists.intro _ (Exists.intro _ (And.intro ?e (And.intro rfl (And.intro ?f ?_))))))); (case e => exact rfl); (case f => first | exact atI0 | exact atI1 | exact atI_last _ _ | exact ixN0 | exact ixN1 | exact ixN2 | with_reducible assumption)) | ((with_reducible refine' Exists.intro _ (Exists.intro _ (Exists.intro _ (And.intro ?e (And.intro ?f (And.intro ?g ?_)))))); (case e => exact rfl); (case f => exact rfl); (case g => first | exact fits_of (by first | (simp; done) | (simp; omega) | omega | (simp only [Str.length_append]; omega)) | with_reducible assumption)) | ((with_reducible refine' Exists.intro _ (Exists.intro _ (Exists.intro _ (And.intro ?e (And.intro ?f ?_))))); (case e => exact rfl); (case f => exact rfl)) | ((with_reducible refine' sm_addS ?f ?_); (case f => first | with_reducible assumption | exact fits_of (by first | omega | (simp only [Str.length_append]; omega)))) | ((with_reducible refine' sm_eqO ?f ?_); (case f => array_mem_dec)) | ((with_reducible refine' Exists.intro _ (Exists.intro _ (And.intro rfl (And.intro (show FOk _ _ _ from ?f) ?_)))); (case f => array_mem_dec)) | ((with_reducible refine' Exists.intro _ (Exists.intro _ (And.intro rfl (And.intro (show (i62 _ && i62 _) = true from ?e) ?_)))); (case e => first | with_reducible assumption | exact i62s (by constructor <;> first | omega | (simp; done) | (simp; omega)) (by constructor <;> first | omega | (simp; done) | (simp; omega)))) | ((with_reducible refine' Exists.intro _ (Exists.intro _ (And.intro rfl (And.intro (show free _ _ = true from ?e) (And.intro (show free _ _ = true from ?f) ?_))))); (case e => exact rfl); (case f => exact rfl)) | ((with_reducible refine' Exists.intro _ (Exists.intro _ (And.intro rfl (And.intro ?e ?_)))); (case e => exact rfl)) | ((with_reducible refine' Exists.intro _ (And.intro rfl (And.intro (show free _ _ = true from ?e) ?_))); (case e => exact rfl)) | (with_reducible refine Exists.intro _ (And.intro rfl ?_)) | ((with_reducible refine' Exists.intro _ (Exists.intro _ (And.intro ?e (And.intro ?f ?_)))); (case e => exact rfl); (case f => exact rfl)) | ((with_reducible refine' Exists.intro _ (Exists.intro _ (And.intro ?e ?_))); (case e => exact rfl)) | (with_reducible refine Exists.intro _ (Exists.intro _ (And.intro rfl ?_)))))
local macro_rules | `(tactic| sizeOf_list_dec) => `(tactic| first | with_reducible assumption | omega | decide)
theorem below_ok {n : Int} (hn : 0 < n) (hl : n.natAbs.log2 < 9000) : LOk F__law_below [.int n] fun d => ∃ r, d = .int r ∧ 0 ≤ r ∧ r < n := by
  refine lok rfl fun o ⟨a, b, r, e, ha, hb, hr, hlen⟩ => ?_
  subst e
  show W (M__law_below [some (.bor (.lst (.int a :: .int b :: r.map .int))), some (.val (.int n)), none]) _ _
  unfold M__law_below
  refine w_seq (W.imp (P := fun f s => f = .nx ∧ ∃ (a b : Int) (r : List Int), s = [some (.bor (.lst (.int a :: .int b :: r.map .int))), some (.val (.int n)), none] ∧ 0 ≤ a ∧ 0 ≤ b ∧ (∀ x ∈ r, 0 ≤ x) ∧ r.length ≤ 63) ?_ fun f s ⟨e, a, b, r, e2, ha, hb, hr, hlen⟩ => ?_)
  · array_get_dec
    refine ⟨fun hc => ?_, fun hc => ?_⟩
    · have hb0 : b = 0 := of_decide_eq_true hc
      subst hb0
      array_get_dec
      refine ⟨fun hc => ?_, fun hc => ?_⟩
      · have h2 : 2 < r.length + 2 := by
          have := of_decide_eq_true hc
          simp at this
          omega
        obtain ⟨x, r, rfl⟩ : ∃ x t, r = x :: t := by
          cases r with
          | nil => simp at h2
          | cons x t => exact ⟨x, t, rfl⟩
        have l2 : i62 2 = true := by decide +kernel
        array_get_dec
        exact ⟨rfl, a, x, r, rfl, ha, hr x (by simp), fun y hy => hr y (by simp [hy]), by simp at hlen; omega⟩
      · array_get_dec
        exact ⟨rfl, a, 0, r, rfl, ha, hb, hr, hlen⟩
    · array_get_dec
      exact ⟨rfl, a, b, r, rfl, ha, hb, hr, hlen⟩
  · subst e e2
    refine kq_nx ?_
    array_get_dec
    refine ⟨fun hc => ?_, fun hc => ?_⟩
    · array_get_dec
      exact kL_v rfl ⟨a, b / n, r, rfl, ha, Int.ediv_nonneg hb (by omega), hr, hlen⟩ ⟨_, rfl, Int.emod_nonneg _ (by omega), Int.emod_lt_of_pos _ hn⟩
    · array_get_dec
      exact kL_v rfl ⟨_, b, r, rfl, Int.emod_nonneg _ (by decide), hb, hr, hlen⟩ ⟨_, rfl, Int.emod_nonneg _ (by omega), Int.emod_lt_of_pos _ hn⟩
local macro_rules | `(tactic| array_mem_dec) => `(tactic| (with_reducible refine below_ok ?_ ?_) <;> sizeOf_list_dec)
theorem random_ok {ns : List Int} {salt : Int} (hl : ns.length ≤ 63) (hs : 0 ≤ salt) : FOk F__law_random [.scr ns, .int salt] fun r => ∃ o, r = .own o ∧ DOk o := by
  refine fok rfl ?_
  unfold M__law_random
  array_get_dec
  refine w_foldI (fun k => 0 ≤ k) D.int (fun k => [some (.val (.scr ns)), some (.val (.int salt)), some (.val (.int k)), none]) (fun (k j : Int) => (k * 31 + (if j < 0 then -j else j)) % 2147483647) ns salt rfl rfl hs (fun k j hk hj => ?_) fun hk => ?_
  · array_get_dec
    unfold B__law_random_1
    array_get_dec
    exact ⟨rfl, Int.emod_nonneg _ (by decide)⟩
  · generalize ns.foldl _ _ = k at hk
    array_get_dec
    refine w_fmap D.int (fun j => decide (1000000000000000000 ≤ j)) D.int rfl rfl rfl (by omega) (fun j hj => ?_) ?_
    · array_get_dec
      refine ⟨rfl, fun hc => ?_, fun hc => ?_⟩
      · array_get_dec
        exact ⟨rfl, rfl, rfl⟩
      · exact ⟨rfl, rfl⟩
    · array_get_dec
      have h1 : (ns.filter fun j => decide (1000000000000000000 ≤ j)).length ≤ 63 := Nat.le_trans (List.length_filter_le _ _) hl
      refine sm_cat (by simp; omega) ?_
      array_get_dec
      refine ⟨k, 0, _, rfl, hk, by omega, fun x hx => ?_, h1⟩
      have := of_decide_eq_true (List.mem_filter.mp hx).2
      omega
def stepsN (w : Str) (ks : List Int) : List D := ks.map fun k => .tup [.str w, .int k]
def allSteps : List D := [.tup [.str "back"], .tup [.str "mirror"]] ++ stepsN "times" [2, 3] ++ stepsN "shift" [-3, -2, -1, 1, 2, 3] ++ stepsN "rise" [-2, -1, 1, 2] ++ stepsN "fall" [-2, -1, 1, 2] ++ stepsN "ahead" [-1, 1] ++ stepsN "behind" [-1, 1]
/-! steps, as plain things -/
inductive Stp where
  | back | mirror | times (k : Int) | shift (k : Int) | rise (k : Int) | fall (k : Int) | ahead (k : Int) | behind (k : Int)
  deriving DecidableEq
def Stp.d : Stp → D
  | .back => .tup [.str "back"]
  | .mirror => .tup [.str "mirror"]
  | .times k => .tup [.str "times", .int k]
  | .shift k => .tup [.str "shift", .int k]
  | .rise k => .tup [.str "rise", .int k]
  | .fall k => .tup [.str "fall", .int k]
  | .ahead k => .tup [.str "ahead", .int k]
  | .behind k => .tup [.str "behind", .int k]
def Stp.k : Stp → Int
  | .back => 0
  | .mirror => 0
  | .times k => k
  | .shift k => k
  | .rise k => k
  | .fall k => k
  | .ahead k => k
  | .behind k => k
def allS : List Stp := [.back, .mirror] ++ [2, 3].map .times ++ [-3, -2, -1, 1, 2, 3].map .shift ++ [-2, -1, 1, 2].map .rise ++ [-2, -1, 1, 2].map .fall ++ [-1, 1].map .ahead ++ [-1, 1].map .behind
theorem allS_small : ∀ st ∈ allS, -3 ≤ st.k ∧ st.k ≤ 3 := by decide
theorem small64 {k : Int} (h : -3 ≤ k ∧ k ≤ 3) : i64 k = true := by
  obtain ⟨h1, h2⟩ := h
  have : k = -3 ∨ k = -2 ∨ k = -1 ∨ k = 0 ∨ k = 1 ∨ k = 2 ∨ k = 3 := by omega
  rcases this with rfl | rfl | rfl | rfl | rfl | rfl | rfl <;> decide +kernel
def DrawnR {α : Type} (f : α → D) (Q : α → Prop) (st : O → S) (vs : List Nat) (y : D) (s2 : S) : Prop := ∃ x o', y = f x ∧ Q x ∧ DOk o' ∧ vs.all (plainAt s2) = true ∧ wipeS s2 vs = st o'
local macro_rules | `(tactic| array_mem_dec) => `(tactic| (with_reducible refine below_ok ?_ ?_) <;> sizeOf_list_dec)
/-- what a step makes of the letter at a place, before n -/
def sval (n L : Int) (x : Int → Int) : Stp → Int → Int
  | .back, p => x (L - 1 - p)
  | .mirror, p => n - 1 - x p
  | .times k, p => x p * k
  | .shift k, p => x p + k
  | .rise k, p => x p + k * p
  | .fall k, p => x p + k * (L - 1 - p)
  | .ahead k, p => if 0 < p then x p + k * x (p - 1) else x p
  | .behind k, p => if p + 1 < L then x p + k * x (p + 1) else x p
def tx (t : List Int) (p : Int) : Int := t.getD p.toNat 0
def act (n : Int) (t : List Int) (st : Stp) : List Int := (List.range t.length).map fun p => sval n (t.length : Nat) (tx t) st (p : Nat) % n
def Vt (n : Int) (t : List Int) : Prop := ∀ x ∈ t, 0 ≤ x ∧ x < n
def acts (n : Int) (t : List Int) (sts : List Stp) : List Int := sts.foldl (act n) t
/-! the steps, by the program -/
abbrev iD (t : List Int) : D := .tup (t.map .int)
theorem enumD_map : ∀ (t : List Int) (k : Nat), enumD k (t.map .int) = (t.zipIdx k).map fun p => .tup [.int (p.2 : Nat), .int p.1]
  | [], _ => rfl
  | x :: t, k => by
    show D.tup [.int (k : Nat), .int x] :: enumD (k + 1) (t.map .int) = _
    rw [enumD_map t (k + 1)]
    rfl
theorem zipD_map : ∀ (t u : List Int), zipD (t.map .int) (u.map .int) = (t.zip u).map fun p => .tup [.int p.1, .int p.2]
  | [], _ => by simp [zipD]
  | _ :: _, [] => by simp [zipD]
  | x :: t, y :: u => by
    show D.tup [.int x, .int y] :: zipD (t.map .int) (u.map .int) = _
    rw [zipD_map t u]
    rfl
section
variable {n k : Int} {t : List Int}
theorem done_back : FOk F_done [.tup [.str "back"], .int n, iD t] fun r => r = .val (iD t.reverse) := by
  refine fok rfl ?_
  show W (M_done [some (.val (.tup [.str "back"])), some (.val (.int n)), some (.val (.tup (t.map .int))), none, none, none, none, none, none, none]) _ _
  unfold M_done
  array_get_dec
  unfold iD
  rw [List.map_reverse]
theorem done_mirror (ht : t.length ≤ 1000) : FOk F_done [.tup [.str "mirror"], .int n, iD t] fun r => r = .val (iD (t.map fun x => n - 1 - x)) := by
  refine fok rfl ?_
  show W (M_done [some (.val (.tup [.str "mirror"])), some (.val (.int n)), some (.val (.tup (t.map .int))), none, none, none, none, none, none, none]) _ _
  unfold M_done
  array_get_dec
  refine w_map D.int (fun x => .int (n - 1 - x)) rfl rfl rfl (by omega) (fun x hx => ?_) ?_
  · array_get_dec
    exact ⟨rfl, rfl, rfl⟩
  · array_get_dec
    simp [iD]
theorem done_times (ht : t.length ≤ 1000) (hn : 0 < n) (hk : i64 k = true) : FOk F_done [.tup [.str "times", .int k], .int n, iD t] fun r => r = .val (iD (t.map fun x => x * k % n)) := by
  refine fok rfl ?_
  show W (M_done [some (.val (.tup [.str "times", .int k])), some (.val (.int n)), some (.val (.tup (t.map .int))), none, none, none, none, none, none, none]) _ _
  unfold M_done
  array_get_dec
  refine w_map D.int (fun x => .int (x * k % n)) rfl rfl rfl (by omega) (fun x hx => ?_) ?_
  · array_get_dec
    exact ⟨rfl, rfl, rfl⟩
  · array_get_dec
    simp [iD]
theorem done_shift (ht : t.length ≤ 1000) (hn : 0 < n) : FOk F_done [.tup [.str "shift", .int k], .int n, iD t] fun r => r = .val (iD (t.map fun x => (x + k) % n)) := by
  refine fok rfl ?_
  show W (M_done [some (.val (.tup [.str "shift", .int k])), some (.val (.int n)), some (.val (.tup (t.map .int))), none, none, none, none, none, none, none]) _ _
  unfold M_done
  array_get_dec
  refine w_map D.int (fun x => .int ((x + k) % n)) rfl rfl rfl (by omega) (fun x hx => ?_) ?_
  · array_get_dec
    exact ⟨rfl, rfl, rfl⟩
  · array_get_dec
    simp [iD]
theorem done_rise (ht : t.length ≤ 1000) (hn : 0 < n) (hk : i64 k = true) : FOk F_done [.tup [.str "rise", .int k], .int n, iD t] fun r => r = .val (iD (t.zipIdx.map fun p => (p.1 + k * (p.2 : Nat)) % n)) := by
  refine fok rfl ?_
  show W (M_done [some (.val (.tup [.str "rise", .int k])), some (.val (.int n)), some (.val (.tup (t.map .int))), none, none, none, none, none, none, none]) _ _
  unfold M_done
  array_get_dec
  refine w_map (fun p : Int × Nat => .tup [.int (p.2 : Nat), .int p.1]) (fun p => .int ((p.1 + k * (p.2 : Nat)) % n)) (enumD_map t 0) rfl rfl (by simp; omega) (fun x hx => ?_) ?_
  · array_get_dec
    exact ⟨rfl, rfl, rfl⟩
  · array_get_dec
    simp [iD]
theorem done_fall (ht : t.length ≤ 1000) (hn : 0 < n) (hk : i64 k = true) : FOk F_done [.tup [.str "fall", .int k], .int n, iD t] fun r => r = .val (iD (t.zipIdx.map fun p => (p.1 + k * (((t.length : Nat) : Int) - 1 - (p.2 : Nat))) % n)) := by
  refine fok rfl ?_
  show W (M_done [some (.val (.tup [.str "fall", .int k])), some (.val (.int n)), some (.val (.tup (t.map .int))), none, none, none, none, none, none, none]) _ _
  unfold M_done
  array_get_dec
  refine w_map (fun p : Int × Nat => .tup [.int (p.2 : Nat), .int p.1]) (fun p => .int ((p.1 + k * (((t.length : Nat) : Int) - 1 - (p.2 : Nat))) % n)) (enumD_map t 0) rfl rfl (by simp; omega) (fun x hx => ?_) ?_
  · array_get_dec
    exact ⟨by rw [List.length_map], rfl, rfl⟩
  · array_get_dec
    simp [iD]
theorem cut_init (ds : List D) : cutD ds none (some (-1)) = ds.dropLast := by
  unfold cutD
  rw [HT.sIx_none, show HT.sIx ds.length ds.length (some (-1)) = ds.length - 1 by
    show (if (-1 : Int) < 0 then ((-1 : Int) + (ds.length : Int)).toNat else min (-1 : Int).toNat ds.length) = ds.length - 1
    rw [if_pos (by decide)]
    omega, List.drop_zero, Nat.sub_zero, List.dropLast_eq_take]
theorem cut_tail (ds : List D) : cutD ds (some 1) none = ds.tail := by
  unfold cutD
  rw [HT.sIx_none, show HT.sIx ds.length 0 (some 1) = min 1 ds.length from HT.sIx_nat ds.length 0 1]
  cases ds with
  | nil => rfl
  | cons x r =>
    rw [show min 1 (x :: r).length = 1 by rw [List.length_cons]; omega]
    show (List.take ((x :: r).length - 1) r) = r
    rw [List.length_cons, Nat.add_sub_cancel, List.take_length]
theorem done_ahead (ht : t.length ≤ 1000) (hn : 0 < n) (hk : i64 k = true) : FOk F_done [.tup [.str "ahead", .int k], .int n, iD t] fun r => r = .val (iD ((t.zip (0 :: t.dropLast)).map fun p => (p.1 + k * p.2) % n)) := by
  refine fok rfl ?_
  show W (M_done [some (.val (.tup [.str "ahead", .int k])), some (.val (.int n)), some (.val (.tup (t.map .int))), none, none, none, none, none, none, none]) _ _
  unfold M_done
  have hf : fits (D.int 0 :: (cutD (t.map D.int) none (some (-1)) ++ [])).length = true := fits_of (by rw [cut_init]; simp; omega)
  array_get_dec
  refine w_map (xs := t.zip (0 :: t.dropLast)) (fun p : Int × Int => .tup [.int p.1, .int p.2]) (fun p => .int ((p.1 + k * p.2) % n)) (by
    rw [cut_init, ← List.map_dropLast, List.append_nil]; exact zipD_map t (0 :: t.dropLast)) rfl rfl (by simp; omega) (fun x hx => ?_) ?_
  · array_get_dec
    exact ⟨rfl, rfl, rfl⟩
  · array_get_dec
    simp [iD]
theorem done_behind (ht : t.length ≤ 1000) (hn : 0 < n) (hk : i64 k = true) : FOk F_done [.tup [.str "behind", .int k], .int n, iD t] fun r => r = .val (iD ((t.zip (t.tail ++ [0])).map fun p => (p.1 + k * p.2) % n)) := by
  refine fok rfl ?_
  show W (M_done [some (.val (.tup [.str "behind", .int k])), some (.val (.int n)), some (.val (.tup (t.map .int))), none, none, none, none, none, none, none]) _ _
  unfold M_done
  have hf : fits ((cutD (t.map D.int) (some 1) none) ++ [D.int 0]).length = true := fits_of (by rw [cut_tail]; simp; omega)
  array_get_dec
  refine w_map (xs := t.zip (t.tail ++ [0])) (fun p : Int × Int => .tup [.int p.1, .int p.2]) (fun p => .int ((p.1 + k * p.2) % n)) (by
    rw [← zipD_map, cut_tail, ← List.map_tail, List.map_append]; rfl) rfl rfl (by simp; omega) (fun x hx => ?_) ?_
  · array_get_dec
    exact ⟨rfl, rfl, rfl⟩
  · array_get_dec
    simp [iD]
/-! the steps, by the law -/
end

section
variable {n k : Int} {t : List Int}
theorem tx_get {j : Nat} (h : j < t.length) : tx t (j : Nat) = t[j] := by
  unfold tx
  rw [Int.toNat_natCast, List.getD_eq_getElem?_getD, List.getElem?_eq_getElem h]
  rfl
theorem tx_eq {p : Int} {j : Nat} (e : p = j) (h : j < t.length) : tx t p = t[j] := by subst e; exact tx_get h
theorem act_get {st : Stp} {i : Nat} (h : i < (act n t st).length) : (act n t st)[i] = sval n (t.length : Nat) (tx t) st (i : Nat) % n := by simp [act]
theorem mod_id {x : Int} (h : 0 ≤ x ∧ x < n) : x % n = x := Int.emod_eq_of_lt h.1 h.2
theorem FOk.cast {F : FP} {ds : List D} {u v : List Int} (h : FOk F ds fun r => r = .val (iD u)) (e : u = v) : FOk F ds fun r => r = .val (iD v) := by rw [← e]; exact h
theorem vt_at (h : Vt n t) {j : Nat} (hj : j < t.length) : 0 ≤ t[j] ∧ t[j] < n := h _ (List.getElem_mem hj)
theorem done_ok {st : Stp} (ht : t.length ≤ 1000) (hn : 0 < n) (hv : Vt n t) (hk : i64 st.k = true) : FEq F_done [st.d, .int n, iD t] (.val (iD (act n t st))) := by
  cases st with
  | back =>
    refine done_back.cast (List.ext_getElem (by simp [act]) fun i h1 h2 => ?_)
    have hi : i < t.length := by simpa using h1
    rw [List.getElem_reverse, act_get]
    show _ = tx t _ % n
    rw [tx_eq (j := t.length - 1 - i) (by omega) (by omega), mod_id (vt_at hv _)]
  | mirror =>
    refine (done_mirror ht).cast (List.ext_getElem (by simp [act]) fun i h1 h2 => ?_)
    have hi : i < t.length := by simpa using h1
    rw [List.getElem_map, act_get]
    show _ = (n - 1 - tx t _) % n
    rw [tx_get hi, mod_id]
    have := vt_at hv hi
    omega
  | times k =>
    refine (done_times (k := k) ht hn hk).cast (List.ext_getElem (by simp [act]) fun i h1 h2 => ?_)
    have hi : i < t.length := by simpa using h1
    rw [List.getElem_map, act_get]
    show _ = (tx t _ * k) % n
    rw [tx_get hi]
  | shift k =>
    refine (done_shift ht hn).cast (List.ext_getElem (by simp [act]) fun i h1 h2 => ?_)
    have hi : i < t.length := by simpa using h1
    rw [List.getElem_map, act_get]
    show _ = (tx t _ + k) % n
    rw [tx_get hi]
  | rise k =>
    refine (done_rise (k := k) ht hn hk).cast (List.ext_getElem (by simp [act]) fun i h1 h2 => ?_)
    have hi : i < t.length := by simpa using h1
    rw [List.getElem_map, act_get, List.getElem_zipIdx]
    show _ = (tx t _ + k * (i : Nat)) % n
    rw [tx_get hi]
    simp
  | fall k =>
    refine (done_fall (k := k) ht hn hk).cast (List.ext_getElem (by simp [act]) fun i h1 h2 => ?_)
    have hi : i < t.length := by simpa using h1
    rw [List.getElem_map, act_get, List.getElem_zipIdx]
    show _ = (tx t _ + k * (((t.length : Nat) : Int) - 1 - (i : Nat))) % n
    rw [tx_get hi]
    simp
  | ahead k =>
    refine (done_ahead (k := k) ht hn hk).cast (List.ext_getElem (by simp [act]; omega) fun i h1 h2 => ?_)
    have hi : i < t.length := by simpa [act] using h2
    rw [List.getElem_map, act_get, List.getElem_zip]
    show _ = (if (0 : Int) < (i : Nat) then tx t (i : Nat) + k * tx t ((i : Nat) - 1) else tx t (i : Nat)) % n
    rw [tx_get hi]
    cases i with
    | zero => simp
    | succ i =>
      rw [if_pos (by omega), tx_eq (j := i) (by omega) (by omega)]
      simp
  | behind k =>
    refine (done_behind (k := k) ht hn hk).cast (List.ext_getElem (by simp [act]; omega) fun i h1 h2 => ?_)
    have hi : i < t.length := by simpa [act] using h2
    rw [List.getElem_map, act_get, List.getElem_zip]
    show _ = (if ((i : Nat) : Int) + 1 < ((t.length : Nat) : Int) then tx t (i : Nat) + k * tx t ((i : Nat) + 1) else tx t (i : Nat)) % n
    rw [tx_get hi]
    by_cases h : i + 1 < t.length
    · rw [if_pos (by omega), tx_eq (j := i + 1) (by omega) h, List.getElem_append_left (by simp; omega)]
      simp
    · rw [if_neg (by omega), List.getElem_append_right (by simp; omega)]
      simp
local macro_rules | `(tactic| array_mem_dec) => `(tactic| (with_reducible refine done_ok ?_ ?_ ?_ ?_) <;> sizeOf_list_dec)
end

local macro_rules | `(tactic| array_mem_dec) => `(tactic| (with_reducible refine done_ok ?_ ?_ ?_ ?_) <;> sizeOf_list_dec)
/-! equality of data, for the kernel -/
mutual
def D.beq : D → D → Bool
  | .non, .non => true
  | .bl a, .bl b => a == b
  | .int a, .int b => a == b
  | .str a, .str b => a == b
  | .tup a, .tup b => D.beqL a b
  | .ktup a, .ktup b => D.beqL a b
  | .lst a, .lst b => D.beqL a b
  | _, _ => false
def D.beqL : List D → List D → Bool
  | [], [] => true
  | a :: as, b :: bs => D.beq a b && D.beqL as bs
  | _, _ => false
end

mutual
theorem D.beq_eq : ∀ {a b : D}, D.beq a b = true → a = b
  | .non, .non, _ => rfl
  | .bl a, .bl b, h => by rw [eq_of_beq (show (a == b) = true from h)]
  | .int a, .int b, h => by rw [eq_of_beq (show (a == b) = true from h)]
  | .str a, .str b, h => by rw [eq_of_beq (show (a == b) = true from h)]
  | .tup a, .tup b, h => by rw [D.beqL_eq (show D.beqL a b = true from h)]
  | .ktup a, .ktup b, h => by rw [D.beqL_eq (show D.beqL a b = true from h)]
  | .lst a, .lst b, h => by rw [D.beqL_eq (show D.beqL a b = true from h)]
theorem D.beqL_eq : ∀ {a b : List D}, D.beqL a b = true → a = b
  | [], [], _ => rfl
  | a :: as, b :: bs, h => by
    have h : (D.beq a b && D.beqL as bs) = true := h
    rw [Bool.and_eq_true] at h
    rw [D.beq_eq h.1, D.beqL_eq h.2]
end

def chkV (F : FP) (ds : List D) (d : D) : Bool := match F ds with
  | .ok (.val d') _ => D.beq d' d
  | _ => false
theorem feq_chk {F : FP} {ds : List D} {d : D} (h : chkV F ds d = true) : FEq F ds (.val d) := by
  unfold chkV at h
  split at h
  · rename_i d' s e
    rw [D.beq_eq h] at e
    exact FOk.mk ⟨_, s, e, fun _ z => (by cases z), rfl⟩
  · cases h
/-! the law's own equality -/
def good : Nat → D → Bool
  | 0, _ => false
  | _ + 1, .non => true
  | _ + 1, .bl _ => true
  | _ + 1, .int _ => true
  | _ + 1, .str x => SeqAt.shaped (.str x)
  | k + 1, .tup xs => decide (xs.length ≤ 1000) && xs.all (good k)
  | k + 1, .lst xs => decide (xs.length ≤ 1000) && xs.all (good k)
  | _ + 1, _ => false
/-! the object is made -/
theorem is_step_ok {st : Stp} (h : st ∈ allS) : FEq F_is_step [st.d] (.val (.bl true)) := by
  have k : (allS.all fun st => chkV F_is_step [st.d] (.bl true)) = true := by decide +kernel
  exact feq_chk (List.all_eq_true.mp k st h)
local macro_rules | `(tactic| array_mem_dec) => `(tactic| (with_reducible refine is_step_ok ?_) <;> sizeOf_list_dec)
abbrev scO (sts : List Stp) : D := .obj "Script" [("rows", .tup (sts.map Stp.d))]
local macro_rules | `(tactic| array_mem_dec) => `(tactic| (with_reducible refine is_step_ok ?_) <;> sizeOf_list_dec)
section
variable {n v a b : Int} {t : List Int} {sts : List Stp}
end

/-! sums of letters, as plain things -/
abbrev Ts := List (Int × Int)
def putI (ts : Ts) (k v : Int) : Ts := if (ts.any fun p => decide (p.1 = k)) = true then ts.map (fun p => if p.1 = k then (p.1, v) else p) else ts ++ [(k, v)]
def getI (ts : Ts) (k : Int) : Int := ((ts.find? fun p => decide (p.1 = k)).map (·.2)).getD 0
def addI (ts : Ts) (k m : Int) : Ts := putI ts k (getI ts k + m)
def keysI (ts : Ts) : List Int := ts.map (·.1)
def lc (ts : Ts) (g : Int → Int) : Int := (ts.map fun p => p.2 * g p.1).sum
/-- a row of terms taken so many times more -/
def addAll (ts us : Ts) (k : Int) : Ts := us.foldl (fun ts p => addI ts p.1 (k * p.2)) ts
abbrev SumL := Int × Ts
def ev (e : Int) (x : Int → Int) (s : SumL) : Int := s.1 * e + lc s.2 x
def wm (a b : SumL) (k : Int) : SumL := (a.1 + k * b.1, addAll a.2 b.2 k)
/-- the sum that a letter is; the steps from the last one back -/
def sumR (L : Int) : List Stp → Int → SumL
  | [], p => (0, [(p, 1)])
  | .back :: r, p => sumR L r (L - 1 - p)
  | .mirror :: r, p => wm (-1, []) (sumR L r p) (-1)
  | .times k :: r, p => wm (0, []) (sumR L r p) k
  | .shift k :: r, p => wm (sumR L r p) (1, []) k
  | .rise k :: r, p => wm (sumR L r p) (p, []) k
  | .fall k :: r, p => wm (sumR L r p) (L - 1 - p, []) k
  | .ahead k :: r, p => if 0 < p then wm (sumR L r p) (sumR L r (p - 1)) k else sumR L r p
  | .behind k :: r, p => if p < L - 1 then wm (sumR L r p) (sumR L r (p + 1)) k else sumR L r p
/-- its value, for letters x and the unit e -/
def sv (e : Int) (x : Int → Int) (L : Int) : List Stp → Int → Int
  | [], p => x p
  | .back :: r, p => sv e x L r (L - 1 - p)
  | .mirror :: r, p => -1 * e + -1 * sv e x L r p
  | .times k :: r, p => k * sv e x L r p
  | .shift k :: r, p => sv e x L r p + k * e
  | .rise k :: r, p => sv e x L r p + k * (p * e)
  | .fall k :: r, p => sv e x L r p + k * ((L - 1 - p) * e)
  | .ahead k :: r, p => if 0 < p then sv e x L r p + k * sv e x L r (p - 1) else sv e x L r p
  | .behind k :: r, p => if p < L - 1 then sv e x L r p + k * sv e x L r (p + 1) else sv e x L r p
abbrev kvE (ts : Ts) : List (Key × D) := ts.map fun p => (Sum.inl p.1, .int p.2)
abbrev sumD (s : SumL) : D := .tup [.int s.1, .dic (kvE s.2)]
section
variable {a b : SumL} {k L p : Int}
end

/-! == of data -/
def nob : Nat → D → Bool
  | 0, _ => false
  | _ + 1, .non => true
  | _ + 1, .int _ => true
  | _ + 1, .str x => SeqAt.shaped (.str x)
  | k + 1, .tup xs => xs.all (nob k)
  | k + 1, .lst xs => xs.all (nob k)
  | _ + 1, _ => false
mutual
theorem D.beq_refl : ∀ {k : Nat} {d : D}, nob k d = true → D.beq d d = true
  | 0, _, h => by cases h
  | _ + 1, .non, _ => rfl
  | _ + 1, .int i, _ => beq_self_eq_true i
  | _ + 1, .str x, _ => beq_self_eq_true x
  | k + 1, .tup xs, h => D.beqL_refl (k := k) (List.all_eq_true.mp h)
  | k + 1, .lst xs, h => D.beqL_refl (k := k) (List.all_eq_true.mp h)
  | _ + 1, .bl _, h => by cases h
  | _ + 1, .ktup _, h => by cases h
  | _ + 1, .dic _, h => by cases h
  | _ + 1, .obj _ _, h => by cases h
  | _ + 1, .scr _, h => by cases h
theorem D.beqL_refl : ∀ {k : Nat} {ds : List D}, (∀ d ∈ ds, nob k d = true) → D.beqL ds ds = true
  | _, [], _ => rfl
  | k, d :: ds, h => by
    show (D.beq d d && D.beqL ds ds) = true
    rw [D.beq_refl (h d List.mem_cons_self), D.beqL_refl fun x hx => h x (List.mem_cons_of_mem _ hx)]
    rfl
end
def PyP (k : Nat) (x y : D) : Prop := ∃ p q, x.py = some p ∧ y.py = some q ∧ p.canLay0 = true ∧ q.canLay0 = true ∧ p.depth ≤ k ∧ q.depth ≤ k ∧ PyData.eqv p q = D.beq x y
theorem pyL1 {k : Nat} (py_nob : ∀ {x y : D}, nob k x = true → nob k y = true → PyP k x y) : ∀ {xs : List D}, (∀ d ∈ xs, nob k d = true) → ∃ qs, D.pyL xs = some qs ∧ PyData.canLayAll0 qs = true ∧ PyData.depthAll qs ≤ k
  | [], _ => ⟨[], by simp [D.pyL], by simp [PyData.canLayAll0], by simp [PyData.depthAll]⟩
  | x :: xs, h => by
    obtain ⟨_, q, _, a, _, b, _, c, _⟩ := py_nob (h x List.mem_cons_self) (h x List.mem_cons_self)
    obtain ⟨qs, d, e, f⟩ := pyL1 py_nob (fun z hz => h z (List.mem_cons_of_mem _ hz))
    exact ⟨q :: qs, by simp [D.pyL, a, d], by simp [PyData.canLayAll0, b, e], by simp [PyData.depthAll]; omega⟩
theorem pyL_of {k : Nat} (py_nob : ∀ {x y : D}, nob k x = true → nob k y = true → PyP k x y) : ∀ {xs ys : List D}, (∀ d ∈ xs, nob k d = true) → (∀ d ∈ ys, nob k d = true) → ∃ ps qs, D.pyL xs = some ps ∧ D.pyL ys = some qs ∧ PyData.canLayAll0 ps = true ∧ PyData.canLayAll0 qs = true ∧ PyData.depthAll ps ≤ k ∧ PyData.depthAll qs ≤ k ∧ PyData.eqvAll ps qs = D.beqL xs ys
  | [], [], _, _ => ⟨[], [], by simp [D.pyL], by simp [D.pyL], by simp [PyData.canLayAll0], by simp [PyData.canLayAll0], by simp [PyData.depthAll], by simp [PyData.depthAll], by simp [PyData.eqvAll, D.beqL]⟩
  | [], y :: ys, _, hy => by
    obtain ⟨_, q, _, a, _, b, _, c, _⟩ := py_nob (hy y List.mem_cons_self) (hy y List.mem_cons_self)
    obtain ⟨qs, d, e, f⟩ := pyL1 py_nob (fun x hx => hy x (List.mem_cons_of_mem _ hx))
    exact ⟨[], q :: qs, by simp [D.pyL], by simp [D.pyL, a, d], by simp [PyData.canLayAll0], by simp [PyData.canLayAll0, b, e], by simp [PyData.depthAll], by simp [PyData.depthAll]; omega, by simp [PyData.eqvAll, D.beqL]⟩
  | x :: xs, [], hx, _ => by
    obtain ⟨_, q, _, a, _, b, _, c, _⟩ := py_nob (hx x List.mem_cons_self) (hx x List.mem_cons_self)
    obtain ⟨qs, d, e, f⟩ := pyL1 py_nob (fun x hz => hx x (List.mem_cons_of_mem _ hz))
    exact ⟨q :: qs, [], by simp [D.pyL, a, d], by simp [D.pyL], by simp [PyData.canLayAll0, b, e], by simp [PyData.canLayAll0], by simp [PyData.depthAll]; omega, by simp [PyData.depthAll], by simp [PyData.eqvAll, D.beqL]⟩
  | x :: xs, y :: ys, hx, hy => by
    obtain ⟨p, q, a1, a2, a3, a4, a5, a6, a7⟩ := py_nob (hx x List.mem_cons_self) (hy y List.mem_cons_self)
    obtain ⟨ps, qs, b1, b2, b3, b4, b5, b6, b7⟩ := pyL_of py_nob (xs := xs) (ys := ys) (fun z hz => hx z (List.mem_cons_of_mem _ hz)) (fun z hz => hy z (List.mem_cons_of_mem _ hz))
    exact ⟨p :: ps, q :: qs, by simp [D.pyL, a1, b1], by simp [D.pyL, a2, b2], by simp [PyData.canLayAll0, a3, b3], by simp [PyData.canLayAll0, a4, b4], by simp [PyData.depthAll]; omega, by simp [PyData.depthAll]; omega, by simp [PyData.eqvAll, D.beqL, a7, b7]⟩
theorem py_nob : ∀ {k : Nat} {x y : D}, nob k x = true → nob k y = true → PyP k x y := by
  intro k
  induction k with
  | zero => intro x y hx; cases hx
  | succ k IH =>
    intro x y hx hy
    have pyL_nob := fun {xs ys : List D} => @pyL_of k IH xs ys
    have sh : ∀ {z : Str}, SeqAt.shaped (.str z) = true → PyData.canLay0 (.str z) = true := fun h => SeqAt.canLay_of_shaped h
    cases x with
    | tup xs =>
      have h1 := List.all_eq_true.mp (show xs.all (nob k) = true from hx)
      cases y with
      | tup ys =>
        obtain ⟨ps, qs, a, b, c, d, e, f, g⟩ := pyL_nob (xs := xs) (ys := ys) h1 (List.all_eq_true.mp (show ys.all (nob k) = true from hy))
        exact ⟨.tuple ps, .tuple qs, by simp [D.py, a], by simp [D.py, b], by simpa [PyData.canLay0] using c, by simpa [PyData.canLay0] using d, by simp [PyData.depth]; omega, by simp [PyData.depth]; omega, by simpa [PyData.eqv, D.beq] using g⟩
      | lst ys =>
        obtain ⟨ps, qs, a, b, c, d, e, f, g⟩ := pyL_nob (xs := xs) (ys := ys) h1 (List.all_eq_true.mp (show ys.all (nob k) = true from hy))
        exact ⟨.tuple ps, .list qs, by simp [D.py, a], by simp [D.py, b], by simpa [PyData.canLay0] using c, by simpa [PyData.canLay0] using d, by simp [PyData.depth]; omega, by simp [PyData.depth]; omega, by simp [PyData.eqv, D.beq]⟩
      | non =>
        obtain ⟨ps, qs, a, b, c, d, e, f, g⟩ := pyL_nob (xs := xs) (ys := []) h1 (fun _ h => by cases h)
        exact ⟨.tuple ps, .none, by simp [D.py, a], by simp [D.py], by simpa [PyData.canLay0] using c, by simp [PyData.canLay0], by simp [PyData.depth]; omega, by simp [PyData.depth], by simp [PyData.eqv, D.beq]⟩
      | int i =>
        obtain ⟨ps, qs, a, b, c, d, e, f, g⟩ := pyL_nob (xs := xs) (ys := []) h1 (fun _ h => by cases h)
        exact ⟨.tuple ps, .int i, by simp [D.py, a], by simp [D.py], by simpa [PyData.canLay0] using c, by simp [PyData.canLay0], by simp [PyData.depth]; omega, by simp [PyData.depth], by simp [PyData.eqv, D.beq]⟩
      | str i =>
        obtain ⟨ps, qs, a, b, c, d, e, f, g⟩ := pyL_nob (xs := xs) (ys := []) h1 (fun _ h => by cases h)
        exact ⟨.tuple ps, .str i, by simp [D.py, a], by simp [D.py], by simpa [PyData.canLay0] using c, sh hy, by simp [PyData.depth]; omega, by simp [PyData.depth], by simp [PyData.eqv, D.beq]⟩
      | _ => cases hy
    | lst xs =>
      have h1 := List.all_eq_true.mp (show xs.all (nob k) = true from hx)
      cases y with
      | tup ys =>
        obtain ⟨ps, qs, a, b, c, d, e, f, g⟩ := pyL_nob (xs := xs) (ys := ys) h1 (List.all_eq_true.mp (show ys.all (nob k) = true from hy))
        exact ⟨.list ps, .tuple qs, by simp [D.py, a], by simp [D.py, b], by simpa [PyData.canLay0] using c, by simpa [PyData.canLay0] using d, by simp [PyData.depth]; omega, by simp [PyData.depth]; omega, by simp [PyData.eqv, D.beq]⟩
      | lst ys =>
        obtain ⟨ps, qs, a, b, c, d, e, f, g⟩ := pyL_nob (xs := xs) (ys := ys) h1 (List.all_eq_true.mp (show ys.all (nob k) = true from hy))
        exact ⟨.list ps, .list qs, by simp [D.py, a], by simp [D.py, b], by simpa [PyData.canLay0] using c, by simpa [PyData.canLay0] using d, by simp [PyData.depth]; omega, by simp [PyData.depth]; omega, by simpa [PyData.eqv, D.beq] using g⟩
      | non =>
        obtain ⟨ps, qs, a, b, c, d, e, f, g⟩ := pyL_nob (xs := xs) (ys := []) h1 (fun _ h => by cases h)
        exact ⟨.list ps, .none, by simp [D.py, a], by simp [D.py], by simpa [PyData.canLay0] using c, by simp [PyData.canLay0], by simp [PyData.depth]; omega, by simp [PyData.depth], by simp [PyData.eqv, D.beq]⟩
      | int i =>
        obtain ⟨ps, qs, a, b, c, d, e, f, g⟩ := pyL_nob (xs := xs) (ys := []) h1 (fun _ h => by cases h)
        exact ⟨.list ps, .int i, by simp [D.py, a], by simp [D.py], by simpa [PyData.canLay0] using c, by simp [PyData.canLay0], by simp [PyData.depth]; omega, by simp [PyData.depth], by simp [PyData.eqv, D.beq]⟩
      | str i =>
        obtain ⟨ps, qs, a, b, c, d, e, f, g⟩ := pyL_nob (xs := xs) (ys := []) h1 (fun _ h => by cases h)
        exact ⟨.list ps, .str i, by simp [D.py, a], by simp [D.py], by simpa [PyData.canLay0] using c, sh hy, by simp [PyData.depth]; omega, by simp [PyData.depth], by simp [PyData.eqv, D.beq]⟩
      | _ => cases hy
    | non =>
      cases y with
      | tup ys =>
        obtain ⟨ps, qs, a, b, c, d, e, f, g⟩ := pyL_nob (xs := []) (ys := ys) (fun _ h => by cases h) (List.all_eq_true.mp (show ys.all (nob k) = true from hy))
        exact ⟨.none, .tuple qs, by simp [D.py], by simp [D.py, b], by simp [PyData.canLay0], by simpa [PyData.canLay0] using d, by simp [PyData.depth], by simp [PyData.depth]; omega, by simp [PyData.eqv, D.beq]⟩
      | lst ys =>
        obtain ⟨ps, qs, a, b, c, d, e, f, g⟩ := pyL_nob (xs := []) (ys := ys) (fun _ h => by cases h) (List.all_eq_true.mp (show ys.all (nob k) = true from hy))
        exact ⟨.none, .list qs, by simp [D.py], by simp [D.py, b], by simp [PyData.canLay0], by simpa [PyData.canLay0] using d, by simp [PyData.depth], by simp [PyData.depth]; omega, by simp [PyData.eqv, D.beq]⟩
      | non => exact ⟨.none, .none, by simp [D.py], by simp [D.py], by simp [PyData.canLay0], by simp [PyData.canLay0], by simp [PyData.depth], by simp [PyData.depth], by simp [PyData.eqv, D.beq]⟩
      | int i => exact ⟨.none, .int i, by simp [D.py], by simp [D.py], by simp [PyData.canLay0], by simp [PyData.canLay0], by simp [PyData.depth], by simp [PyData.depth], by simp [PyData.eqv, D.beq]⟩
      | str i => exact ⟨.none, .str i, by simp [D.py], by simp [D.py], by simp [PyData.canLay0], sh hy, by simp [PyData.depth], by simp [PyData.depth], by simp [PyData.eqv, D.beq]⟩
      | _ => cases hy
    | int j =>
      cases y with
      | tup ys =>
        obtain ⟨ps, qs, a, b, c, d, e, f, g⟩ := pyL_nob (xs := []) (ys := ys) (fun _ h => by cases h) (List.all_eq_true.mp (show ys.all (nob k) = true from hy))
        exact ⟨.int j, .tuple qs, by simp [D.py], by simp [D.py, b], by simp [PyData.canLay0], by simpa [PyData.canLay0] using d, by simp [PyData.depth], by simp [PyData.depth]; omega, by simp [PyData.eqv, D.beq]⟩
      | lst ys =>
        obtain ⟨ps, qs, a, b, c, d, e, f, g⟩ := pyL_nob (xs := []) (ys := ys) (fun _ h => by cases h) (List.all_eq_true.mp (show ys.all (nob k) = true from hy))
        exact ⟨.int j, .list qs, by simp [D.py], by simp [D.py, b], by simp [PyData.canLay0], by simpa [PyData.canLay0] using d, by simp [PyData.depth], by simp [PyData.depth]; omega, by simp [PyData.eqv, D.beq]⟩
      | non => exact ⟨.int j, .none, by simp [D.py], by simp [D.py], by simp [PyData.canLay0], by simp [PyData.canLay0], by simp [PyData.depth], by simp [PyData.depth], by simp [PyData.eqv, D.beq]⟩
      | int i => exact ⟨.int j, .int i, by simp [D.py], by simp [D.py], by simp [PyData.canLay0], by simp [PyData.canLay0], by simp [PyData.depth], by simp [PyData.depth], by simp [PyData.eqv, D.beq]⟩
      | str i => exact ⟨.int j, .str i, by simp [D.py], by simp [D.py], by simp [PyData.canLay0], sh hy, by simp [PyData.depth], by simp [PyData.depth], by simp [PyData.eqv, D.beq]⟩
      | _ => cases hy
    | str j =>
      cases y with
      | tup ys =>
        obtain ⟨ps, qs, a, b, c, d, e, f, g⟩ := pyL_nob (xs := []) (ys := ys) (fun _ h => by cases h) (List.all_eq_true.mp (show ys.all (nob k) = true from hy))
        exact ⟨.str j, .tuple qs, by simp [D.py], by simp [D.py, b], sh hx, by simpa [PyData.canLay0] using d, by simp [PyData.depth], by simp [PyData.depth]; omega, by simp [PyData.eqv, D.beq]⟩
      | lst ys =>
        obtain ⟨ps, qs, a, b, c, d, e, f, g⟩ := pyL_nob (xs := []) (ys := ys) (fun _ h => by cases h) (List.all_eq_true.mp (show ys.all (nob k) = true from hy))
        exact ⟨.str j, .list qs, by simp [D.py], by simp [D.py, b], sh hx, by simpa [PyData.canLay0] using d, by simp [PyData.depth], by simp [PyData.depth]; omega, by simp [PyData.eqv, D.beq]⟩
      | non => exact ⟨.str j, .none, by simp [D.py], by simp [D.py], sh hx, by simp [PyData.canLay0], by simp [PyData.depth], by simp [PyData.depth], by simp [PyData.eqv, D.beq]⟩
      | int i => exact ⟨.str j, .int i, by simp [D.py], by simp [D.py], sh hx, by simp [PyData.canLay0], by simp [PyData.depth], by simp [PyData.depth], by simp [PyData.eqv, D.beq]⟩
      | str i => exact ⟨.str j, .str i, by simp [D.py], by simp [D.py], sh hx, sh hy, by simp [PyData.depth], by simp [PyData.depth], by simp [PyData.eqv, D.beq]⟩
      | _ => cases hy
    | _ => cases hx
theorem eqD_nob {k : Nat} {x y : D} (hk : k ≤ 60) (hx : nob k x = true) (hy : nob k y = true) : eqD x y = some (D.beq x y) := by
  obtain ⟨p, q, a1, a2, a3, a4, a5, a6, a7⟩ := py_nob hx hy
  unfold eqD
  simp only [a1, a2]
  rw [if_pos, a7]
  unfold SeqAt.shaped
  simp [a3, a4]
  omega
theorem sm_eqN (k : Nat) {x y : D} {P : D → Prop} (hx : nob k x = true) (hy : nob k y = true) (h : P (.bl (D.beq x y))) (hk : k ≤ 60 := by decide) : Sm (gEq x y) P := ⟨_, by unfold gEq; rw [eqD_nob hk hx hy]; rfl, h⟩
theorem nob_mono : ∀ {k : Nat} {d : D}, nob k d = true → nob (k + 1) d = true
  | 0, _, h => by cases h
  | k + 1, .non, _ => rfl
  | k + 1, .int i, _ => rfl
  | k + 1, .str x, h => h
  | k + 1, .tup xs, h => List.all_eq_true.mpr fun x hx => nob_mono (List.all_eq_true.mp (show xs.all (nob k) = true from h) x hx)
  | k + 1, .lst xs, h => List.all_eq_true.mpr fun x hx => nob_mono (List.all_eq_true.mp (show xs.all (nob k) = true from h) x hx)
  | k + 1, .bl _, h => by cases h
  | k + 1, .ktup _, h => by cases h
  | k + 1, .dic _, h => by cases h
  | k + 1, .obj _ _, h => by cases h
  | k + 1, .scr _, h => by cases h
theorem nob_le {k n : Nat} {d : D} (h : nob k d = true) (l : k ≤ n) : nob n d = true := by
  induction l with
  | refl => exact h
  | step _ ih => exact nob_mono ih
theorem nob_tup {k : Nat} {xs : List D} (h : ∀ x ∈ xs, nob k x = true) : nob (k + 1) (.tup xs) = true := List.all_eq_true.mpr h
theorem nob_stp {k : Nat} {st : Stp} (h : st ∈ allS) : nob (k + 2) st.d = true :=
  nob_le (List.all_eq_true.mp (by decide +kernel : (allS.all fun st => nob 2 st.d) = true) st h) (by omega)
theorem nob_stps {k : Nat} {sts : List Stp} (h : ∀ st ∈ sts, st ∈ allS) : nob (k + 3) (.tup (sts.map Stp.d)) = true := nob_tup fun x hx => by
  obtain ⟨st, hst, rfl⟩ := List.mem_map.mp hx
  exact nob_stp (h st hst)
/-! k15: a Walk's methods -/
section
variable {p1 p2 : Addr} {d0 x z odd : D} {n : Int} {u : List Int} {ps qs ts ns : List D} {sts : List Stp} {st : Stp}
theorem text15 : WOk F_Walk_text_z15 ⟨p1, p2, d0, ps ++ [x], ns⟩ [] x ⟨p1, p2, d0, ps ++ [x], ns⟩ := by
  refine wok rfl rfl ?_
  show W (M_Walk_text_z15 [some (.bor (.wlk p1 p2 d0 (ps ++ [x]) ns))]) _ _
  unfold M_Walk_text_z15
  array_get_dec
  refine w_wix rfl ?_
  array_get_dec
  refine ⟨_, _, _, _, _, _, _, rfl, rfl, atI_last _ _, ?_⟩
  exact ⟨rfl, rfl⟩
theorem log15 : WOk F_Walk_log_z15 ⟨p1, p2, d0, ts, ns⟩ [] (.lst ns) ⟨p1, p2, d0, ts, ns⟩ := by
  refine wok rfl rfl ?_
  show W (M_Walk_log_z15 [some (.bor (.wlk p1 p2 d0 ts ns))]) _ _
  unfold M_Walk_log_z15
  array_get_dec
  refine w_wlist rfl ?_
  array_get_dec
  exact ⟨rfl, rfl⟩
theorem len15 : WOk F_Walk___len___z15 ⟨p1, p2, d0, ts, ns⟩ [] (.int (ns.length : Nat)) ⟨p1, p2, d0, ts, ns⟩ := by
  refine wok rfl rfl ?_
  show W (M_Walk___len___z15 [some (.bor (.wlk p1 p2 d0 ts ns))]) _ _
  unfold M_Walk___len___z15
  array_get_dec
  refine w_wlen rfl ?_
  exact ⟨rfl, rfl⟩
theorem undo15 (hs : ∀ st ∈ sts, st ∈ allS) (h : sts.map Stp.d = ns ++ [z]) : WOk F_Walk_undo_z15 ⟨p1, p2, d0, ps ++ [x], ns ++ [z]⟩ [] (.bl true) ⟨p1, p2, d0, ps, ns⟩ := by
  have hne : D.beq (.lst (ns ++ [z])) (.lst []) = false := by cases ns <;> rfl
  refine wok rfl rfl ?_
  show W (M_Walk_undo_z15 [some (.bor (.wlk p1 p2 d0 (ps ++ [x]) (ns ++ [z])))]) _ _
  unfold M_Walk_undo_z15
  array_get_dec
  refine w_weq rfl ?_
  array_get_dec
  refine ⟨_, _, _, _, _, rfl, sm_eqN 4 (by rw [← h]; exact nob_stps hs) rfl ?_⟩
  rw [hne]
  array_get_dec
  refine w_wpopN rfl ?_
  array_get_dec
  refine w_wpopT rfl ?_
  array_get_dec
  exact ⟨rfl, rfl⟩
theorem do15 (hst : st ∈ allS) (hn : 2 ≤ n) (hl : u.length ≤ 1000) (hv : Vt n u) (h1 : ps.length ≤ 1000) (h2 : ns.length ≤ 1000) :
    WOk F_Walk_do_z15 ⟨p1, p2, .int n, ps ++ [iD u], ns⟩ [st.d] (iD (act n u st)) ⟨p1, p2, .int n, (ps ++ [iD u]) ++ [iD (act n u st)], ns ++ [st.d]⟩ := by
  have hk := small64 (allS_small st hst)
  have hn0 : 0 < n := by omega
  refine wok rfl rfl ?_
  show W (M_Walk_do_z15 [some (.bor (.wlk p1 p2 (.int n) (ps ++ [iD u]) ns)), some (.val st.d)]) _ _
  unfold M_Walk_do_z15
  array_get_dec
  refine w_wappT rfl ?_
  array_get_dec
  refine w_wsize rfl ?_
  array_get_dec
  refine w_wix rfl ?_
  array_get_dec
  refine ⟨_, _, _, _, _, _, _, rfl, rfl, atI_last _ _, ?_⟩
  array_get_dec
  refine ⟨_, _, _, _, _, rfl, fits_of (by simp; omega), ?_⟩
  array_get_dec
  refine w_wappN rfl ?_
  array_get_dec
  refine ⟨_, _, _, _, _, rfl, fits_of (by omega), ?_⟩
  array_get_dec
  refine w_wix rfl ?_
  array_get_dec
  refine ⟨_, _, _, _, _, _, _, rfl, rfl, atI_last _ _, ?_⟩
  exact ⟨rfl, rfl⟩
end

/-! k15: the law -/
def R15 : MS := (mSeq (mSet 1 (mVal (mFrz (mMake "Script" F_Script___init___z15 2 (lCons (mTup (lCons (mTup (lCons (mK (.str "shift")) (lCons (mUn gNeg (mK (.int 2))) lNil))) (lCons (mTup (lCons (mK (.str "back")) lNil)) (lCons (mTup (lCons (mK (.str "times")) (lCons (mK (.int 3)) lNil))) lNil)))) lNil))))) (mRet (mVal (mAnd (mBin gEq (mFrz (mCall F_write 1 (lCons (mVar 1) lNil))) (mK (.str "shift -2\nback\ntimes 3\n"))) (mBin (gEqO "Script" F_Script___eq__) (mFrz (mCall F_read_z15 1 (lCons (mFrz (mCall F_write 1 (lCons (mVar 1) lNil))) lNil))) (mVar 1))))))
theorem R15_eq : (mSeq (mSet 1 (mVal (mFrz (mMake "Script" F_Script___init___z15 2 (lCons (mTup (lCons (mTup (lCons (mK (.str "shift")) (lCons (mUn gNeg (mK (.int 2))) lNil))) (lCons (mTup (lCons (mK (.str "back")) lNil)) (lCons (mTup (lCons (mK (.str "times")) (lCons (mK (.int 3)) lNil))) lNil)))) lNil))))) (mRet (mVal (mAnd (mBin gEq (mFrz (mCall F_write 1 (lCons (mVar 1) lNil))) (mK (.str "shift -2\nback\ntimes 3\n"))) (mBin (gEqO "Script" F_Script___eq__) (mFrz (mCall F_read_z15 1 (lCons (mFrz (mCall F_write 1 (lCons (mVar 1) lNil))) lNil))) (mVar 1)))))) = R15 := rfl
def okRt : Out Fl → Bool
  | .ok (.rt (.val (.bl b))) _ => b
  | _ => false
theorem okRt_w {o : Out Fl} (h : okRt o = true) : W o (kf fun r => r = .val (.bl true)) E9 := by
  cases o with
  | ok f s =>
    cases f with
    | rt r =>
      cases r with
      | val d =>
        cases d with
        | bl b =>
          have h : b = true := h
          subst h
          exact w_ok (kf_v rfl)
        | _ => cases h
      | own o => cases h
      | bor o => cases h
    | nx => cases h
    | bk => cases h
    | ct => cases h
  | exc x s => cases h
  | bad => cases h
theorem end15 (w : Sl) : okRt (R15 [some w, none]) = true := by kernel_rfl
section
variable {p1 p2 : Addr}
theorem led15 : FOk (F__law_led_z15 p1 p2) [] fun r => r = .val (.bl true) := by
  have h1 := do15 (p1 := p1) (p2 := p2) (n := 5) (u := [1, 4]) (ps := []) (ns := []) (st := .rise 2) (by decide +kernel) (by decide) (by decide) (fun x hx => by simp at hx; omega) (by decide) (by decide)
  have h2 := do15 (p1 := p1) (p2 := p2) (n := 5) (u := [1, 1]) (ps := [iD [1, 4]]) (ns := [Stp.d (.rise 2)]) (st := .back) (by decide +kernel) (by decide) (by decide) (fun x hx => by simp at hx; omega) (by decide) (by decide)
  rw [show act 5 [1, 4] (.rise 2) = [1, 1] by decide +kernel] at h1
  rw [show act 5 [1, 1] .back = [1, 1] by decide +kernel] at h2
  have h3 := undo15 (p1 := p1) (p2 := p2) (d0 := .int 5) (ps := [iD [1, 4], iD [1, 1]]) (x := iD [1, 1]) (sts := [.rise 2, .back]) (ns := [Stp.d (.rise 2)]) (z := Stp.d .back) (by decide +kernel) rfl
  have h4 := text15 (p1 := p1) (p2 := p2) (d0 := .int 5) (ps := [iD [1, 4]]) (x := iD [1, 1]) (ns := [Stp.d (.rise 2)])
  have h5 := log15 (p1 := p1) (p2 := p2) (d0 := .int 5) (ts := [iD [1, 4], iD [1, 1]]) (ns := [Stp.d (.rise 2)])
  have h6 := len15 (p1 := p1) (p2 := p2) (d0 := .int 5) (ts := [iD [1, 4], iD [1, 1]]) (ns := [Stp.d (.rise 2)])
  have hn : FEq F_need_text [.int 5, .tup [.int 1, .int 4]] (.val .non) := feq_chk (by decide +kernel)
  refine fok rfl ?_
  show W (M__law_led_z15 p1 p2 [none, none]) _ _
  unfold M__law_led_z15
  rw [R15_eq]
  array_get_dec
  refine w_newW ?_
  array_get_dec
  refine ⟨hn, rfl, ?_⟩
  array_get_dec
  refine w_methW rfl (w_callW rfl ?_)
  array_get_dec
  refine ⟨_, _, _, _, rfl, rfl, h1, ?_⟩
  array_get_dec
  refine w_methW rfl (w_callW rfl ?_)
  array_get_dec
  refine ⟨_, _, _, _, rfl, rfl, h2, ?_⟩
  array_get_dec
  refine w_methW rfl (w_callW rfl ?_)
  array_get_dec
  refine ⟨_, _, _, _, rfl, rfl, h3, ?_⟩
  array_get_dec
  refine Sm.of (z := .bl false) (by kernel_rfl) ?_
  array_get_dec
  refine w_methW rfl (w_callW rfl ?_)
  array_get_dec
  refine ⟨_, _, _, _, rfl, rfl, h4, ?_⟩
  array_get_dec
  refine w_methW rfl (w_callW rfl ?_)
  array_get_dec
  refine ⟨_, _, _, _, rfl, rfl, h5, ?_⟩
  array_get_dec
  refine w_lenW rfl h6 (by decide) ?_
  array_get_dec
  refine Sm.of (z := .bl false) (by kernel_rfl) ?_
  array_get_dec
  exact okRt_w (end15 _)
theorem shifts15 : FEq F__law_shifts_z15 [] (.val (.bl true)) := feq_chk (by decide +kernel)
theorem decided15 : FEq F__law_decided_z15 [] (.val (.bl true)) := feq_chk (by decide +kernel)
theorem found15 : FEq F__law_found_z15 [] (.val (.bl true)) := feq_chk (by decide +kernel)
theorem _law_led_z15_true : ∀ p1 p2, ∃ s, F__law_led_z15 p1 p2 [] = .ok (.val (.bl true)) s := fun p1 p2 => by
  obtain ⟨r, s, e, _, rfl⟩ := (led15 (p1 := p1) (p2 := p2)).get
  exact ⟨s, e⟩
theorem law15 {ns : List Int} (hl : ns.length ≤ 63) : FOk F_law_z15 [.scr ns] fun r => r = .val (.bl true) := by
  refine fok rfl ?_
  unfold M_law_z15
  array_get_dec
  refine And.intro rfl ((random_ok hl (by decide)).imp ?_)
  rintro r ⟨o, rfl, ho⟩
  array_get_dec
  intro o1 ho1 r ⟨hr0, hr1⟩
  array_get_dec
  refine ⟨fun _ => ?_, fun h0 => ?_⟩
  · array_get_dec
    refine And.intro rfl (fok_of shifts15 ?_)
    array_get_dec
    rfl
  array_get_dec
  refine ⟨fun _ => ?_, fun h1 => ?_⟩
  · array_get_dec
    refine And.intro rfl (fok_of decided15 ?_)
    array_get_dec
    rfl
  array_get_dec
  refine ⟨fun _ => ?_, fun h2 => ?_⟩
  · array_get_dec
    refine And.intro rfl (fok_of found15 ?_)
    array_get_dec
    rfl
  array_get_dec
  rfl
theorem pure_law : ∀ ns : List Int, ns.length ≤ 63 → ∃ s, F_law_z15 [.scr ns] = .ok (.val (.bl true)) s := fun ns hl => by
  obtain ⟨r, s, e, _, rfl⟩ := (law15 hl).get
  exact ⟨s, e⟩
end

end Den
set_option Elab.async false
set_option linter.all false
set_option maxRecDepth 100000
set_option maxHeartbeats 8000000
namespace Den
open PySem PySem.Spec PyProof.Rows L2
theorem all_mk {P0 : Program} {w : World} {K : PySem.W.Frag} {h : Heap} {mg : Str → Option Value} {fa : Addr} (X : K.In h) (G : h.Ns mainGlobals mg) (hfa : mg "law" = some (.ref fa))
    {fis_step : Addr} {odis_step anis_step : Option Addr} {slis_step : Array (Option Value)} {ocis_step kVis_step dcis_step pmis_step cdis_step ctis_step : Value} (ais_step : PySem.W.nsIn K mainGlobals "is_step" = some (some (.ref fis_step)))
     (lis_step : K.lookup fis_step = some ⟨ocis_step, odis_step, .func (PySem.W.fnOf "is_step" "is_step" (defArgs s_is_step) (defBody s_is_step) (defScope s_is_step) .none kVis_step dcis_step pmis_step anis_step cdis_step ctis_step), slis_step⟩)
     (cis_step : PySem.W.codeIn K cdis_step "is_step" = true)
     (kis_step : PySem.W.keepIn K (.ref fis_step) = true)
    {fall_steps_z15 : Addr} {odall_steps_z15 anall_steps_z15 : Option Addr} {slall_steps_z15 : Array (Option Value)} {ocall_steps_z15 kVall_steps_z15 dcall_steps_z15 pmall_steps_z15 cdall_steps_z15 ctall_steps_z15 : Value} (aall_steps_z15 : PySem.W.nsIn K mainGlobals "all_steps" = some (some (.ref fall_steps_z15)))
     (lall_steps_z15 : K.lookup fall_steps_z15 = some ⟨ocall_steps_z15, odall_steps_z15, .func (PySem.W.fnOf "all_steps" "all_steps" (defArgs s_all_steps_z15) (defBody s_all_steps_z15) (defScope s_all_steps_z15) .none kVall_steps_z15 dcall_steps_z15 pmall_steps_z15 anall_steps_z15 cdall_steps_z15 ctall_steps_z15), slall_steps_z15⟩)
     (call_steps_z15 : PySem.W.codeIn K cdall_steps_z15 "all_steps" = true)
     (kall_steps_z15 : PySem.W.keepIn K (.ref fall_steps_z15) = true)
    {fScript___eq__ : Addr} {odScript___eq__ anScript___eq__ : Option Addr} {slScript___eq__ : Array (Option Value)} {ocScript___eq__ kVScript___eq__ dcScript___eq__ pmScript___eq__ cdScript___eq__ ctScript___eq__ : Value} {cScript : Addr} (CScript : PySem.W.nsIn K mainGlobals "Script" = some (some (.ref cScript)))
     (aScript___eq__ : PySem.W.findIn K (.ref cScript) "__eq__" = some (some (.ref fScript___eq__)))
     (lScript___eq__ : K.lookup fScript___eq__ = some ⟨ocScript___eq__, odScript___eq__, .func (PySem.W.fnOf "__eq__" "Script.__eq__" (defArgs s_Script___eq__) (defBody s_Script___eq__) (defScope s_Script___eq__) .none kVScript___eq__ dcScript___eq__ pmScript___eq__ anScript___eq__ cdScript___eq__ ctScript___eq__), slScript___eq__⟩)
     (cScript___eq__ : PySem.W.codeIn K cdScript___eq__ "Script.__eq__" = true)
     (kScript___eq__ : PySem.W.keepIn K (.ref fScript___eq__) = true)
    {pScript_steps : Addr} {restScript_steps : List Value} (aScript_steps : PySem.W.findIn K (.ref cScript) "steps" = some (some (.ref pScript_steps)))
     (pgScript_steps : PySem.W.specialIn K (.ref pScript_steps) "__get__" = some (some (.builtin "property.__get__")))
     (ptScript_steps : PySem.W.takesIn K (.ref pScript_steps) = some true)
     (prScript_steps : PySem.W.recIn K pScript_steps "property" = some (.ref fScript_steps :: restScript_steps))
     (lScript_steps : K.lookup fScript_steps = some ⟨ocScript_steps, odScript_steps, .func (PySem.W.fnOf "steps" "Script.steps" (defArgs s_Script_steps) (defBody s_Script_steps) (defScope s_Script_steps) .none kVScript_steps dcScript_steps pmScript_steps anScript_steps cdScript_steps ctScript_steps), slScript_steps⟩)
     (cScript_steps : PySem.W.codeIn K cdScript_steps "Script.steps" = true)
     (kScript_steps : PySem.W.keepIn K (.ref fScript_steps) = true)
    {fis_from : Addr} {odis_from anis_from : Option Addr} {slis_from : Array (Option Value)} {ocis_from kVis_from dcis_from pmis_from cdis_from ctis_from : Value} (ais_from : PySem.W.nsIn K mainGlobals "is_from" = some (some (.ref fis_from)))
     (lis_from : K.lookup fis_from = some ⟨ocis_from, odis_from, .func (PySem.W.fnOf "is_from" "is_from" (defArgs s_is_from) (defBody s_is_from) (defScope s_is_from) .none kVis_from dcis_from pmis_from anis_from cdis_from ctis_from), slis_from⟩)
     (cis_from : PySem.W.codeIn K cdis_from "is_from" = true)
     (kis_from : PySem.W.keepIn K (.ref fis_from) = true)
    {fdone : Addr} {oddone andone : Option Addr} {sldone : Array (Option Value)} {ocdone kVdone dcdone pmdone cddone ctdone : Value} (adone : PySem.W.nsIn K mainGlobals "done" = some (some (.ref fdone)))
     (ldone : K.lookup fdone = some ⟨ocdone, oddone, .func (PySem.W.fnOf "done" "done" (defArgs s_done) (defBody s_done) (defScope s_done) .none kVdone dcdone pmdone andone cddone ctdone), sldone⟩)
     (cdone : PySem.W.codeIn K cddone "done" = true)
     (kdone : PySem.W.keepIn K (.ref fdone) = true)
    {fwith_more : Addr} {odwith_more anwith_more : Option Addr} {slwith_more : Array (Option Value)} {ocwith_more kVwith_more dcwith_more pmwith_more cdwith_more ctwith_more : Value} (awith_more : PySem.W.nsIn K mainGlobals "with_more" = some (some (.ref fwith_more)))
     (lwith_more : K.lookup fwith_more = some ⟨ocwith_more, odwith_more, .func (PySem.W.fnOf "with_more" "with_more" (defArgs s_with_more) (defBody s_with_more) (defScope s_with_more) .none kVwith_more dcwith_more pmwith_more anwith_more cdwith_more ctwith_more), slwith_more⟩)
     (cwith_more : PySem.W.codeIn K cdwith_more "with_more" = true)
     (kwith_more : PySem.W.keepIn K (.ref fwith_more) = true)
    {fdivisor : Addr} {oddivisor andivisor : Option Addr} {sldivisor : Array (Option Value)} {ocdivisor kVdivisor dcdivisor pmdivisor cddivisor ctdivisor : Value} (adivisor : PySem.W.nsIn K mainGlobals "divisor" = some (some (.ref fdivisor)))
     (ldivisor : K.lookup fdivisor = some ⟨ocdivisor, oddivisor, .func (PySem.W.fnOf "divisor" "divisor" (defArgs s_divisor) (defBody s_divisor) (defScope s_divisor) .none kVdivisor dcdivisor pmdivisor andivisor cddivisor ctdivisor), sldivisor⟩)
     (cdivisor : PySem.W.codeIn K cddivisor "divisor" = true)
     (kdivisor : PySem.W.keepIn K (.ref fdivisor) = true)
    {fwide : Addr} {odwide anwide : Option Addr} {slwide : Array (Option Value)} {ocwide kVwide dcwide pmwide cdwide ctwide : Value} (awide : PySem.W.nsIn K mainGlobals "wide" = some (some (.ref fwide)))
     (lwide : K.lookup fwide = some ⟨ocwide, odwide, .func (PySem.W.fnOf "wide" "wide" (defArgs s_wide) (defBody s_wide) (defScope s_wide) .none kVwide dcwide pmwide anwide cdwide ctwide), slwide⟩)
     (cwide : PySem.W.codeIn K cdwide "wide" = true)
     (kwide : PySem.W.keepIn K (.ref fwide) = true)
    {ftext_for : Addr} {odtext_for antext_for : Option Addr} {sltext_for : Array (Option Value)} {octext_for kVtext_for dctext_for pmtext_for cdtext_for cttext_for : Value} (atext_for : PySem.W.nsIn K mainGlobals "text_for" = some (some (.ref ftext_for)))
     (ltext_for : K.lookup ftext_for = some ⟨octext_for, odtext_for, .func (PySem.W.fnOf "text_for" "text_for" (defArgs s_text_for) (defBody s_text_for) (defScope s_text_for) .none kVtext_for dctext_for pmtext_for antext_for cdtext_for cttext_for), sltext_for⟩)
     (ctext_for : PySem.W.codeIn K cdtext_for "text_for" = true)
     (ktext_for : PySem.W.keepIn K (.ref ftext_for) = true)
    {floses : Addr} {odloses anloses : Option Addr} {slloses : Array (Option Value)} {ocloses kVloses dcloses pmloses cdloses ctloses : Value} (aloses : PySem.W.nsIn K mainGlobals "loses" = some (some (.ref floses)))
     (lloses : K.lookup floses = some ⟨ocloses, odloses, .func (PySem.W.fnOf "loses" "loses" (defArgs s_loses) (defBody s_loses) (defScope s_loses) .none kVloses dcloses pmloses anloses cdloses ctloses), slloses⟩)
     (closes : PySem.W.codeIn K cdloses "loses" = true)
     (kloses : PySem.W.keepIn K (.ref floses) = true)
    {funits : Addr} {odunits anunits : Option Addr} {slunits : Array (Option Value)} {ocunits kVunits dcunits pmunits cdunits ctunits : Value} (aunits : PySem.W.nsIn K mainGlobals "units" = some (some (.ref funits)))
     (lunits : K.lookup funits = some ⟨ocunits, odunits, .func (PySem.W.fnOf "units" "units" (defArgs s_units) (defBody s_units) (defScope s_units) .none kVunits dcunits pmunits anunits cdunits ctunits), slunits⟩)
     (cunits : PySem.W.codeIn K cdunits "units" = true)
     (kunits : PySem.W.keepIn K (.ref funits) = true)
    {fwrite : Addr} {odwrite anwrite : Option Addr} {slwrite : Array (Option Value)} {ocwrite kVwrite dcwrite pmwrite cdwrite ctwrite : Value} (awrite : PySem.W.nsIn K mainGlobals "write" = some (some (.ref fwrite)))
     (lwrite : K.lookup fwrite = some ⟨ocwrite, odwrite, .func (PySem.W.fnOf "write" "write" (defArgs s_write) (defBody s_write) (defScope s_write) .none kVwrite dcwrite pmwrite anwrite cdwrite ctwrite), slwrite⟩)
     (cwrite : PySem.W.codeIn K cdwrite "write" = true)
     (kwrite : PySem.W.keepIn K (.ref fwrite) = true)
    {fWalk_undo : Addr} {odWalk_undo anWalk_undo : Option Addr} {slWalk_undo : Array (Option Value)} {ocWalk_undo kVWalk_undo dcWalk_undo pmWalk_undo cdWalk_undo ctWalk_undo : Value} {cWalk : Addr} (CWalk : PySem.W.nsIn K mainGlobals "Walk" = some (some (.ref cWalk)))
     (aWalk_undo : PySem.W.findIn K (.ref cWalk) "undo" = some (some (.ref fWalk_undo)))
     (lWalk_undo : K.lookup fWalk_undo = some ⟨ocWalk_undo, odWalk_undo, .func (PySem.W.fnOf "undo" "Walk.undo" (defArgs s_Walk_undo) (defBody s_Walk_undo) (defScope s_Walk_undo) .none kVWalk_undo dcWalk_undo pmWalk_undo anWalk_undo cdWalk_undo ctWalk_undo), slWalk_undo⟩)
     (cWalk_undo : PySem.W.codeIn K cdWalk_undo "Walk.undo" = true)
     (kWalk_undo : PySem.W.keepIn K (.ref fWalk_undo) = true)
     (aWalk_text : PySem.W.findIn K (.ref cWalk) "text" = some (some (.ref fWalk_text)))
     (lWalk_text : K.lookup fWalk_text = some ⟨ocWalk_text, odWalk_text, .func (PySem.W.fnOf "text" "Walk.text" (defArgs s_Walk_text) (defBody s_Walk_text) (defScope s_Walk_text) .none kVWalk_text dcWalk_text pmWalk_text anWalk_text cdWalk_text ctWalk_text), slWalk_text⟩)
     (cWalk_text : PySem.W.codeIn K cdWalk_text "Walk.text" = true)
     (kWalk_text : PySem.W.keepIn K (.ref fWalk_text) = true)
     (aWalk_log : PySem.W.findIn K (.ref cWalk) "log" = some (some (.ref fWalk_log)))
     (lWalk_log : K.lookup fWalk_log = some ⟨ocWalk_log, odWalk_log, .func (PySem.W.fnOf "log" "Walk.log" (defArgs s_Walk_log) (defBody s_Walk_log) (defScope s_Walk_log) .none kVWalk_log dcWalk_log pmWalk_log anWalk_log cdWalk_log ctWalk_log), slWalk_log⟩)
     (cWalk_log : PySem.W.codeIn K cdWalk_log "Walk.log" = true)
     (kWalk_log : PySem.W.keepIn K (.ref fWalk_log) = true)
     (aWalk___len__ : PySem.W.findIn K (.ref cWalk) "__len__" = some (some (.ref fWalk___len__)))
     (lWalk___len__ : K.lookup fWalk___len__ = some ⟨ocWalk___len__, odWalk___len__, .func (PySem.W.fnOf "__len__" "Walk.__len__" (defArgs s_Walk___len__) (defBody s_Walk___len__) (defScope s_Walk___len__) .none kVWalk___len__ dcWalk___len__ pmWalk___len__ anWalk___len__ cdWalk___len__ ctWalk___len__), slWalk___len__⟩)
     (cWalk___len__ : PySem.W.codeIn K cdWalk___len__ "Walk.__len__" = true)
     (kWalk___len__ : PySem.W.keepIn K (.ref fWalk___len__) = true)
    {f_law_random : Addr} {od_law_random an_law_random : Option Addr} {sl_law_random : Array (Option Value)} {oc_law_random kV_law_random dc_law_random pm_law_random cd_law_random ct_law_random : Value} (a_law_random : PySem.W.nsIn K mainGlobals "_law_random" = some (some (.ref f_law_random)))
     (l_law_random : K.lookup f_law_random = some ⟨oc_law_random, od_law_random, .func (PySem.W.fnOf "_law_random" "_law_random" (defArgs s__law_random) (defBody s__law_random) (defScope s__law_random) .none kV_law_random dc_law_random pm_law_random an_law_random cd_law_random ct_law_random), sl_law_random⟩)
     (c_law_random : PySem.W.codeIn K cd_law_random "_law_random" = true)
     (k_law_random : PySem.W.keepIn K (.ref f_law_random) = true)
    {f_law_below : Addr} {od_law_below an_law_below : Option Addr} {sl_law_below : Array (Option Value)} {oc_law_below kV_law_below dc_law_below pm_law_below cd_law_below ct_law_below : Value} (a_law_below : PySem.W.nsIn K mainGlobals "_law_below" = some (some (.ref f_law_below)))
     (l_law_below : K.lookup f_law_below = some ⟨oc_law_below, od_law_below, .func (PySem.W.fnOf "_law_below" "_law_below" (defArgs s__law_below) (defBody s__law_below) (defScope s__law_below) .none kV_law_below dc_law_below pm_law_below an_law_below cd_law_below ct_law_below), sl_law_below⟩)
     (c_law_below : PySem.W.codeIn K cd_law_below "_law_below" = true)
     (k_law_below : PySem.W.keepIn K (.ref f_law_below) = true)
    {fis_text : Addr} {odis_text anis_text : Option Addr} {slis_text : Array (Option Value)} {ocis_text kVis_text dcis_text pmis_text cdis_text ctis_text : Value} (ais_text : PySem.W.nsIn K mainGlobals "is_text" = some (some (.ref fis_text)))
     (lis_text : K.lookup fis_text = some ⟨ocis_text, odis_text, .func (PySem.W.fnOf "is_text" "is_text" (defArgs s_is_text) (defBody s_is_text) (defScope s_is_text) .none kVis_text dcis_text pmis_text anis_text cdis_text ctis_text), slis_text⟩)
     (cis_text : PySem.W.codeIn K cdis_text "is_text" = true)
     (kis_text : PySem.W.keepIn K (.ref fis_text) = true)
    {fall_done : Addr} {odall_done anall_done : Option Addr} {slall_done : Array (Option Value)} {ocall_done kVall_done dcall_done pmall_done cdall_done ctall_done : Value} (aall_done : PySem.W.nsIn K mainGlobals "all_done" = some (some (.ref fall_done)))
     (lall_done : K.lookup fall_done = some ⟨ocall_done, odall_done, .func (PySem.W.fnOf "all_done" "all_done" (defArgs s_all_done) (defBody s_all_done) (defScope s_all_done) .none kVall_done dcall_done pmall_done anall_done cdall_done ctall_done), slall_done⟩)
     (call_done : PySem.W.codeIn K cdall_done "all_done" = true)
     (kall_done : PySem.W.keepIn K (.ref fall_done) = true)
    {fcommon_of : Addr} {odcommon_of ancommon_of : Option Addr} {slcommon_of : Array (Option Value)} {occommon_of kVcommon_of dccommon_of pmcommon_of cdcommon_of ctcommon_of : Value} (acommon_of : PySem.W.nsIn K mainGlobals "common_of" = some (some (.ref fcommon_of)))
     (lcommon_of : K.lookup fcommon_of = some ⟨occommon_of, odcommon_of, .func (PySem.W.fnOf "common_of" "common_of" (defArgs s_common_of) (defBody s_common_of) (defScope s_common_of) .none kVcommon_of dccommon_of pmcommon_of ancommon_of cdcommon_of ctcommon_of), slcommon_of⟩)
     (ccommon_of : PySem.W.codeIn K cdcommon_of "common_of" = true)
     (kcommon_of : PySem.W.keepIn K (.ref fcommon_of) = true)
    {frows_to_two_z15 : Addr} {odrows_to_two_z15 anrows_to_two_z15 : Option Addr} {slrows_to_two_z15 : Array (Option Value)} {ocrows_to_two_z15 kVrows_to_two_z15 dcrows_to_two_z15 pmrows_to_two_z15 cdrows_to_two_z15 ctrows_to_two_z15 : Value} (arows_to_two_z15 : PySem.W.nsIn K mainGlobals "rows_to_two" = some (some (.ref frows_to_two_z15)))
     (lrows_to_two_z15 : K.lookup frows_to_two_z15 = some ⟨ocrows_to_two_z15, odrows_to_two_z15, .func (PySem.W.fnOf "rows_to_two" "rows_to_two" (defArgs s_rows_to_two_z15) (defBody s_rows_to_two_z15) (defScope s_rows_to_two_z15) .none kVrows_to_two_z15 dcrows_to_two_z15 pmrows_to_two_z15 anrows_to_two_z15 cdrows_to_two_z15 ctrows_to_two_z15), slrows_to_two_z15⟩)
     (crows_to_two_z15 : PySem.W.codeIn K cdrows_to_two_z15 "rows_to_two" = true)
     (krows_to_two_z15 : PySem.W.keepIn K (.ref frows_to_two_z15) = true)
     (aScript___init__ : PySem.W.findIn K (.ref cScript) "__init__" = some (some (.ref fScript___init__)))
     (lScript___init__ : K.lookup fScript___init__ = some ⟨ocScript___init__, odScript___init__, .func (PySem.W.fnOf "__init__" "Script.__init__" (defArgs s_Script___init__) (defBody s_Script___init__) (defScope s_Script___init__) .none kVScript___init__ dcScript___init__ pmScript___init__ anScript___init__ cdScript___init__ ctScript___init__), slScript___init__⟩)
     (cScript___init__ : PySem.W.codeIn K cdScript___init__ "Script.__init__" = true)
     (kScript___init__ : PySem.W.keepIn K (.ref fScript___init__) = true)
    {fneed_text : Addr} {odneed_text anneed_text : Option Addr} {slneed_text : Array (Option Value)} {ocneed_text kVneed_text dcneed_text pmneed_text cdneed_text ctneed_text : Value} (aneed_text : PySem.W.nsIn K mainGlobals "need_text" = some (some (.ref fneed_text)))
     (lneed_text : K.lookup fneed_text = some ⟨ocneed_text, odneed_text, .func (PySem.W.fnOf "need_text" "need_text" (defArgs s_need_text) (defBody s_need_text) (defScope s_need_text) .none kVneed_text dcneed_text pmneed_text anneed_text cdneed_text ctneed_text), slneed_text⟩)
     (cneed_text : PySem.W.codeIn K cdneed_text "need_text" = true)
     (kneed_text : PySem.W.keepIn K (.ref fneed_text) = true)
    {frounds : Addr} {odrounds anrounds : Option Addr} {slrounds : Array (Option Value)} {ocrounds kVrounds dcrounds pmrounds cdrounds ctrounds : Value} (arounds : PySem.W.nsIn K mainGlobals "rounds" = some (some (.ref frounds)))
     (lrounds : K.lookup frounds = some ⟨ocrounds, odrounds, .func (PySem.W.fnOf "rounds" "rounds" (defArgs s_rounds) (defBody s_rounds) (defScope s_rounds) .none kVrounds dcrounds pmrounds anrounds cdrounds ctrounds), slrounds⟩)
     (crounds : PySem.W.codeIn K cdrounds "rounds" = true)
     (krounds : PySem.W.keepIn K (.ref frounds) = true)
    {fis_choice_z15 : Addr} {odis_choice_z15 anis_choice_z15 : Option Addr} {slis_choice_z15 : Array (Option Value)} {ocis_choice_z15 kVis_choice_z15 dcis_choice_z15 pmis_choice_z15 cdis_choice_z15 ctis_choice_z15 : Value} (ais_choice_z15 : PySem.W.nsIn K mainGlobals "is_choice" = some (some (.ref fis_choice_z15)))
     (lis_choice_z15 : K.lookup fis_choice_z15 = some ⟨ocis_choice_z15, odis_choice_z15, .func (PySem.W.fnOf "is_choice" "is_choice" (defArgs s_is_choice_z15) (defBody s_is_choice_z15) (defScope s_is_choice_z15) .none kVis_choice_z15 dcis_choice_z15 pmis_choice_z15 anis_choice_z15 cdis_choice_z15 ctis_choice_z15), slis_choice_z15⟩)
     (cis_choice_z15 : PySem.W.codeIn K cdis_choice_z15 "is_choice" = true)
     (kis_choice_z15 : PySem.W.keepIn K (.ref fis_choice_z15) = true)
    {fstep_in_z15 : Addr} {odstep_in_z15 anstep_in_z15 : Option Addr} {slstep_in_z15 : Array (Option Value)} {ocstep_in_z15 kVstep_in_z15 dcstep_in_z15 pmstep_in_z15 cdstep_in_z15 ctstep_in_z15 : Value} (astep_in_z15 : PySem.W.nsIn K mainGlobals "step_in" = some (some (.ref fstep_in_z15)))
     (lstep_in_z15 : K.lookup fstep_in_z15 = some ⟨ocstep_in_z15, odstep_in_z15, .func (PySem.W.fnOf "step_in" "step_in" (defArgs s_step_in_z15) (defBody s_step_in_z15) (defScope s_step_in_z15) .none kVstep_in_z15 dcstep_in_z15 pmstep_in_z15 anstep_in_z15 cdstep_in_z15 ctstep_in_z15), slstep_in_z15⟩)
     (cstep_in_z15 : PySem.W.codeIn K cdstep_in_z15 "step_in" = true)
     (kstep_in_z15 : PySem.W.keepIn K (.ref fstep_in_z15) = true)
     (aWalk_do : PySem.W.findIn K (.ref cWalk) "do" = some (some (.ref fWalk_do)))
     (lWalk_do : K.lookup fWalk_do = some ⟨ocWalk_do, odWalk_do, .func (PySem.W.fnOf "do" "Walk.do" (defArgs s_Walk_do) (defBody s_Walk_do) (defScope s_Walk_do) .none kVWalk_do dcWalk_do pmWalk_do anWalk_do cdWalk_do ctWalk_do), slWalk_do⟩)
     (cWalk_do : PySem.W.codeIn K cdWalk_do "Walk.do" = true)
     (kWalk_do : PySem.W.keepIn K (.ref fWalk_do) = true)
    {fshifted : Addr} {odshifted anshifted : Option Addr} {slshifted : Array (Option Value)} {ocshifted kVshifted dcshifted pmshifted cdshifted ctshifted : Value} (ashifted : PySem.W.nsIn K mainGlobals "shifted" = some (some (.ref fshifted)))
     (lshifted : K.lookup fshifted = some ⟨ocshifted, odshifted, .func (PySem.W.fnOf "shifted" "shifted" (defArgs s_shifted) (defBody s_shifted) (defScope s_shifted) .none kVshifted dcshifted pmshifted anshifted cdshifted ctshifted), slshifted⟩)
     (cshifted : PySem.W.codeIn K cdshifted "shifted" = true)
     (kshifted : PySem.W.keepIn K (.ref fshifted) = true)
    {ftrace : Addr} {odtrace antrace : Option Addr} {sltrace : Array (Option Value)} {octrace kVtrace dctrace pmtrace cdtrace cttrace : Value} (atrace : PySem.W.nsIn K mainGlobals "trace" = some (some (.ref ftrace)))
     (ltrace : K.lookup ftrace = some ⟨octrace, odtrace, .func (PySem.W.fnOf "trace" "trace" (defArgs s_trace) (defBody s_trace) (defScope s_trace) .none kVtrace dctrace pmtrace antrace cdtrace cttrace), sltrace⟩)
     (ctrace : PySem.W.codeIn K cdtrace "trace" = true)
     (ktrace : PySem.W.keepIn K (.ref ftrace) = true)
    {fis_seen_z15 : Addr} {odis_seen_z15 anis_seen_z15 : Option Addr} {slis_seen_z15 : Array (Option Value)} {ocis_seen_z15 kVis_seen_z15 dcis_seen_z15 pmis_seen_z15 cdis_seen_z15 ctis_seen_z15 : Value} (ais_seen_z15 : PySem.W.nsIn K mainGlobals "is_seen" = some (some (.ref fis_seen_z15)))
     (lis_seen_z15 : K.lookup fis_seen_z15 = some ⟨ocis_seen_z15, odis_seen_z15, .func (PySem.W.fnOf "is_seen" "is_seen" (defArgs s_is_seen_z15) (defBody s_is_seen_z15) (defScope s_is_seen_z15) .none kVis_seen_z15 dcis_seen_z15 pmis_seen_z15 anis_seen_z15 cdis_seen_z15 ctis_seen_z15), slis_seen_z15⟩)
     (cis_seen_z15 : PySem.W.codeIn K cdis_seen_z15 "is_seen" = true)
     (kis_seen_z15 : PySem.W.keepIn K (.ref fis_seen_z15) = true)
     (aWalk___init__ : PySem.W.findIn K (.ref cWalk) "__init__" = some (some (.ref fWalk___init__)))
     (lWalk___init__ : K.lookup fWalk___init__ = some ⟨ocWalk___init__, odWalk___init__, .func (PySem.W.fnOf "__init__" "Walk.__init__" (defArgs s_Walk___init__) (defBody s_Walk___init__) (defScope s_Walk___init__) .none kVWalk___init__ dcWalk___init__ pmWalk___init__ anWalk___init__ cdWalk___init__ ctWalk___init__), slWalk___init__⟩)
     (cWalk___init__ : PySem.W.codeIn K cdWalk___init__ "Walk.__init__" = true)
     (kWalk___init__ : PySem.W.keepIn K (.ref fWalk___init__) = true)
    {fundoing_z15 : Addr} {odundoing_z15 anundoing_z15 : Option Addr} {slundoing_z15 : Array (Option Value)} {ocundoing_z15 kVundoing_z15 dcundoing_z15 pmundoing_z15 cdundoing_z15 ctundoing_z15 : Value} (aundoing_z15 : PySem.W.nsIn K mainGlobals "undoing" = some (some (.ref fundoing_z15)))
     (lundoing_z15 : K.lookup fundoing_z15 = some ⟨ocundoing_z15, odundoing_z15, .func (PySem.W.fnOf "undoing" "undoing" (defArgs s_undoing_z15) (defBody s_undoing_z15) (defScope s_undoing_z15) .none kVundoing_z15 dcundoing_z15 pmundoing_z15 anundoing_z15 cdundoing_z15 ctundoing_z15), slundoing_z15⟩)
     (cundoing_z15 : PySem.W.codeIn K cdundoing_z15 "undoing" = true)
     (kundoing_z15 : PySem.W.keepIn K (.ref fundoing_z15) = true)
    {ffitting_z15 : Addr} {odfitting_z15 anfitting_z15 : Option Addr} {slfitting_z15 : Array (Option Value)} {ocfitting_z15 kVfitting_z15 dcfitting_z15 pmfitting_z15 cdfitting_z15 ctfitting_z15 : Value} (afitting_z15 : PySem.W.nsIn K mainGlobals "fitting" = some (some (.ref ffitting_z15)))
     (lfitting_z15 : K.lookup ffitting_z15 = some ⟨ocfitting_z15, odfitting_z15, .func (PySem.W.fnOf "fitting" "fitting" (defArgs s_fitting_z15) (defBody s_fitting_z15) (defScope s_fitting_z15) .none kVfitting_z15 dcfitting_z15 pmfitting_z15 anfitting_z15 cdfitting_z15 ctfitting_z15), slfitting_z15⟩)
     (cfitting_z15 : PySem.W.codeIn K cdfitting_z15 "fitting" = true)
     (kfitting_z15 : PySem.W.keepIn K (.ref ffitting_z15) = true)
    {fread_z15 : Addr} {odread_z15 anread_z15 : Option Addr} {slread_z15 : Array (Option Value)} {ocread_z15 kVread_z15 dcread_z15 pmread_z15 cdread_z15 ctread_z15 : Value} (aread_z15 : PySem.W.nsIn K mainGlobals "read" = some (some (.ref fread_z15)))
     (lread_z15 : K.lookup fread_z15 = some ⟨ocread_z15, odread_z15, .func (PySem.W.fnOf "read" "read" (defArgs s_read_z15) (defBody s_read_z15) (defScope s_read_z15) .none kVread_z15 dcread_z15 pmread_z15 anread_z15 cdread_z15 ctread_z15), slread_z15⟩)
     (cread_z15 : PySem.W.codeIn K cdread_z15 "read" = true)
     (kread_z15 : PySem.W.keepIn K (.ref fread_z15) = true)
    {fasking_z15 : Addr} {odasking_z15 anasking_z15 : Option Addr} {slasking_z15 : Array (Option Value)} {ocasking_z15 kVasking_z15 dcasking_z15 pmasking_z15 cdasking_z15 ctasking_z15 : Value} (aasking_z15 : PySem.W.nsIn K mainGlobals "asking" = some (some (.ref fasking_z15)))
     (lasking_z15 : K.lookup fasking_z15 = some ⟨ocasking_z15, odasking_z15, .func (PySem.W.fnOf "asking" "asking" (defArgs s_asking_z15) (defBody s_asking_z15) (defScope s_asking_z15) .none kVasking_z15 dcasking_z15 pmasking_z15 anasking_z15 cdasking_z15 ctasking_z15), slasking_z15⟩)
     (casking_z15 : PySem.W.codeIn K cdasking_z15 "asking" = true)
     (kasking_z15 : PySem.W.keepIn K (.ref fasking_z15) = true)
    {f_law_led_z15 : Addr} {od_law_led_z15 an_law_led_z15 : Option Addr} {sl_law_led_z15 : Array (Option Value)} {oc_law_led_z15 kV_law_led_z15 dc_law_led_z15 pm_law_led_z15 cd_law_led_z15 ct_law_led_z15 : Value} (a_law_led_z15 : PySem.W.nsIn K mainGlobals "_law_led" = some (some (.ref f_law_led_z15)))
     (l_law_led_z15 : K.lookup f_law_led_z15 = some ⟨oc_law_led_z15, od_law_led_z15, .func (PySem.W.fnOf "_law_led" "_law_led" (defArgs s__law_led_z15) (defBody s__law_led_z15) (defScope s__law_led_z15) .none kV_law_led_z15 dc_law_led_z15 pm_law_led_z15 an_law_led_z15 cd_law_led_z15 ct_law_led_z15), sl_law_led_z15⟩)
     (c_law_led_z15 : PySem.W.codeIn K cd_law_led_z15 "_law_led" = true)
     (k_law_led_z15 : PySem.W.keepIn K (.ref f_law_led_z15) = true)
    {f_law_found_z15 : Addr} {od_law_found_z15 an_law_found_z15 : Option Addr} {sl_law_found_z15 : Array (Option Value)} {oc_law_found_z15 kV_law_found_z15 dc_law_found_z15 pm_law_found_z15 cd_law_found_z15 ct_law_found_z15 : Value} (a_law_found_z15 : PySem.W.nsIn K mainGlobals "_law_found" = some (some (.ref f_law_found_z15)))
     (l_law_found_z15 : K.lookup f_law_found_z15 = some ⟨oc_law_found_z15, od_law_found_z15, .func (PySem.W.fnOf "_law_found" "_law_found" (defArgs s__law_found_z15) (defBody s__law_found_z15) (defScope s__law_found_z15) .none kV_law_found_z15 dc_law_found_z15 pm_law_found_z15 an_law_found_z15 cd_law_found_z15 ct_law_found_z15), sl_law_found_z15⟩)
     (c_law_found_z15 : PySem.W.codeIn K cd_law_found_z15 "_law_found" = true)
     (k_law_found_z15 : PySem.W.keepIn K (.ref f_law_found_z15) = true)
    {fsum_at : Addr} {odsum_at ansum_at : Option Addr} {slsum_at : Array (Option Value)} {ocsum_at kVsum_at dcsum_at pmsum_at cdsum_at ctsum_at : Value} (asum_at : PySem.W.nsIn K mainGlobals "sum_at" = some (some (.ref fsum_at)))
     (lsum_at : K.lookup fsum_at = some ⟨ocsum_at, odsum_at, .func (PySem.W.fnOf "sum_at" "sum_at" (defArgs s_sum_at) (defBody s_sum_at) (defScope s_sum_at) .none kVsum_at dcsum_at pmsum_at ansum_at cdsum_at ctsum_at), slsum_at⟩)
     (csum_at : PySem.W.codeIn K cdsum_at "sum_at" = true)
     (ksum_at : PySem.W.keepIn K (.ref fsum_at) = true)
    {fletter : Addr} {odletter anletter : Option Addr} {slletter : Array (Option Value)} {ocletter kVletter dcletter pmletter cdletter ctletter : Value} (aletter : PySem.W.nsIn K mainGlobals "letter" = some (some (.ref fletter)))
     (lletter : K.lookup fletter = some ⟨ocletter, odletter, .func (PySem.W.fnOf "letter" "letter" (defArgs s_letter) (defBody s_letter) (defScope s_letter) .none kVletter dcletter pmletter anletter cdletter ctletter), slletter⟩)
     (cletter : PySem.W.codeIn K cdletter "letter" = true)
     (kletter : PySem.W.keepIn K (.ref fletter) = true)
    {funlike_sums : Addr} {odunlike_sums anunlike_sums : Option Addr} {slunlike_sums : Array (Option Value)} {ocunlike_sums kVunlike_sums dcunlike_sums pmunlike_sums cdunlike_sums ctunlike_sums : Value} (aunlike_sums : PySem.W.nsIn K mainGlobals "unlike_sums" = some (some (.ref funlike_sums)))
     (lunlike_sums : K.lookup funlike_sums = some ⟨ocunlike_sums, odunlike_sums, .func (PySem.W.fnOf "unlike_sums" "unlike_sums" (defArgs s_unlike_sums) (defBody s_unlike_sums) (defScope s_unlike_sums) .none kVunlike_sums dcunlike_sums pmunlike_sums anunlike_sums cdunlike_sums ctunlike_sums), slunlike_sums⟩)
     (cunlike_sums : PySem.W.codeIn K cdunlike_sums "unlike_sums" = true)
     (kunlike_sums : PySem.W.keepIn K (.ref funlike_sums) = true)
    {fall_unlike : Addr} {odall_unlike anall_unlike : Option Addr} {slall_unlike : Array (Option Value)} {ocall_unlike kVall_unlike dcall_unlike pmall_unlike cdall_unlike ctall_unlike : Value} (aall_unlike : PySem.W.nsIn K mainGlobals "all_unlike" = some (some (.ref fall_unlike)))
     (lall_unlike : K.lookup fall_unlike = some ⟨ocall_unlike, odall_unlike, .func (PySem.W.fnOf "all_unlike" "all_unlike" (defArgs s_all_unlike) (defBody s_all_unlike) (defScope s_all_unlike) .none kVall_unlike dcall_unlike pmall_unlike anall_unlike cdall_unlike ctall_unlike), slall_unlike⟩)
     (call_unlike : PySem.W.codeIn K cdall_unlike "all_unlike" = true)
     (kall_unlike : PySem.W.keepIn K (.ref fall_unlike) = true)
    {f_law_shifts_z15 : Addr} {od_law_shifts_z15 an_law_shifts_z15 : Option Addr} {sl_law_shifts_z15 : Array (Option Value)} {oc_law_shifts_z15 kV_law_shifts_z15 dc_law_shifts_z15 pm_law_shifts_z15 cd_law_shifts_z15 ct_law_shifts_z15 : Value} (a_law_shifts_z15 : PySem.W.nsIn K mainGlobals "_law_shifts" = some (some (.ref f_law_shifts_z15)))
     (l_law_shifts_z15 : K.lookup f_law_shifts_z15 = some ⟨oc_law_shifts_z15, od_law_shifts_z15, .func (PySem.W.fnOf "_law_shifts" "_law_shifts" (defArgs s__law_shifts_z15) (defBody s__law_shifts_z15) (defScope s__law_shifts_z15) .none kV_law_shifts_z15 dc_law_shifts_z15 pm_law_shifts_z15 an_law_shifts_z15 cd_law_shifts_z15 ct_law_shifts_z15), sl_law_shifts_z15⟩)
     (c_law_shifts_z15 : PySem.W.codeIn K cd_law_shifts_z15 "_law_shifts" = true)
     (k_law_shifts_z15 : PySem.W.keepIn K (.ref f_law_shifts_z15) = true)
    {ffirst_unlike : Addr} {odfirst_unlike anfirst_unlike : Option Addr} {slfirst_unlike : Array (Option Value)} {ocfirst_unlike kVfirst_unlike dcfirst_unlike pmfirst_unlike cdfirst_unlike ctfirst_unlike : Value} (afirst_unlike : PySem.W.nsIn K mainGlobals "first_unlike" = some (some (.ref ffirst_unlike)))
     (lfirst_unlike : K.lookup ffirst_unlike = some ⟨ocfirst_unlike, odfirst_unlike, .func (PySem.W.fnOf "first_unlike" "first_unlike" (defArgs s_first_unlike) (defBody s_first_unlike) (defScope s_first_unlike) .none kVfirst_unlike dcfirst_unlike pmfirst_unlike anfirst_unlike cdfirst_unlike ctfirst_unlike), slfirst_unlike⟩)
     (cfirst_unlike : PySem.W.codeIn K cdfirst_unlike "first_unlike" = true)
     (kfirst_unlike : PySem.W.keepIn K (.ref ffirst_unlike) = true)
    {fparting : Addr} {odparting anparting : Option Addr} {slparting : Array (Option Value)} {ocparting kVparting dcparting pmparting cdparting ctparting : Value} (aparting : PySem.W.nsIn K mainGlobals "parting" = some (some (.ref fparting)))
     (lparting : K.lookup fparting = some ⟨ocparting, odparting, .func (PySem.W.fnOf "parting" "parting" (defArgs s_parting) (defBody s_parting) (defScope s_parting) .none kVparting dcparting pmparting anparting cdparting ctparting), slparting⟩)
     (cparting : PySem.W.codeIn K cdparting "parting" = true)
     (kparting : PySem.W.keepIn K (.ref fparting) = true)
    {fundone : Addr} {odundone anundone : Option Addr} {slundone : Array (Option Value)} {ocundone kVundone dcundone pmundone cdundone ctundone : Value} (aundone : PySem.W.nsIn K mainGlobals "undone" = some (some (.ref fundone)))
     (lundone : K.lookup fundone = some ⟨ocundone, odundone, .func (PySem.W.fnOf "undone" "undone" (defArgs s_undone) (defBody s_undone) (defScope s_undone) .none kVundone dcundone pmundone anundone cdundone ctundone), slundone⟩)
     (cundone : PySem.W.codeIn K cdundone "undone" = true)
     (kundone : PySem.W.keepIn K (.ref fundone) = true)
    {fswaps : Addr} {odswaps answaps : Option Addr} {slswaps : Array (Option Value)} {ocswaps kVswaps dcswaps pmswaps cdswaps ctswaps : Value} (aswaps : PySem.W.nsIn K mainGlobals "swaps" = some (some (.ref fswaps)))
     (lswaps : K.lookup fswaps = some ⟨ocswaps, odswaps, .func (PySem.W.fnOf "swaps" "swaps" (defArgs s_swaps) (defBody s_swaps) (defScope s_swaps) .none kVswaps dcswaps pmswaps answaps cdswaps ctswaps), slswaps⟩)
     (cswaps : PySem.W.codeIn K cdswaps "swaps" = true)
     (kswaps : PySem.W.keepIn K (.ref fswaps) = true)
    {fidle : Addr} {odidle anidle : Option Addr} {slidle : Array (Option Value)} {ocidle kVidle dcidle pmidle cdidle ctidle : Value} (aidle : PySem.W.nsIn K mainGlobals "idle" = some (some (.ref fidle)))
     (lidle : K.lookup fidle = some ⟨ocidle, odidle, .func (PySem.W.fnOf "idle" "idle" (defArgs s_idle) (defBody s_idle) (defScope s_idle) .none kVidle dcidle pmidle anidle cdidle ctidle), slidle⟩)
     (cidle : PySem.W.codeIn K cdidle "idle" = true)
     (kidle : PySem.W.keepIn K (.ref fidle) = true)
    {falike : Addr} {odalike analike : Option Addr} {slalike : Array (Option Value)} {ocalike kValike dcalike pmalike cdalike ctalike : Value} (aalike : PySem.W.nsIn K mainGlobals "alike" = some (some (.ref falike)))
     (lalike : K.lookup falike = some ⟨ocalike, odalike, .func (PySem.W.fnOf "alike" "alike" (defArgs s_alike) (defBody s_alike) (defScope s_alike) .none kValike dcalike pmalike analike cdalike ctalike), slalike⟩)
     (calike : PySem.W.codeIn K cdalike "alike" = true)
     (kalike : PySem.W.keepIn K (.ref falike) = true)
    {f_law_decided_z15 : Addr} {od_law_decided_z15 an_law_decided_z15 : Option Addr} {sl_law_decided_z15 : Array (Option Value)} {oc_law_decided_z15 kV_law_decided_z15 dc_law_decided_z15 pm_law_decided_z15 cd_law_decided_z15 ct_law_decided_z15 : Value} (a_law_decided_z15 : PySem.W.nsIn K mainGlobals "_law_decided" = some (some (.ref f_law_decided_z15)))
     (l_law_decided_z15 : K.lookup f_law_decided_z15 = some ⟨oc_law_decided_z15, od_law_decided_z15, .func (PySem.W.fnOf "_law_decided" "_law_decided" (defArgs s__law_decided_z15) (defBody s__law_decided_z15) (defScope s__law_decided_z15) .none kV_law_decided_z15 dc_law_decided_z15 pm_law_decided_z15 an_law_decided_z15 cd_law_decided_z15 ct_law_decided_z15), sl_law_decided_z15⟩)
     (c_law_decided_z15 : PySem.W.codeIn K cd_law_decided_z15 "_law_decided" = true)
     (k_law_decided_z15 : PySem.W.keepIn K (.ref f_law_decided_z15) = true)
    {flaw_z15 : Addr} {odlaw_z15 anlaw_z15 : Option Addr} {sllaw_z15 : Array (Option Value)} {oclaw_z15 kVlaw_z15 dclaw_z15 pmlaw_z15 cdlaw_z15 ctlaw_z15 : Value} (alaw_z15 : PySem.W.nsIn K mainGlobals "law" = some (some (.ref flaw_z15)))
     (llaw_z15 : K.lookup flaw_z15 = some ⟨oclaw_z15, odlaw_z15, .func (PySem.W.fnOf "law" "law" (defArgs s_law_z15) (defBody s_law_z15) (defScope s_law_z15) .none kVlaw_z15 dclaw_z15 pmlaw_z15 anlaw_z15 cdlaw_z15 ctlaw_z15), sllaw_z15⟩)
     (claw_z15 : PySem.W.codeIn K cdlaw_z15 "law" = true)
     (klaw_z15 : PySem.W.keepIn K (.ref flaw_z15) = true)
     (zabs : PySem.W.nsIn K mainGlobals "abs" = some none)
     (zall : PySem.W.nsIn K mainGlobals "all" = some none)
     (zany : PySem.W.nsIn K mainGlobals "any" = some none)
     (zbool : PySem.W.nsIn K mainGlobals "bool" = some none)
     (zdict : PySem.W.nsIn K mainGlobals "dict" = some none)
     (zenumerate : PySem.W.nsIn K mainGlobals "enumerate" = some none)
     (zint : PySem.W.nsIn K mainGlobals "int" = some none)
     (zisinstance : PySem.W.nsIn K mainGlobals "isinstance" = some none)
     (zlen : PySem.W.nsIn K mainGlobals "len" = some none)
     (zlist : PySem.W.nsIn K mainGlobals "list" = some none)
     (zmax : PySem.W.nsIn K mainGlobals "max" = some none)
     (zmin : PySem.W.nsIn K mainGlobals "min" = some none)
     (zrange : PySem.W.nsIn K mainGlobals "range" = some none)
     (zset : PySem.W.nsIn K mainGlobals "set" = some none)
     (zsorted : PySem.W.nsIn K mainGlobals "sorted" = some none)
     (zstr : PySem.W.nsIn K mainGlobals "str" = some none)
     (ztuple : PySem.W.nsIn K mainGlobals "tuple" = some none)
     (zzip : PySem.W.nsIn K mainGlobals "zip" = some none)
    {aBESIDE : Addr} (gBESIDE : PySem.W.nsIn K mainGlobals "BESIDE" = some (some (.ref aBESIDE)))
     (tBESIDE : tupIs K aBESIDE [.str "ahead", .str "behind"] = true)
    {tGREATEST : Tok} (gGREATEST : PySem.W.nsIn K mainGlobals "GREATEST" = some (some (.int 1000000000000000000000000000000 tGREATEST)))
    {aITSELF : Addr} (gITSELF : PySem.W.nsIn K mainGlobals "ITSELF" = some (some (.ref aITSELF)))
     (tITSELF : tupIs K aITSELF [.str "mirror", .str "back"] = true)
    {tMOST_LENGTH : Tok} (gMOST_LENGTH : PySem.W.nsIn K mainGlobals "MOST_LENGTH" = some (some (.int 3 tMOST_LENGTH)))
    {tMOST_LETTERS : Tok} (gMOST_LETTERS : PySem.W.nsIn K mainGlobals "MOST_LETTERS" = some (some (.int 200 tMOST_LETTERS)))
    {tMOST_SIZE : Tok} (gMOST_SIZE : PySem.W.nsIn K mainGlobals "MOST_SIZE" = some (some (.int 12 tMOST_SIZE)))
    {tMOST_STEPS : Tok} (gMOST_STEPS : PySem.W.nsIn K mainGlobals "MOST_STEPS" = some (some (.int 5 tMOST_STEPS)))
    {aNUMBERS : Addr} {esNUMBERS : Array DictEntry} {nNUMBERS : Nat} (gNUMBERS : PySem.W.nsIn K mainGlobals "NUMBERS" = some (some (.ref aNUMBERS)))
     (mNUMBERS : K.lookup aNUMBERS = some ⟨.type "dict", none, .dict esNUMBERS nNUMBERS, #[]⟩)
     (qNUMBERS : PySem.W.KeysLit w.params esNUMBERS.toList)
     (rNUMBERS : (aNUMBERS == sysModules) = false)
     (tNUMBERS : tbIs K aNUMBERS tb_NUMBERS = true)
    {aPLAIN : Addr} (gPLAIN : PySem.W.nsIn K mainGlobals "PLAIN" = some (some (.ref aPLAIN)))
     (tPLAIN : tupIs K aPLAIN [.str "back", .str "mirror"] = true)
    {aSIGNED : Addr} (gSIGNED : PySem.W.nsIn K mainGlobals "SIGNED" = some (some (.ref aSIGNED)))
     (tSIGNED : tupIs K aSIGNED [.str "shift", .str "rise", .str "fall"] = true)
     (pgScript : PySem.W.plainGet K cScript Str.empty = true)
     (hdScript : PySem.W.hasDictIn K cScript = true)
     (poScript : PySem.W.plainOver K cScript = true)
     (saScript : PySem.W.findIn K (.ref cScript) "__setattr__" = some (some (.builtin "object.__setattr__")))
     (mkScript : PySem.W.makesIn K cScript = true)
     (fnScript : PySem.W.isFn K (.ref fScript___init__) = true)
     (kpScript : PySem.W.keepIn K (.ref cScript) = true)
     (pgWalk : PySem.W.plainGet K cWalk Str.empty = true)
     (hdWalk : PySem.W.hasDictIn K cWalk = true)
     (poWalk : PySem.W.plainOver K cWalk = true)
     (saWalk : PySem.W.findIn K (.ref cWalk) "__setattr__" = some (some (.builtin "object.__setattr__")))
     (mkWalk : PySem.W.makesIn K cWalk = true)
     (fnWalk : PySem.W.isFn K (.ref fWalk___init__) = true)
     (kpWalk : PySem.W.keepIn K (.ref cWalk) = true)
     (haScript : PySem.W.findIn K (.ref cScript) "__class__" = some (some (.builtin "object.__class__")))
     (hnScript : PySem.W.specialIn K (.builtin "object.__class__") "__get__" = some (some (.builtin "getset_descriptor.__get__")))
     (htScript : PySem.W.takesIn K (.builtin "object.__class__") = some true)
     (hmScript : PySem.W.mroIn K cScript (.type "object") = some true)
     (meScript : PySem.W.kitOne K (.ref cScript) (.ref cScript) = some true)
     (eqfScript : PySem.W.isFn K (.ref fScript___eq__) = true)
     (naScriptrows : PySem.W.findIn K (.ref cScript) "rows" = some none)
     (naWalknoted : PySem.W.findIn K (.ref cWalk) "noted" = some none)
     (naWalksize : PySem.W.findIn K (.ref cWalk) "size" = some none)
     (naWalktexts : PySem.W.findIn K (.ref cWalk) "texts" = some none)
    {cBadChoice : Addr} (CBadChoice : PySem.W.nsIn K mainGlobals "BadChoice" = some (some (.ref cBadChoice)))
    {cBadLength : Addr} (CBadLength : PySem.W.nsIn K mainGlobals "BadLength" = some (some (.ref cBadLength)))
    {cBadLine : Addr} (CBadLine : PySem.W.nsIn K mainGlobals "BadLine" = some (some (.ref cBadLine)))
    {cBadPlace : Addr} (CBadPlace : PySem.W.nsIn K mainGlobals "BadPlace" = some (some (.ref cBadPlace)))
    {cBadSeen : Addr} (CBadSeen : PySem.W.nsIn K mainGlobals "BadSeen" = some (some (.ref cBadSeen)))
    {cBadSize : Addr} (CBadSize : PySem.W.nsIn K mainGlobals "BadSize" = some (some (.ref cBadSize)))
    {cBadSteps : Addr} (CBadSteps : PySem.W.nsIn K mainGlobals "BadSteps" = some (some (.ref cBadSteps)))
    {cBadText : Addr} (CBadText : PySem.W.nsIn K mainGlobals "BadText" = some (some (.ref cBadText)))
     (x1BadLength : PySem.W.excIn K cBadLength [.type "ValueError", .type "Exception", .type "BaseException", .type "object"] "ValueError.__new__" = true)
     (x2BadLength : PySem.W.keepIn K (.ref cBadLength) = true)
     (x3BadLength : PySem.W.subIn K (.ref cBadLength) (.type "BaseException") = some true)
     (x4BadLength : PySem.W.typeIn K (.ref cBadLength) = some (.type "type"))
     (x1BadPlace : PySem.W.excIn K cBadPlace [.type "ValueError", .type "Exception", .type "BaseException", .type "object"] "ValueError.__new__" = true)
     (x2BadPlace : PySem.W.keepIn K (.ref cBadPlace) = true)
     (x3BadPlace : PySem.W.subIn K (.ref cBadPlace) (.type "BaseException") = some true)
     (x4BadPlace : PySem.W.typeIn K (.ref cBadPlace) = some (.type "type"))
     (x1BadSize : PySem.W.excIn K cBadSize [.type "ValueError", .type "Exception", .type "BaseException", .type "object"] "ValueError.__new__" = true)
     (x2BadSize : PySem.W.keepIn K (.ref cBadSize) = true)
     (x3BadSize : PySem.W.subIn K (.ref cBadSize) (.type "BaseException") = some true)
     (x4BadSize : PySem.W.typeIn K (.ref cBadSize) = some (.type "type"))
     (x1BadText : PySem.W.excIn K cBadText [.type "ValueError", .type "Exception", .type "BaseException", .type "object"] "ValueError.__new__" = true)
     (x2BadText : PySem.W.keepIn K (.ref cBadText) = true)
     (x3BadText : PySem.W.subIn K (.ref cBadText) (.type "BaseException") = some true)
     (x4BadText : PySem.W.typeIn K (.ref cBadText) = some (.type "type"))
     (klNUMBERS : keyL K aNUMBERS ["ahead", "behind", "fall", "rise", "shift", "times"] = true)
     (wfWalk_do : PySem.W.isFn K (.ref fWalk_do) = true)
     (wfWalk_log : PySem.W.isFn K (.ref fWalk_log) = true)
     (wfWalk_text : PySem.W.isFn K (.ref fWalk_text) = true)
     (wfWalk_undo : PySem.W.isFn K (.ref fWalk_undo) = true)
     (lnfWalk : PySem.W.isFn K (.ref fWalk___len__) = true)
    {fBadChoice___init__ ccBadChoice___init__ cdaBadChoice___init__ : Addr} {odBadChoice___init__ anBadChoice___init__ : Option Addr} {slBadChoice___init__ : Array (Option Value)} {ocBadChoice___init__ kVBadChoice___init__ dcBadChoice___init__ pmBadChoice___init__ ctBadChoice___init__ : Value} (iBadChoice___init__ : PySem.W.findIn K (.ref cBadChoice) "__init__" = some (some (.ref fBadChoice___init__)))
     (lBadChoice___init__ : K.lookup fBadChoice___init__ = some ⟨ocBadChoice___init__, odBadChoice___init__, .func (PySem.W.fnX "__init__" "BadChoice.__init__" (defArgs s_BadChoice___init__) (defBody s_BadChoice___init__) (defScope s_BadChoice___init__) [("__class__", ccBadChoice___init__)] .none kVBadChoice___init__ dcBadChoice___init__ pmBadChoice___init__ anBadChoice___init__ (.ref cdaBadChoice___init__) ctBadChoice___init__), slBadChoice___init__⟩)
     (cBadChoice___init__ : PySem.W.codeIn K (.ref cdaBadChoice___init__) "BadChoice.__init__" = true)
     (yBadChoice___init__ : PySem.W.typeIn K (.ref fBadChoice___init__) = some (.type "function"))
    {nmBadChoice qBadChoice : Str} {NBadChoice : Addr} {bsBadChoice bmBadChoice subBadChoice : List Value} {snBadChoice : List Str} {abBadChoice : Bool} {colBadChoice : Option Bool} {ddBadChoice : Option Addr} {k0BadChoice k1BadChoice k2BadChoice k3BadChoice k5BadChoice : Option Value} (oc1BadChoice : K.lookup cBadChoice = some (excClassObj nmBadChoice qBadChoice cBadChoice NBadChoice bsBadChoice bmBadChoice true snBadChoice subBadChoice abBadChoice colBadChoice ddBadChoice k0BadChoice k1BadChoice k2BadChoice k3BadChoice k5BadChoice "ValueError.__new__"))
     (oc2BadChoice : PySem.HandSPX.refsVE bmBadChoice = true)
     (oc3BadChoice : PySem.W.findIn K (.ref cBadChoice) "__setattr__" = some (some (.builtin "object.__setattr__")))
     (x2BadChoice : PySem.W.keepIn K (.ref cBadChoice) = true)
     (x3BadChoice : PySem.W.subIn K (.ref cBadChoice) (.type "BaseException") = some true)
     (x4BadChoice : PySem.W.typeIn K (.ref cBadChoice) = some (.type "type"))
    {ceaBadChoice : Value} {cebBadChoice : Option Addr} {cesBadChoice : Array (Option Value)} (ceBadChoice : K.lookup ccBadChoice___init__ = some ⟨ceaBadChoice, cebBadChoice, .cell (some (.ref cBadChoice)), cesBadChoice⟩)
    {coaBadChoice : Value} {cobBadChoice : Option Addr} {covBadChoice : Array Value} {cosBadChoice : Array (Option Value)} (coBadChoice : K.lookup cdaBadChoice___init__ = some ⟨coaBadChoice, cobBadChoice, .fields covBadChoice, cosBadChoice⟩)
    {cfiBadChoice : Str} {cftBadChoice : Tok} (cvBadChoice : covBadChoice[2]? = some (.str cfiBadChoice cftBadChoice))
     (cfBadChoice : ((P0.main.file : Str) == cfiBadChoice) = true)
     (opBadChoice : PySem.W.nsIn K cStatics "thirdparty.any" = some none)
     (siBadChoice : PySem.W.ks_superIn K cBadChoice cBadChoice "__init__" = some (some (.builtin "ValueError.__init__")))
     (suBadChoice : PySem.W.subIn K (.ref cBadChoice) (.type "ValueError") = some true)
     (seBadChoice : PySem.W.mroIn K cBadChoice (.ref cBadChoice) = some true)
     (toBadChoice : (P0.main.scope.names.lookup ("super" : Str)).isSome = false)
     (zsuper : PySem.W.nsIn K mainGlobals "super" = some none)
     (gaBadChoice : PySem.W.findIn K (.ref cBadChoice) "__getattribute__" = some (some (.builtin "BaseException.__getattribute__")))
     (ggBadChoice : PySem.W.findIn K (.ref cBadChoice) "__getattr__" = some none)
     (hd2BadChoice : PySem.W.hasDictIn K cBadChoice = true)
     (vfBadChoiceindex : PySem.W.findIn K (.ref cBadChoice) "index" = some none)
    {fBadLine___init__ ccBadLine___init__ cdaBadLine___init__ : Addr} {odBadLine___init__ anBadLine___init__ : Option Addr} {slBadLine___init__ : Array (Option Value)} {ocBadLine___init__ kVBadLine___init__ dcBadLine___init__ pmBadLine___init__ ctBadLine___init__ : Value} (iBadLine___init__ : PySem.W.findIn K (.ref cBadLine) "__init__" = some (some (.ref fBadLine___init__)))
     (lBadLine___init__ : K.lookup fBadLine___init__ = some ⟨ocBadLine___init__, odBadLine___init__, .func (PySem.W.fnX "__init__" "BadLine.__init__" (defArgs s_BadLine___init__) (defBody s_BadLine___init__) (defScope s_BadLine___init__) [("__class__", ccBadLine___init__)] .none kVBadLine___init__ dcBadLine___init__ pmBadLine___init__ anBadLine___init__ (.ref cdaBadLine___init__) ctBadLine___init__), slBadLine___init__⟩)
     (cBadLine___init__ : PySem.W.codeIn K (.ref cdaBadLine___init__) "BadLine.__init__" = true)
     (yBadLine___init__ : PySem.W.typeIn K (.ref fBadLine___init__) = some (.type "function"))
    {nmBadLine qBadLine : Str} {NBadLine : Addr} {bsBadLine bmBadLine subBadLine : List Value} {snBadLine : List Str} {abBadLine : Bool} {colBadLine : Option Bool} {ddBadLine : Option Addr} {k0BadLine k1BadLine k2BadLine k3BadLine k5BadLine : Option Value} (oc1BadLine : K.lookup cBadLine = some (excClassObj nmBadLine qBadLine cBadLine NBadLine bsBadLine bmBadLine true snBadLine subBadLine abBadLine colBadLine ddBadLine k0BadLine k1BadLine k2BadLine k3BadLine k5BadLine "ValueError.__new__"))
     (oc2BadLine : PySem.HandSPX.refsVE bmBadLine = true)
     (oc3BadLine : PySem.W.findIn K (.ref cBadLine) "__setattr__" = some (some (.builtin "object.__setattr__")))
     (x2BadLine : PySem.W.keepIn K (.ref cBadLine) = true)
     (x3BadLine : PySem.W.subIn K (.ref cBadLine) (.type "BaseException") = some true)
     (x4BadLine : PySem.W.typeIn K (.ref cBadLine) = some (.type "type"))
    {ceaBadLine : Value} {cebBadLine : Option Addr} {cesBadLine : Array (Option Value)} (ceBadLine : K.lookup ccBadLine___init__ = some ⟨ceaBadLine, cebBadLine, .cell (some (.ref cBadLine)), cesBadLine⟩)
    {coaBadLine : Value} {cobBadLine : Option Addr} {covBadLine : Array Value} {cosBadLine : Array (Option Value)} (coBadLine : K.lookup cdaBadLine___init__ = some ⟨coaBadLine, cobBadLine, .fields covBadLine, cosBadLine⟩)
    {cfiBadLine : Str} {cftBadLine : Tok} (cvBadLine : covBadLine[2]? = some (.str cfiBadLine cftBadLine))
     (cfBadLine : ((P0.main.file : Str) == cfiBadLine) = true)
     (opBadLine : PySem.W.nsIn K cStatics "thirdparty.any" = some none)
     (siBadLine : PySem.W.ks_superIn K cBadLine cBadLine "__init__" = some (some (.builtin "ValueError.__init__")))
     (suBadLine : PySem.W.subIn K (.ref cBadLine) (.type "ValueError") = some true)
     (seBadLine : PySem.W.mroIn K cBadLine (.ref cBadLine) = some true)
     (toBadLine : (P0.main.scope.names.lookup ("super" : Str)).isSome = false)
     (gaBadLine : PySem.W.findIn K (.ref cBadLine) "__getattribute__" = some (some (.builtin "BaseException.__getattribute__")))
     (ggBadLine : PySem.W.findIn K (.ref cBadLine) "__getattr__" = some none)
     (hd2BadLine : PySem.W.hasDictIn K cBadLine = true)
     (vfBadLineline : PySem.W.findIn K (.ref cBadLine) "line" = some none)
     (vfBadLineword : PySem.W.findIn K (.ref cBadLine) "word" = some none)
    {fBadSeen___init__ ccBadSeen___init__ cdaBadSeen___init__ : Addr} {odBadSeen___init__ anBadSeen___init__ : Option Addr} {slBadSeen___init__ : Array (Option Value)} {ocBadSeen___init__ kVBadSeen___init__ dcBadSeen___init__ pmBadSeen___init__ ctBadSeen___init__ : Value} (iBadSeen___init__ : PySem.W.findIn K (.ref cBadSeen) "__init__" = some (some (.ref fBadSeen___init__)))
     (lBadSeen___init__ : K.lookup fBadSeen___init__ = some ⟨ocBadSeen___init__, odBadSeen___init__, .func (PySem.W.fnX "__init__" "BadSeen.__init__" (defArgs s_BadSeen___init__) (defBody s_BadSeen___init__) (defScope s_BadSeen___init__) [("__class__", ccBadSeen___init__)] .none kVBadSeen___init__ dcBadSeen___init__ pmBadSeen___init__ anBadSeen___init__ (.ref cdaBadSeen___init__) ctBadSeen___init__), slBadSeen___init__⟩)
     (cBadSeen___init__ : PySem.W.codeIn K (.ref cdaBadSeen___init__) "BadSeen.__init__" = true)
     (yBadSeen___init__ : PySem.W.typeIn K (.ref fBadSeen___init__) = some (.type "function"))
    {nmBadSeen qBadSeen : Str} {NBadSeen : Addr} {bsBadSeen bmBadSeen subBadSeen : List Value} {snBadSeen : List Str} {abBadSeen : Bool} {colBadSeen : Option Bool} {ddBadSeen : Option Addr} {k0BadSeen k1BadSeen k2BadSeen k3BadSeen k5BadSeen : Option Value} (oc1BadSeen : K.lookup cBadSeen = some (excClassObj nmBadSeen qBadSeen cBadSeen NBadSeen bsBadSeen bmBadSeen true snBadSeen subBadSeen abBadSeen colBadSeen ddBadSeen k0BadSeen k1BadSeen k2BadSeen k3BadSeen k5BadSeen "ValueError.__new__"))
     (oc2BadSeen : PySem.HandSPX.refsVE bmBadSeen = true)
     (oc3BadSeen : PySem.W.findIn K (.ref cBadSeen) "__setattr__" = some (some (.builtin "object.__setattr__")))
     (x2BadSeen : PySem.W.keepIn K (.ref cBadSeen) = true)
     (x3BadSeen : PySem.W.subIn K (.ref cBadSeen) (.type "BaseException") = some true)
     (x4BadSeen : PySem.W.typeIn K (.ref cBadSeen) = some (.type "type"))
    {ceaBadSeen : Value} {cebBadSeen : Option Addr} {cesBadSeen : Array (Option Value)} (ceBadSeen : K.lookup ccBadSeen___init__ = some ⟨ceaBadSeen, cebBadSeen, .cell (some (.ref cBadSeen)), cesBadSeen⟩)
    {coaBadSeen : Value} {cobBadSeen : Option Addr} {covBadSeen : Array Value} {cosBadSeen : Array (Option Value)} (coBadSeen : K.lookup cdaBadSeen___init__ = some ⟨coaBadSeen, cobBadSeen, .fields covBadSeen, cosBadSeen⟩)
    {cfiBadSeen : Str} {cftBadSeen : Tok} (cvBadSeen : covBadSeen[2]? = some (.str cfiBadSeen cftBadSeen))
     (cfBadSeen : ((P0.main.file : Str) == cfiBadSeen) = true)
     (opBadSeen : PySem.W.nsIn K cStatics "thirdparty.any" = some none)
     (siBadSeen : PySem.W.ks_superIn K cBadSeen cBadSeen "__init__" = some (some (.builtin "ValueError.__init__")))
     (suBadSeen : PySem.W.subIn K (.ref cBadSeen) (.type "ValueError") = some true)
     (seBadSeen : PySem.W.mroIn K cBadSeen (.ref cBadSeen) = some true)
     (toBadSeen : (P0.main.scope.names.lookup ("super" : Str)).isSome = false)
     (gaBadSeen : PySem.W.findIn K (.ref cBadSeen) "__getattribute__" = some (some (.builtin "BaseException.__getattribute__")))
     (ggBadSeen : PySem.W.findIn K (.ref cBadSeen) "__getattr__" = some none)
     (hd2BadSeen : PySem.W.hasDictIn K cBadSeen = true)
     (vfBadSeenindex : PySem.W.findIn K (.ref cBadSeen) "index" = some none)
    {fBadSteps___init__ ccBadSteps___init__ cdaBadSteps___init__ : Addr} {odBadSteps___init__ anBadSteps___init__ : Option Addr} {slBadSteps___init__ : Array (Option Value)} {ocBadSteps___init__ kVBadSteps___init__ dcBadSteps___init__ pmBadSteps___init__ ctBadSteps___init__ : Value} (iBadSteps___init__ : PySem.W.findIn K (.ref cBadSteps) "__init__" = some (some (.ref fBadSteps___init__)))
     (lBadSteps___init__ : K.lookup fBadSteps___init__ = some ⟨ocBadSteps___init__, odBadSteps___init__, .func (PySem.W.fnX "__init__" "BadSteps.__init__" (defArgs s_BadSteps___init__) (defBody s_BadSteps___init__) (defScope s_BadSteps___init__) [("__class__", ccBadSteps___init__)] .none kVBadSteps___init__ dcBadSteps___init__ pmBadSteps___init__ anBadSteps___init__ (.ref cdaBadSteps___init__) ctBadSteps___init__), slBadSteps___init__⟩)
     (cBadSteps___init__ : PySem.W.codeIn K (.ref cdaBadSteps___init__) "BadSteps.__init__" = true)
     (yBadSteps___init__ : PySem.W.typeIn K (.ref fBadSteps___init__) = some (.type "function"))
    {nmBadSteps qBadSteps : Str} {NBadSteps : Addr} {bsBadSteps bmBadSteps subBadSteps : List Value} {snBadSteps : List Str} {abBadSteps : Bool} {colBadSteps : Option Bool} {ddBadSteps : Option Addr} {k0BadSteps k1BadSteps k2BadSteps k3BadSteps k5BadSteps : Option Value} (oc1BadSteps : K.lookup cBadSteps = some (excClassObj nmBadSteps qBadSteps cBadSteps NBadSteps bsBadSteps bmBadSteps true snBadSteps subBadSteps abBadSteps colBadSteps ddBadSteps k0BadSteps k1BadSteps k2BadSteps k3BadSteps k5BadSteps "ValueError.__new__"))
     (oc2BadSteps : PySem.HandSPX.refsVE bmBadSteps = true)
     (oc3BadSteps : PySem.W.findIn K (.ref cBadSteps) "__setattr__" = some (some (.builtin "object.__setattr__")))
     (x2BadSteps : PySem.W.keepIn K (.ref cBadSteps) = true)
     (x3BadSteps : PySem.W.subIn K (.ref cBadSteps) (.type "BaseException") = some true)
     (x4BadSteps : PySem.W.typeIn K (.ref cBadSteps) = some (.type "type"))
    {ceaBadSteps : Value} {cebBadSteps : Option Addr} {cesBadSteps : Array (Option Value)} (ceBadSteps : K.lookup ccBadSteps___init__ = some ⟨ceaBadSteps, cebBadSteps, .cell (some (.ref cBadSteps)), cesBadSteps⟩)
    {coaBadSteps : Value} {cobBadSteps : Option Addr} {covBadSteps : Array Value} {cosBadSteps : Array (Option Value)} (coBadSteps : K.lookup cdaBadSteps___init__ = some ⟨coaBadSteps, cobBadSteps, .fields covBadSteps, cosBadSteps⟩)
    {cfiBadSteps : Str} {cftBadSteps : Tok} (cvBadSteps : covBadSteps[2]? = some (.str cfiBadSteps cftBadSteps))
     (cfBadSteps : ((P0.main.file : Str) == cfiBadSteps) = true)
     (opBadSteps : PySem.W.nsIn K cStatics "thirdparty.any" = some none)
     (siBadSteps : PySem.W.ks_superIn K cBadSteps cBadSteps "__init__" = some (some (.builtin "ValueError.__init__")))
     (suBadSteps : PySem.W.subIn K (.ref cBadSteps) (.type "ValueError") = some true)
     (seBadSteps : PySem.W.mroIn K cBadSteps (.ref cBadSteps) = some true)
     (toBadSteps : (P0.main.scope.names.lookup ("super" : Str)).isSome = false)
     (gaBadSteps : PySem.W.findIn K (.ref cBadSteps) "__getattribute__" = some (some (.builtin "BaseException.__getattribute__")))
     (ggBadSteps : PySem.W.findIn K (.ref cBadSteps) "__getattr__" = some none)
     (hd2BadSteps : PySem.W.hasDictIn K cBadSteps = true)
     (vfBadStepsindex : PySem.W.findIn K (.ref cBadSteps) "index" = some none)
    : ∃ fd : FuncData, (∀ (s : Shared) (v : Value), BindsTo s fd ⟨[v], []⟩ [("_law_script", v)]) ∧ ∀ base : Heap, K.In base → base.Ns mainGlobals mg → FnOk P0 w K mg base (L2N.CX P0 w) 20 fa fd ["_law_script"] (spW K) := by
  have e := hfa.symm.trans (PySem.W.mg_of X G alaw_z15)
  cases e
  have Fis_step := fun_mk (st := s_is_step) lis_step cis_step kis_step
  have bis_step := Fis_step.binds (ps := ["value"]) fun _ _ _ _ _ _ us hl => match us, hl with | [_], _ => rfl
  have Fall_steps_z15 := fun_mk (st := s_all_steps_z15) lall_steps_z15 call_steps_z15 kall_steps_z15
  have ball_steps_z15 := Fall_steps_z15.binds (ps := []) fun _ _ _ _ _ _ us hl => match us, hl with | [], _ => rfl
  have FScript___eq__ := fun_mk (st := s_Script___eq__) lScript___eq__ cScript___eq__ kScript___eq__
  have bScript___eq__ := FScript___eq__.binds (ps := ["self", "other"]) fun _ _ _ _ _ _ us hl => match us, hl with | [_, _], _ => rfl
  have FScript_steps := fun_mk (st := s_Script_steps) lScript_steps cScript_steps kScript_steps
  have bScript_steps := FScript_steps.binds (ps := ["self"]) fun _ _ _ _ _ _ us hl => match us, hl with | [_], _ => rfl
  have Fis_from := fun_mk (st := s_is_from) lis_from cis_from kis_from
  have bis_from := Fis_from.binds (ps := ["value", "least", "most"]) fun _ _ _ _ _ _ us hl => match us, hl with | [_, _, _], _ => rfl
  have Fdone := fun_mk (st := s_done) ldone cdone kdone
  have bdone := Fdone.binds (ps := ["step", "n", "text"]) fun _ _ _ _ _ _ us hl => match us, hl with | [_, _, _], _ => rfl
  have Fwith_more := fun_mk (st := s_with_more) lwith_more cwith_more kwith_more
  have bwith_more := Fwith_more.binds (ps := ["one", "other", "many"]) fun _ _ _ _ _ _ us hl => match us, hl with | [_, _, _], _ => rfl
  have Fdivisor := fun_mk (st := s_divisor) ldivisor cdivisor kdivisor
  have bdivisor := Fdivisor.binds (ps := ["one", "other"]) fun _ _ _ _ _ _ us hl => match us, hl with | [_, _], _ => rfl
  have Fwide := fun_mk (st := s_wide) lwide cwide kwide
  have bwide := Fwide.binds (ps := ["steps"]) fun _ _ _ _ _ _ us hl => match us, hl with | [_], _ => rfl
  have Ftext_for := fun_mk (st := s_text_for) ltext_for ctext_for ktext_for
  have btext_for := Ftext_for.binds (ps := ["sums", "n"]) fun _ _ _ _ _ _ us hl => match us, hl with | [_, _], _ => rfl
  have Floses := fun_mk (st := s_loses) lloses closes kloses
  have bloses := Floses.binds (ps := ["script"]) fun _ _ _ _ _ _ us hl => match us, hl with | [_], _ => rfl
  have Funits := fun_mk (st := s_units) lunits cunits kunits
  have bunits := Funits.binds (ps := ["length"]) fun _ _ _ _ _ _ us hl => match us, hl with | [_], _ => rfl
  have Fwrite := fun_mk (st := s_write) lwrite cwrite kwrite
  have bwrite := Fwrite.binds (ps := ["script"]) fun _ _ _ _ _ _ us hl => match us, hl with | [_], _ => rfl
  have FWalk_undo := fun_mk (st := s_Walk_undo) lWalk_undo cWalk_undo kWalk_undo
  have bWalk_undo := FWalk_undo.binds (ps := ["self"]) fun _ _ _ _ _ _ us hl => match us, hl with | [_], _ => rfl
  have FWalk_text := fun_mk (st := s_Walk_text) lWalk_text cWalk_text kWalk_text
  have bWalk_text := FWalk_text.binds (ps := ["self"]) fun _ _ _ _ _ _ us hl => match us, hl with | [_], _ => rfl
  have FWalk_log := fun_mk (st := s_Walk_log) lWalk_log cWalk_log kWalk_log
  have bWalk_log := FWalk_log.binds (ps := ["self"]) fun _ _ _ _ _ _ us hl => match us, hl with | [_], _ => rfl
  have FWalk___len__ := fun_mk (st := s_Walk___len__) lWalk___len__ cWalk___len__ kWalk___len__
  have bWalk___len__ := FWalk___len__.binds (ps := ["self"]) fun _ _ _ _ _ _ us hl => match us, hl with | [_], _ => rfl
  have F_law_random := fun_mk (st := s__law_random) l_law_random c_law_random k_law_random
  have b_law_random := F_law_random.binds (ps := ["_law_script", "_law_salt"]) fun _ _ _ _ _ _ us hl => match us, hl with | [_, _], _ => rfl
  have F_law_below := fun_mk (st := s__law_below) l_law_below c_law_below k_law_below
  have b_law_below := F_law_below.binds (ps := ["_law_d", "_law_size"]) fun _ _ _ _ _ _ us hl => match us, hl with | [_, _], _ => rfl
  have Fis_text := fun_mk (st := s_is_text) lis_text cis_text kis_text
  have bis_text := Fis_text.binds (ps := ["value", "n"]) fun _ _ _ _ _ _ us hl => match us, hl with | [_, _], _ => rfl
  have Fall_done := fun_mk (st := s_all_done) lall_done call_done kall_done
  have ball_done := Fall_done.binds (ps := ["steps", "n", "text"]) fun _ _ _ _ _ _ us hl => match us, hl with | [_, _, _], _ => rfl
  have Fcommon_of := fun_mk (st := s_common_of) lcommon_of ccommon_of kcommon_of
  have bcommon_of := Fcommon_of.binds (ps := ["sums"]) fun _ _ _ _ _ _ us hl => match us, hl with | [_], _ => rfl
  have Frows_to_two_z15 := fun_mk (st := s_rows_to_two_z15) lrows_to_two_z15 crows_to_two_z15 krows_to_two_z15
  have brows_to_two_z15 := Frows_to_two_z15.binds (ps := []) fun _ _ _ _ _ _ us hl => match us, hl with | [], _ => rfl
  have FScript___init__ := fun_mk (st := s_Script___init__) lScript___init__ cScript___init__ kScript___init__
  have bScript___init__ := FScript___init__.binds (ps := ["self", "steps"]) fun _ _ _ _ _ _ us hl => match us, hl with | [_, _], _ => rfl
  have Fneed_text := fun_mk (st := s_need_text) lneed_text cneed_text kneed_text
  have bneed_text := Fneed_text.binds (ps := ["n", "text"]) fun _ _ _ _ _ _ us hl => match us, hl with | [_, _], _ => rfl
  have Frounds := fun_mk (st := s_rounds) lrounds crounds krounds
  have brounds := Frounds.binds (ps := ["script", "n", "length"]) fun _ _ _ _ _ _ us hl => match us, hl with | [_, _, _], _ => rfl
  have Fis_choice_z15 := fun_mk (st := s_is_choice_z15) lis_choice_z15 cis_choice_z15 kis_choice_z15
  have bis_choice_z15 := Fis_choice_z15.binds (ps := ["value"]) fun _ _ _ _ _ _ us hl => match us, hl with | [_], _ => rfl
  have Fstep_in_z15 := fun_mk (st := s_step_in_z15) lstep_in_z15 cstep_in_z15 kstep_in_z15
  have bstep_in_z15 := Fstep_in_z15.binds (ps := ["words", "number"]) fun _ _ _ _ _ _ us hl => match us, hl with | [_, _], _ => rfl
  have FWalk_do := fun_mk (st := s_Walk_do) lWalk_do cWalk_do kWalk_do
  have bWalk_do := FWalk_do.binds (ps := ["self", "step"]) fun _ _ _ _ _ _ us hl => match us, hl with | [_, _], _ => rfl
  have Fshifted := fun_mk (st := s_shifted) lshifted cshifted kshifted
  have bshifted := Fshifted.binds (ps := ["script", "n", "text"]) fun _ _ _ _ _ _ us hl => match us, hl with | [_, _, _], _ => rfl
  have Ftrace := fun_mk (st := s_trace) ltrace ctrace ktrace
  have btrace := Ftrace.binds (ps := ["script", "n", "text"]) fun _ _ _ _ _ _ us hl => match us, hl with | [_, _, _], _ => rfl
  have Fis_seen_z15 := fun_mk (st := s_is_seen_z15) lis_seen_z15 cis_seen_z15 kis_seen_z15
  have bis_seen_z15 := Fis_seen_z15.binds (ps := ["value"]) fun _ _ _ _ _ _ us hl => match us, hl with | [_], _ => rfl
  have FWalk___init__ := fun_mk (st := s_Walk___init__) lWalk___init__ cWalk___init__ kWalk___init__
  have bWalk___init__ := FWalk___init__.binds (ps := ["self", "n", "text"]) fun _ _ _ _ _ _ us hl => match us, hl with | [_, _, _], _ => rfl
  have Fundoing_z15 := fun_mk (st := s_undoing_z15) lundoing_z15 cundoing_z15 kundoing_z15
  have bundoing_z15 := Fundoing_z15.binds (ps := ["script"]) fun _ _ _ _ _ _ us hl => match us, hl with | [_], _ => rfl
  have Ffitting_z15 := fun_mk (st := s_fitting_z15) lfitting_z15 cfitting_z15 kfitting_z15
  have bfitting_z15 := Ffitting_z15.binds (ps := ["seen"]) fun _ _ _ _ _ _ us hl => match us, hl with | [_], _ => rfl
  have Fread_z15 := fun_mk (st := s_read_z15) lread_z15 cread_z15 kread_z15
  have bread_z15 := Fread_z15.binds (ps := ["text"]) fun _ _ _ _ _ _ us hl => match us, hl with | [_], _ => rfl
  have Fasking_z15 := fun_mk (st := s_asking_z15) lasking_z15 casking_z15 kasking_z15
  have basking_z15 := Fasking_z15.binds (ps := ["seen", "choices"]) fun _ _ _ _ _ _ us hl => match us, hl with | [_, _], _ => rfl
  have F_law_led_z15 := fun_mk (st := s__law_led_z15) l_law_led_z15 c_law_led_z15 k_law_led_z15
  have b_law_led_z15 := F_law_led_z15.binds (ps := []) fun _ _ _ _ _ _ us hl => match us, hl with | [], _ => rfl
  have F_law_found_z15 := fun_mk (st := s__law_found_z15) l_law_found_z15 c_law_found_z15 k_law_found_z15
  have b_law_found_z15 := F_law_found_z15.binds (ps := []) fun _ _ _ _ _ _ us hl => match us, hl with | [], _ => rfl
  have Fsum_at := fun_mk (st := s_sum_at) lsum_at csum_at ksum_at
  have bsum_at := Fsum_at.binds (ps := ["steps", "length", "place"]) fun _ _ _ _ _ _ us hl => match us, hl with | [_, _, _], _ => rfl
  have Fletter := fun_mk (st := s_letter) lletter cletter kletter
  have bletter := Fletter.binds (ps := ["script", "length", "place"]) fun _ _ _ _ _ _ us hl => match us, hl with | [_, _, _], _ => rfl
  have Funlike_sums := fun_mk (st := s_unlike_sums) lunlike_sums cunlike_sums kunlike_sums
  have bunlike_sums := Funlike_sums.binds (ps := ["one", "other", "length"]) fun _ _ _ _ _ _ us hl => match us, hl with | [_, _, _], _ => rfl
  have Fall_unlike := fun_mk (st := s_all_unlike) lall_unlike call_unlike kall_unlike
  have ball_unlike := Fall_unlike.binds (ps := ["one", "other", "reach"]) fun _ _ _ _ _ _ us hl => match us, hl with | [_, _, _], _ => rfl
  have F_law_shifts_z15 := fun_mk (st := s__law_shifts_z15) l_law_shifts_z15 c_law_shifts_z15 k_law_shifts_z15
  have b_law_shifts_z15 := F_law_shifts_z15.binds (ps := []) fun _ _ _ _ _ _ us hl => match us, hl with | [], _ => rfl
  have Ffirst_unlike := fun_mk (st := s_first_unlike) lfirst_unlike cfirst_unlike kfirst_unlike
  have bfirst_unlike := Ffirst_unlike.binds (ps := ["one", "other", "reach"]) fun _ _ _ _ _ _ us hl => match us, hl with | [_, _, _], _ => rfl
  have Fparting := fun_mk (st := s_parting) lparting cparting kparting
  have bparting := Fparting.binds (ps := ["one", "other"]) fun _ _ _ _ _ _ us hl => match us, hl with | [_, _], _ => rfl
  have Fundone := fun_mk (st := s_undone) lundone cundone kundone
  have bundone := Fundone.binds (ps := ["one", "other"]) fun _ _ _ _ _ _ us hl => match us, hl with | [_, _], _ => rfl
  have Fswaps := fun_mk (st := s_swaps) lswaps cswaps kswaps
  have bswaps := Fswaps.binds (ps := ["script"]) fun _ _ _ _ _ _ us hl => match us, hl with | [_], _ => rfl
  have Fidle := fun_mk (st := s_idle) lidle cidle kidle
  have bidle := Fidle.binds (ps := ["script"]) fun _ _ _ _ _ _ us hl => match us, hl with | [_], _ => rfl
  have Falike := fun_mk (st := s_alike) lalike calike kalike
  have balike := Falike.binds (ps := ["one", "other"]) fun _ _ _ _ _ _ us hl => match us, hl with | [_, _], _ => rfl
  have F_law_decided_z15 := fun_mk (st := s__law_decided_z15) l_law_decided_z15 c_law_decided_z15 k_law_decided_z15
  have b_law_decided_z15 := F_law_decided_z15.binds (ps := []) fun _ _ _ _ _ _ us hl => match us, hl with | [], _ => rfl
  have Flaw_z15 := fun_mk (st := s_law_z15) llaw_z15 claw_z15 klaw_z15
  have blaw_z15 := Flaw_z15.binds (ps := ["_law_script"]) fun _ _ _ _ _ _ us hl => match us, hl with | [_], _ => rfl
  have oexBadChoice : OexC K cBadChoice := ⟨⟨_, _, _, _, _, _, _, _, _, _, _, _, _, _, _, oc1BadChoice, oc2BadChoice⟩, oc3BadChoice, x3BadChoice, x4BadChoice, x2BadChoice⟩
  have SBadChoice : SupF P0 K mg "BadChoice.__init__" s_BadChoice___init__ cBadChoice fBadChoice___init__ _ := ⟨⟨ccBadChoice___init__, cdaBadChoice___init__, _, _, _, _, _, _, _, _, ⟨oexBadChoice, ⟨_, _, _, ceBadChoice⟩, ⟨_, _, _, _, _, _, coBadChoice, cvBadChoice, cfBadChoice⟩, opBadChoice, siBadChoice, suBadChoice, seBadChoice, toBadChoice⟩, rfl, lBadChoice___init__, cBadChoice___init__⟩, oexBadChoice, iBadChoice___init__, yBadChoice___init__, PySem.W.mg_none_of X G zsuper⟩
  have bBadChoice___init__ := SBadChoice.binds (ps := ["self", "index"]) fun _ _ _ _ _ _ _ us hl => match us, hl with | [_, _], _ => rfl
  have oexBadLine : OexC K cBadLine := ⟨⟨_, _, _, _, _, _, _, _, _, _, _, _, _, _, _, oc1BadLine, oc2BadLine⟩, oc3BadLine, x3BadLine, x4BadLine, x2BadLine⟩
  have SBadLine : SupF P0 K mg "BadLine.__init__" s_BadLine___init__ cBadLine fBadLine___init__ _ := ⟨⟨ccBadLine___init__, cdaBadLine___init__, _, _, _, _, _, _, _, _, ⟨oexBadLine, ⟨_, _, _, ceBadLine⟩, ⟨_, _, _, _, _, _, coBadLine, cvBadLine, cfBadLine⟩, opBadLine, siBadLine, suBadLine, seBadLine, toBadLine⟩, rfl, lBadLine___init__, cBadLine___init__⟩, oexBadLine, iBadLine___init__, yBadLine___init__, PySem.W.mg_none_of X G zsuper⟩
  have bBadLine___init__ := SBadLine.binds (ps := ["self", "line", "word"]) fun _ _ _ _ _ _ _ us hl => match us, hl with | [_, _, _], _ => rfl
  have oexBadSeen : OexC K cBadSeen := ⟨⟨_, _, _, _, _, _, _, _, _, _, _, _, _, _, _, oc1BadSeen, oc2BadSeen⟩, oc3BadSeen, x3BadSeen, x4BadSeen, x2BadSeen⟩
  have SBadSeen : SupF P0 K mg "BadSeen.__init__" s_BadSeen___init__ cBadSeen fBadSeen___init__ _ := ⟨⟨ccBadSeen___init__, cdaBadSeen___init__, _, _, _, _, _, _, _, _, ⟨oexBadSeen, ⟨_, _, _, ceBadSeen⟩, ⟨_, _, _, _, _, _, coBadSeen, cvBadSeen, cfBadSeen⟩, opBadSeen, siBadSeen, suBadSeen, seBadSeen, toBadSeen⟩, rfl, lBadSeen___init__, cBadSeen___init__⟩, oexBadSeen, iBadSeen___init__, yBadSeen___init__, PySem.W.mg_none_of X G zsuper⟩
  have bBadSeen___init__ := SBadSeen.binds (ps := ["self", "index"]) fun _ _ _ _ _ _ _ us hl => match us, hl with | [_, _], _ => rfl
  have oexBadSteps : OexC K cBadSteps := ⟨⟨_, _, _, _, _, _, _, _, _, _, _, _, _, _, _, oc1BadSteps, oc2BadSteps⟩, oc3BadSteps, x3BadSteps, x4BadSteps, x2BadSteps⟩
  have SBadSteps : SupF P0 K mg "BadSteps.__init__" s_BadSteps___init__ cBadSteps fBadSteps___init__ _ := ⟨⟨ccBadSteps___init__, cdaBadSteps___init__, _, _, _, _, _, _, _, _, ⟨oexBadSteps, ⟨_, _, _, ceBadSteps⟩, ⟨_, _, _, _, _, _, coBadSteps, cvBadSteps, cfBadSteps⟩, opBadSteps, siBadSteps, suBadSteps, seBadSteps, toBadSteps⟩, rfl, lBadSteps___init__, cBadSteps___init__⟩, oexBadSteps, iBadSteps___init__, yBadSteps___init__, PySem.W.mg_none_of X G zsuper⟩
  have bBadSteps___init__ := SBadSteps.binds (ps := ["self", "index"]) fun _ _ _ _ _ _ _ us hl => match us, hl with | [_, _], _ => rfl
  let T : Tx P0 K mg w := { f_is_step := _, d_is_step := _, F_is_step := Fis_step, b_is_step := bis_step, g_is_step := PySem.W.mg_of X G ais_step, f_all_steps_z15 := _, d_all_steps_z15 := _, F_all_steps_z15 := Fall_steps_z15, b_all_steps_z15 := ball_steps_z15, g_all_steps_z15 := PySem.W.mg_of X G aall_steps_z15, f_Script___eq__ := _, d_Script___eq__ := _, F_Script___eq__ := FScript___eq__, b_Script___eq__ := bScript___eq__, p_Script_steps := pScript_steps, P_Script_steps := ⟨aScript_steps, pgScript_steps, ptScript_steps, ⟨_, prScript_steps⟩⟩, f_Script_steps := _, d_Script_steps := _, F_Script_steps := FScript_steps, b_Script_steps := bScript_steps, f_is_from := _, d_is_from := _, F_is_from := Fis_from, b_is_from := bis_from, g_is_from := PySem.W.mg_of X G ais_from, f_done := _, d_done := _, F_done := Fdone, b_done := bdone, g_done := PySem.W.mg_of X G adone, f_with_more := _, d_with_more := _, F_with_more := Fwith_more, b_with_more := bwith_more, g_with_more := PySem.W.mg_of X G awith_more, f_divisor := _, d_divisor := _, F_divisor := Fdivisor, b_divisor := bdivisor, g_divisor := PySem.W.mg_of X G adivisor, f_wide := _, d_wide := _, F_wide := Fwide, b_wide := bwide, g_wide := PySem.W.mg_of X G awide, f_text_for := _, d_text_for := _, F_text_for := Ftext_for, b_text_for := btext_for, g_text_for := PySem.W.mg_of X G atext_for, f_loses := _, d_loses := _, F_loses := Floses, b_loses := bloses, g_loses := PySem.W.mg_of X G aloses, f_units := _, d_units := _, F_units := Funits, b_units := bunits, g_units := PySem.W.mg_of X G aunits, f_write := _, d_write := _, F_write := Fwrite, b_write := bwrite, g_write := PySem.W.mg_of X G awrite, f_Walk_undo := _, d_Walk_undo := _, F_Walk_undo_z15 := FWalk_undo, b_Walk_undo := bWalk_undo, f_Walk_text := _, d_Walk_text := _, F_Walk_text_z15 := FWalk_text, b_Walk_text := bWalk_text, f_Walk_log := _, d_Walk_log := _, F_Walk_log_z15 := FWalk_log, b_Walk_log := bWalk_log, f_Walk___len__ := _, d_Walk___len__ := _, F_Walk___len___z15 := FWalk___len__, b_Walk___len__ := bWalk___len__, f__law_random := _, d__law_random := _, F__law_random := F_law_random, b__law_random := b_law_random, g__law_random := PySem.W.mg_of X G a_law_random, f__law_below := _, d__law_below := _, F__law_below := F_law_below, b__law_below := b_law_below, g__law_below := PySem.W.mg_of X G a_law_below, f_is_text := _, d_is_text := _, F_is_text := Fis_text, b_is_text := bis_text, g_is_text := PySem.W.mg_of X G ais_text, f_all_done := _, d_all_done := _, F_all_done := Fall_done, b_all_done := ball_done, g_all_done := PySem.W.mg_of X G aall_done, f_common_of := _, d_common_of := _, F_common_of := Fcommon_of, b_common_of := bcommon_of, g_common_of := PySem.W.mg_of X G acommon_of, f_rows_to_two_z15 := _, d_rows_to_two_z15 := _, F_rows_to_two_z15 := Frows_to_two_z15, b_rows_to_two_z15 := brows_to_two_z15, g_rows_to_two_z15 := PySem.W.mg_of X G arows_to_two_z15, f_Script___init__ := _, d_Script___init__ := _, F_Script___init___z15 := FScript___init__, b_Script___init__ := bScript___init__, f_need_text := _, d_need_text := _, F_need_text := Fneed_text, b_need_text := bneed_text, g_need_text := PySem.W.mg_of X G aneed_text, f_rounds := _, d_rounds := _, F_rounds := Frounds, b_rounds := brounds, g_rounds := PySem.W.mg_of X G arounds, f_is_choice_z15 := _, d_is_choice_z15 := _, F_is_choice_z15 := Fis_choice_z15, b_is_choice_z15 := bis_choice_z15, g_is_choice_z15 := PySem.W.mg_of X G ais_choice_z15, f_step_in_z15 := _, d_step_in_z15 := _, F_step_in_z15 := Fstep_in_z15, b_step_in_z15 := bstep_in_z15, g_step_in_z15 := PySem.W.mg_of X G astep_in_z15, f_Walk_do := _, d_Walk_do := _, F_Walk_do_z15 := FWalk_do, b_Walk_do := bWalk_do, f_shifted := _, d_shifted := _, F_shifted := Fshifted, b_shifted := bshifted, g_shifted := PySem.W.mg_of X G ashifted, f_trace := _, d_trace := _, F_trace := Ftrace, b_trace := btrace, g_trace := PySem.W.mg_of X G atrace, f_is_seen_z15 := _, d_is_seen_z15 := _, F_is_seen_z15 := Fis_seen_z15, b_is_seen_z15 := bis_seen_z15, g_is_seen_z15 := PySem.W.mg_of X G ais_seen_z15, f_Walk___init__ := _, d_Walk___init__ := _, F_Walk___init__ := FWalk___init__, b_Walk___init__ := bWalk___init__, f_undoing_z15 := _, d_undoing_z15 := _, F_undoing_z15 := Fundoing_z15, b_undoing_z15 := bundoing_z15, g_undoing_z15 := PySem.W.mg_of X G aundoing_z15, f_fitting_z15 := _, d_fitting_z15 := _, F_fitting_z15 := Ffitting_z15, b_fitting_z15 := bfitting_z15, g_fitting_z15 := PySem.W.mg_of X G afitting_z15, f_read_z15 := _, d_read_z15 := _, F_read_z15 := Fread_z15, b_read_z15 := bread_z15, g_read_z15 := PySem.W.mg_of X G aread_z15, f_asking_z15 := _, d_asking_z15 := _, F_asking_z15 := Fasking_z15, b_asking_z15 := basking_z15, g_asking_z15 := PySem.W.mg_of X G aasking_z15, f__law_led_z15 := _, d__law_led_z15 := _, F__law_led_z15 := F_law_led_z15, b__law_led_z15 := b_law_led_z15, g__law_led_z15 := PySem.W.mg_of X G a_law_led_z15, f__law_found_z15 := _, d__law_found_z15 := _, F__law_found_z15 := F_law_found_z15, b__law_found_z15 := b_law_found_z15, g__law_found_z15 := PySem.W.mg_of X G a_law_found_z15, f_sum_at := _, d_sum_at := _, F_sum_at := Fsum_at, b_sum_at := bsum_at, g_sum_at := PySem.W.mg_of X G asum_at, f_letter := _, d_letter := _, F_letter := Fletter, b_letter := bletter, g_letter := PySem.W.mg_of X G aletter, f_unlike_sums := _, d_unlike_sums := _, F_unlike_sums := Funlike_sums, b_unlike_sums := bunlike_sums, g_unlike_sums := PySem.W.mg_of X G aunlike_sums, f_all_unlike := _, d_all_unlike := _, F_all_unlike := Fall_unlike, b_all_unlike := ball_unlike, g_all_unlike := PySem.W.mg_of X G aall_unlike, f__law_shifts_z15 := _, d__law_shifts_z15 := _, F__law_shifts_z15 := F_law_shifts_z15, b__law_shifts_z15 := b_law_shifts_z15, g__law_shifts_z15 := PySem.W.mg_of X G a_law_shifts_z15, f_first_unlike := _, d_first_unlike := _, F_first_unlike := Ffirst_unlike, b_first_unlike := bfirst_unlike, g_first_unlike := PySem.W.mg_of X G afirst_unlike, f_parting := _, d_parting := _, F_parting := Fparting, b_parting := bparting, g_parting := PySem.W.mg_of X G aparting, f_undone := _, d_undone := _, F_undone := Fundone, b_undone := bundone, g_undone := PySem.W.mg_of X G aundone, f_swaps := _, d_swaps := _, F_swaps := Fswaps, b_swaps := bswaps, g_swaps := PySem.W.mg_of X G aswaps, f_idle := _, d_idle := _, F_idle := Fidle, b_idle := bidle, g_idle := PySem.W.mg_of X G aidle, f_alike := _, d_alike := _, F_alike := Falike, b_alike := balike, g_alike := PySem.W.mg_of X G aalike, f__law_decided_z15 := _, d__law_decided_z15 := _, F__law_decided_z15 := F_law_decided_z15, b__law_decided_z15 := b_law_decided_z15, g__law_decided_z15 := PySem.W.mg_of X G a_law_decided_z15, f_law_z15 := _, d_law_z15 := _, F_law_z15 := Flaw_z15, b_law_z15 := blaw_z15, g_law_z15 := PySem.W.mg_of X G alaw_z15, z_abs := PySem.W.mg_none_of X G zabs, z_all := PySem.W.mg_none_of X G zall, z_any := PySem.W.mg_none_of X G zany, z_bool := PySem.W.mg_none_of X G zbool, z_dict := PySem.W.mg_none_of X G zdict, z_enumerate := PySem.W.mg_none_of X G zenumerate, z_int := PySem.W.mg_none_of X G zint, z_isinstance := PySem.W.mg_none_of X G zisinstance, z_len := PySem.W.mg_none_of X G zlen, z_list := PySem.W.mg_none_of X G zlist, z_max := PySem.W.mg_none_of X G zmax, z_min := PySem.W.mg_none_of X G zmin, z_range := PySem.W.mg_none_of X G zrange, z_set := PySem.W.mg_none_of X G zset, z_sorted := PySem.W.mg_none_of X G zsorted, z_str := PySem.W.mg_none_of X G zstr, z_tuple := PySem.W.mg_none_of X G ztuple, z_zip := PySem.W.mg_none_of X G zzip, a_BESIDE := aBESIDE, g_BESIDE := PySem.W.mg_of X G gBESIDE, t_BESIDE := tBESIDE, g_GREATEST := ⟨_, PySem.W.mg_of X G gGREATEST⟩, a_ITSELF := aITSELF, g_ITSELF := PySem.W.mg_of X G gITSELF, t_ITSELF := tITSELF, g_MOST_LENGTH := ⟨_, PySem.W.mg_of X G gMOST_LENGTH⟩, g_MOST_LETTERS := ⟨_, PySem.W.mg_of X G gMOST_LETTERS⟩, g_MOST_SIZE := ⟨_, PySem.W.mg_of X G gMOST_SIZE⟩, g_MOST_STEPS := ⟨_, PySem.W.mg_of X G gMOST_STEPS⟩, a_NUMBERS := aNUMBERS, g_NUMBERS := PySem.W.mg_of X G gNUMBERS, T_NUMBERS := ⟨⟨_, _, mNUMBERS, qNUMBERS, rNUMBERS⟩, tNUMBERS⟩, a_PLAIN := aPLAIN, g_PLAIN := PySem.W.mg_of X G gPLAIN, t_PLAIN := tPLAIN, a_SIGNED := aSIGNED, g_SIGNED := PySem.W.mg_of X G gSIGNED, t_SIGNED := tSIGNED, C_Script := cScript, g_Script := PySem.W.mg_of X G CScript, K_Script := ⟨pgScript, hdScript, poScript, saScript⟩, M_Script := ⟨mkScript, aScript___init__, fnScript, kpScript⟩, C_Walk := cWalk, g_Walk := PySem.W.mg_of X G CWalk, K_Walk := ⟨pgWalk, hdWalk, poWalk, saWalk⟩, M_Walk := ⟨mkWalk, aWalk___init__, fnWalk, kpWalk⟩, I_Script := ⟨⟨pgScript, hdScript, poScript, saScript⟩, haScript, hnScript, htScript, hmScript, meScript⟩, q_Script := ⟨aScript___eq__, eqfScript⟩, n_Script_rows := naScriptrows, n_Walk_noted := naWalknoted, n_Walk_size := naWalksize, n_Walk_texts := naWalktexts, C_BadChoice := cBadChoice, g_BadChoice := PySem.W.mg_of X G CBadChoice, C_BadLength := cBadLength, g_BadLength := PySem.W.mg_of X G CBadLength, C_BadLine := cBadLine, g_BadLine := PySem.W.mg_of X G CBadLine, C_BadPlace := cBadPlace, g_BadPlace := PySem.W.mg_of X G CBadPlace, C_BadSeen := cBadSeen, g_BadSeen := PySem.W.mg_of X G CBadSeen, C_BadSize := cBadSize, g_BadSize := PySem.W.mg_of X G CBadSize, C_BadSteps := cBadSteps, g_BadSteps := PySem.W.mg_of X G CBadSteps, C_BadText := cBadText, g_BadText := PySem.W.mg_of X G CBadText, x_BadLength := ⟨x1BadLength, x2BadLength, x3BadLength, x4BadLength⟩, x_BadPlace := ⟨x1BadPlace, x2BadPlace, x3BadPlace, x4BadPlace⟩, x_BadSize := ⟨x1BadSize, x2BadSize, x3BadSize, x4BadSize⟩, x_BadText := ⟨x1BadText, x2BadText, x3BadText, x4BadText⟩, L_NUMBERS := klNUMBERS, w_do := ⟨aWalk_do, wfWalk_do, kWalk_do⟩, w_log := ⟨aWalk_log, wfWalk_log, kWalk_log⟩, w_text := ⟨aWalk_text, wfWalk_text, kWalk_text⟩, w_undo := ⟨aWalk_undo, wfWalk_undo, kWalk_undo⟩, l_Walk := ⟨aWalk___len__, lnfWalk⟩, v_BadChoice_index := vfBadChoiceindex, f_BadChoice___init__ := _, d_BadChoice___init__ := _, S_BadChoice := SBadChoice, b_BadChoice___init__ := bBadChoice___init__, X_BadChoice := ⟨gaBadChoice, ggBadChoice, x3BadChoice, hd2BadChoice⟩, v_BadLine_line := vfBadLineline, v_BadLine_word := vfBadLineword, f_BadLine___init__ := _, d_BadLine___init__ := _, S_BadLine := SBadLine, b_BadLine___init__ := bBadLine___init__, X_BadLine := ⟨gaBadLine, ggBadLine, x3BadLine, hd2BadLine⟩, v_BadSeen_index := vfBadSeenindex, f_BadSeen___init__ := _, d_BadSeen___init__ := _, S_BadSeen := SBadSeen, b_BadSeen___init__ := bBadSeen___init__, X_BadSeen := ⟨gaBadSeen, ggBadSeen, x3BadSeen, hd2BadSeen⟩, v_BadSteps_index := vfBadStepsindex, f_BadSteps___init__ := _, d_BadSteps___init__ := _, S_BadSteps := SBadSteps, b_BadSteps___init__ := bBadSteps___init__, X_BadSteps := ⟨gaBadSteps, ggBadSteps, x3BadSteps, hd2BadSteps⟩ }
  exact ⟨_, fun s v => .of_eq rfl, fun base _ _ => (ok_law_z15 T _law_led_z15_true).imp fun vs H Q E q => spW_imp pure_law q⟩
end Den
open PySem PySem.W PyProof.Rows
set_option maxHeartbeats 0 in
theorem PySem.Challenge.cw_ringalphabet_k15_known_scripts_holds : PySem.Challenge.rw_ringalphabet_k15_known_scripts.Holds := by
  w_on; o_law; k_head; (case hw => w_witness2)
  k_fill
  refine L2.walk_of (l := PySem.Challenge.rw_ringalphabet_k15_known_scripts) (n := 63) (k := 20) (x := "_law_script") (CX := fun w => L2N.CX PySem.Challenge.rw_ringalphabet_k15_known_scripts.prog w) (sp := fun w => Den.spW _) rfl (by decide) rfl ⟨rfl, by decide, by decide⟩ (fun w h Y => PySem.W.kIn_of Y) ?F (fun _ _ a ns hl _ hS => ⟨a, ns, rfl, hl, hS, fun _ => rfl⟩) (fun _ _ _ _ _ h => Den.cx_none h)
  case F =>
    intro w mg fa h KX G hmg
    refine' Den.all_mk KX G hmg ?ais_step ?lis_step ?cis_step ?kis_step ?aall_steps_z15 ?lall_steps_z15 ?call_steps_z15 ?kall_steps_z15 ?CScript ?aScript___eq__ ?lScript___eq__ ?cScript___eq__ ?kScript___eq__ ?aScript_steps ?pgScript_steps ?ptScript_steps ?prScript_steps ?lScript_steps ?cScript_steps ?kScript_steps ?ais_from ?lis_from ?cis_from ?kis_from ?adone ?ldone ?cdone ?kdone ?awith_more ?lwith_more ?cwith_more ?kwith_more ?adivisor ?ldivisor ?cdivisor ?kdivisor ?awide ?lwide ?cwide ?kwide ?atext_for ?ltext_for ?ctext_for ?ktext_for ?aloses ?lloses ?closes ?kloses ?aunits ?lunits ?cunits ?kunits ?awrite ?lwrite ?cwrite ?kwrite ?CWalk ?aWalk_undo ?lWalk_undo ?cWalk_undo ?kWalk_undo ?aWalk_text ?lWalk_text ?cWalk_text ?kWalk_text ?aWalk_log ?lWalk_log ?cWalk_log ?kWalk_log ?aWalk___len__ ?lWalk___len__ ?cWalk___len__ ?kWalk___len__ ?a_law_random ?l_law_random ?c_law_random ?k_law_random ?a_law_below ?l_law_below ?c_law_below ?k_law_below ?ais_text ?lis_text ?cis_text ?kis_text ?aall_done ?lall_done ?call_done ?kall_done ?acommon_of ?lcommon_of ?ccommon_of ?kcommon_of ?arows_to_two_z15 ?lrows_to_two_z15 ?crows_to_two_z15 ?krows_to_two_z15 ?aScript___init__ ?lScript___init__ ?cScript___init__ ?kScript___init__ ?aneed_text ?lneed_text ?cneed_text ?kneed_text ?arounds ?lrounds ?crounds ?krounds ?ais_choice_z15 ?lis_choice_z15 ?cis_choice_z15 ?kis_choice_z15 ?astep_in_z15 ?lstep_in_z15 ?cstep_in_z15 ?kstep_in_z15 ?aWalk_do ?lWalk_do ?cWalk_do ?kWalk_do ?ashifted ?lshifted ?cshifted ?kshifted ?atrace ?ltrace ?ctrace ?ktrace ?ais_seen_z15 ?lis_seen_z15 ?cis_seen_z15 ?kis_seen_z15 ?aWalk___init__ ?lWalk___init__ ?cWalk___init__ ?kWalk___init__ ?aundoing_z15 ?lundoing_z15 ?cundoing_z15 ?kundoing_z15 ?afitting_z15 ?lfitting_z15 ?cfitting_z15 ?kfitting_z15 ?aread_z15 ?lread_z15 ?cread_z15 ?kread_z15 ?aasking_z15 ?lasking_z15 ?casking_z15 ?kasking_z15 ?a_law_led_z15 ?l_law_led_z15 ?c_law_led_z15 ?k_law_led_z15 ?a_law_found_z15 ?l_law_found_z15 ?c_law_found_z15 ?k_law_found_z15 ?asum_at ?lsum_at ?csum_at ?ksum_at ?aletter ?lletter ?cletter ?kletter ?aunlike_sums ?lunlike_sums ?cunlike_sums ?kunlike_sums ?aall_unlike ?lall_unlike ?call_unlike ?kall_unlike ?a_law_shifts_z15 ?l_law_shifts_z15 ?c_law_shifts_z15 ?k_law_shifts_z15 ?afirst_unlike ?lfirst_unlike ?cfirst_unlike ?kfirst_unlike ?aparting ?lparting ?cparting ?kparting ?aundone ?lundone ?cundone ?kundone ?aswaps ?lswaps ?cswaps ?kswaps ?aidle ?lidle ?cidle ?kidle ?aalike ?lalike ?calike ?kalike ?a_law_decided_z15 ?l_law_decided_z15 ?c_law_decided_z15 ?k_law_decided_z15 ?alaw_z15 ?llaw_z15 ?claw_z15 ?klaw_z15 ?zabs ?zall ?zany ?zbool ?zdict ?zenumerate ?zint ?zisinstance ?zlen ?zlist ?zmax ?zmin ?zrange ?zset ?zsorted ?zstr ?ztuple ?zzip ?gBESIDE ?tBESIDE ?gGREATEST ?gITSELF ?tITSELF ?gMOST_LENGTH ?gMOST_LETTERS ?gMOST_SIZE ?gMOST_STEPS ?gNUMBERS ?mNUMBERS ?qNUMBERS ?rNUMBERS ?tNUMBERS ?gPLAIN ?tPLAIN ?gSIGNED ?tSIGNED ?pgScript ?hdScript ?poScript ?saScript ?mkScript ?fnScript ?kpScript ?pgWalk ?hdWalk ?poWalk ?saWalk ?mkWalk ?fnWalk ?kpWalk ?haScript ?hnScript ?htScript ?hmScript ?meScript ?eqfScript ?naScriptrows ?naWalknoted ?naWalksize ?naWalktexts ?CBadChoice ?CBadLength ?CBadLine ?CBadPlace ?CBadSeen ?CBadSize ?CBadSteps ?CBadText ?x1BadLength ?x2BadLength ?x3BadLength ?x4BadLength ?x1BadPlace ?x2BadPlace ?x3BadPlace ?x4BadPlace ?x1BadSize ?x2BadSize ?x3BadSize ?x4BadSize ?x1BadText ?x2BadText ?x3BadText ?x4BadText ?klNUMBERS ?wfWalk_do ?wfWalk_log ?wfWalk_text ?wfWalk_undo ?lnfWalk ?iBadChoice___init__ ?lBadChoice___init__ ?cBadChoice___init__ ?yBadChoice___init__ ?oc1BadChoice ?oc2BadChoice ?oc3BadChoice ?x2BadChoice ?x3BadChoice ?x4BadChoice ?ceBadChoice ?coBadChoice ?cvBadChoice ?cfBadChoice ?opBadChoice ?siBadChoice ?suBadChoice ?seBadChoice ?toBadChoice ?zsuper ?gaBadChoice ?ggBadChoice ?hd2BadChoice ?vfBadChoiceindex ?iBadLine___init__ ?lBadLine___init__ ?cBadLine___init__ ?yBadLine___init__ ?oc1BadLine ?oc2BadLine ?oc3BadLine ?x2BadLine ?x3BadLine ?x4BadLine ?ceBadLine ?coBadLine ?cvBadLine ?cfBadLine ?opBadLine ?siBadLine ?suBadLine ?seBadLine ?toBadLine ?gaBadLine ?ggBadLine ?hd2BadLine ?vfBadLineline ?vfBadLineword ?iBadSeen___init__ ?lBadSeen___init__ ?cBadSeen___init__ ?yBadSeen___init__ ?oc1BadSeen ?oc2BadSeen ?oc3BadSeen ?x2BadSeen ?x3BadSeen ?x4BadSeen ?ceBadSeen ?coBadSeen ?cvBadSeen ?cfBadSeen ?opBadSeen ?siBadSeen ?suBadSeen ?seBadSeen ?toBadSeen ?gaBadSeen ?ggBadSeen ?hd2BadSeen ?vfBadSeenindex ?iBadSteps___init__ ?lBadSteps___init__ ?cBadSteps___init__ ?yBadSteps___init__ ?oc1BadSteps ?oc2BadSteps ?oc3BadSteps ?x2BadSteps ?x3BadSteps ?x4BadSteps ?ceBadSteps ?coBadSteps ?cvBadSteps ?cfBadSteps ?opBadSteps ?siBadSteps ?suBadSteps ?seBadSteps ?toBadSteps ?gaBadSteps ?ggBadSteps ?hd2BadSteps ?vfBadStepsindex
    (case ais_step => k_is)
    (case lis_step => k_is)
    (case cis_step => k_is)
    (case kis_step => k_is)
    (case aall_steps_z15 => k_is)
    (case lall_steps_z15 => k_is)
    (case call_steps_z15 => k_is)
    (case kall_steps_z15 => k_is)
    (case CScript => k_is)
    (case aScript___eq__ => k_is)
    (case lScript___eq__ => k_is)
    (case cScript___eq__ => k_is)
    (case kScript___eq__ => k_is)
    (case aScript_steps => k_is)
    (case pgScript_steps => k_is)
    (case ptScript_steps => k_is)
    (case prScript_steps => k_is)
    (case lScript_steps => k_is)
    (case cScript_steps => k_is)
    (case kScript_steps => k_is)
    (case ais_from => k_is)
    (case lis_from => k_is)
    (case cis_from => k_is)
    (case kis_from => k_is)
    (case adone => k_is)
    (case ldone => k_is)
    (case cdone => k_is)
    (case kdone => k_is)
    (case awith_more => k_is)
    (case lwith_more => k_is)
    (case cwith_more => k_is)
    (case kwith_more => k_is)
    (case adivisor => k_is)
    (case ldivisor => k_is)
    (case cdivisor => k_is)
    (case kdivisor => k_is)
    (case awide => k_is)
    (case lwide => k_is)
    (case cwide => k_is)
    (case kwide => k_is)
    (case atext_for => k_is)
    (case ltext_for => k_is)
    (case ctext_for => k_is)
    (case ktext_for => k_is)
    (case aloses => k_is)
    (case lloses => k_is)
    (case closes => k_is)
    (case kloses => k_is)
    (case aunits => k_is)
    (case lunits => k_is)
    (case cunits => k_is)
    (case kunits => k_is)
    (case awrite => k_is)
    (case lwrite => k_is)
    (case cwrite => k_is)
    (case kwrite => k_is)
    (case CWalk => k_is)
    (case aWalk_undo => k_is)
    (case lWalk_undo => k_is)
    (case cWalk_undo => k_is)
    (case kWalk_undo => k_is)
    (case aWalk_text => k_is)
    (case lWalk_text => k_is)
    (case cWalk_text => k_is)
    (case kWalk_text => k_is)
    (case aWalk_log => k_is)
    (case lWalk_log => k_is)
    (case cWalk_log => k_is)
    (case kWalk_log => k_is)
    (case aWalk___len__ => k_is)
    (case lWalk___len__ => k_is)
    (case cWalk___len__ => k_is)
    (case kWalk___len__ => k_is)
    (case a_law_random => k_is)
    (case l_law_random => k_is)
    (case c_law_random => k_is)
    (case k_law_random => k_is)
    (case a_law_below => k_is)
    (case l_law_below => k_is)
    (case c_law_below => k_is)
    (case k_law_below => k_is)
    (case ais_text => k_is)
    (case lis_text => k_is)
    (case cis_text => k_is)
    (case kis_text => k_is)
    (case aall_done => k_is)
    (case lall_done => k_is)
    (case call_done => k_is)
    (case kall_done => k_is)
    (case acommon_of => k_is)
    (case lcommon_of => k_is)
    (case ccommon_of => k_is)
    (case kcommon_of => k_is)
    (case arows_to_two_z15 => k_is)
    (case lrows_to_two_z15 => k_is)
    (case crows_to_two_z15 => k_is)
    (case krows_to_two_z15 => k_is)
    (case aScript___init__ => k_is)
    (case lScript___init__ => k_is)
    (case cScript___init__ => k_is)
    (case kScript___init__ => k_is)
    (case aneed_text => k_is)
    (case lneed_text => k_is)
    (case cneed_text => k_is)
    (case kneed_text => k_is)
    (case arounds => k_is)
    (case lrounds => k_is)
    (case crounds => k_is)
    (case krounds => k_is)
    (case ais_choice_z15 => k_is)
    (case lis_choice_z15 => k_is)
    (case cis_choice_z15 => k_is)
    (case kis_choice_z15 => k_is)
    (case astep_in_z15 => k_is)
    (case lstep_in_z15 => k_is)
    (case cstep_in_z15 => k_is)
    (case kstep_in_z15 => k_is)
    (case aWalk_do => k_is)
    (case lWalk_do => k_is)
    (case cWalk_do => k_is)
    (case kWalk_do => k_is)
    (case ashifted => k_is)
    (case lshifted => k_is)
    (case cshifted => k_is)
    (case kshifted => k_is)
    (case atrace => k_is)
    (case ltrace => k_is)
    (case ctrace => k_is)
    (case ktrace => k_is)
    (case ais_seen_z15 => k_is)
    (case lis_seen_z15 => k_is)
    (case cis_seen_z15 => k_is)
    (case kis_seen_z15 => k_is)
    (case aWalk___init__ => k_is)
    (case lWalk___init__ => k_is)
    (case cWalk___init__ => k_is)
    (case kWalk___init__ => k_is)
    (case aundoing_z15 => k_is)
    (case lundoing_z15 => k_is)
    (case cundoing_z15 => k_is)
    (case kundoing_z15 => k_is)
    (case afitting_z15 => k_is)
    (case lfitting_z15 => k_is)
    (case cfitting_z15 => k_is)
    (case kfitting_z15 => k_is)
    (case aread_z15 => k_is)
    (case lread_z15 => k_is)
    (case cread_z15 => k_is)
    (case kread_z15 => k_is)
    (case aasking_z15 => k_is)
    (case lasking_z15 => k_is)
    (case casking_z15 => k_is)
    (case kasking_z15 => k_is)
    (case a_law_led_z15 => k_is)
    (case l_law_led_z15 => k_is)
    (case c_law_led_z15 => k_is)
    (case k_law_led_z15 => k_is)
    (case a_law_found_z15 => k_is)
    (case l_law_found_z15 => k_is)
    (case c_law_found_z15 => k_is)
    (case k_law_found_z15 => k_is)
    (case asum_at => k_is)
    (case lsum_at => k_is)
    (case csum_at => k_is)
    (case ksum_at => k_is)
    (case aletter => k_is)
    (case lletter => k_is)
    (case cletter => k_is)
    (case kletter => k_is)
    (case aunlike_sums => k_is)
    (case lunlike_sums => k_is)
    (case cunlike_sums => k_is)
    (case kunlike_sums => k_is)
    (case aall_unlike => k_is)
    (case lall_unlike => k_is)
    (case call_unlike => k_is)
    (case kall_unlike => k_is)
    (case a_law_shifts_z15 => k_is)
    (case l_law_shifts_z15 => k_is)
    (case c_law_shifts_z15 => k_is)
    (case k_law_shifts_z15 => k_is)
    (case afirst_unlike => k_is)
    (case lfirst_unlike => k_is)
    (case cfirst_unlike => k_is)
    (case kfirst_unlike => k_is)
    (case aparting => k_is)
    (case lparting => k_is)
    (case cparting => k_is)
    (case kparting => k_is)
    (case aundone => k_is)
    (case lundone => k_is)
    (case cundone => k_is)
    (case kundone => k_is)
    (case aswaps => k_is)
    (case lswaps => k_is)
    (case cswaps => k_is)
    (case kswaps => k_is)
    (case aidle => k_is)
    (case lidle => k_is)
    (case cidle => k_is)
    (case kidle => k_is)
    (case aalike => k_is)
    (case lalike => k_is)
    (case calike => k_is)
    (case kalike => k_is)
    (case a_law_decided_z15 => k_is)
    (case l_law_decided_z15 => k_is)
    (case c_law_decided_z15 => k_is)
    (case k_law_decided_z15 => k_is)
    (case alaw_z15 => k_is)
    (case llaw_z15 => k_is)
    (case claw_z15 => k_is)
    (case klaw_z15 => k_is)
    (case zabs => k_is)
    (case zall => k_is)
    (case zany => k_is)
    (case zbool => k_is)
    (case zdict => k_is)
    (case zenumerate => k_is)
    (case zint => k_is)
    (case zisinstance => k_is)
    (case zlen => k_is)
    (case zlist => k_is)
    (case zmax => k_is)
    (case zmin => k_is)
    (case zrange => k_is)
    (case zset => k_is)
    (case zsorted => k_is)
    (case zstr => k_is)
    (case ztuple => k_is)
    (case zzip => k_is)
    (case gBESIDE => k_is)
    (case tBESIDE => kernel_rfl)
    (case gGREATEST => k_is)
    (case gITSELF => k_is)
    (case tITSELF => kernel_rfl)
    (case gMOST_LENGTH => k_is)
    (case gMOST_LETTERS => k_is)
    (case gMOST_SIZE => k_is)
    (case gMOST_STEPS => k_is)
    (case gNUMBERS => k_is)
    (case mNUMBERS => k_is)
    (case qNUMBERS => repeat (first | exact trivial | refine ⟨⟨_, _, rfl, rfl⟩, ?_⟩))
    (case rNUMBERS => rfl)
    (case tNUMBERS => kernel_rfl)
    (case gPLAIN => k_is)
    (case tPLAIN => kernel_rfl)
    (case gSIGNED => k_is)
    (case tSIGNED => kernel_rfl)
    (case pgScript => k_is)
    (case hdScript => k_is)
    (case poScript => k_is)
    (case saScript => k_is)
    (case mkScript => k_is)
    (case fnScript => k_is)
    (case kpScript => k_is)
    (case pgWalk => k_is)
    (case hdWalk => k_is)
    (case poWalk => k_is)
    (case saWalk => k_is)
    (case mkWalk => k_is)
    (case fnWalk => k_is)
    (case kpWalk => k_is)
    (case haScript => k_is)
    (case hnScript => k_is)
    (case htScript => k_is)
    (case hmScript => k_is)
    (case meScript => kernel_rfl)
    (case eqfScript => k_is)
    (case naScriptrows => k_is)
    (case naWalknoted => k_is)
    (case naWalksize => k_is)
    (case naWalktexts => k_is)
    (case CBadChoice => k_is)
    (case CBadLength => k_is)
    (case CBadLine => k_is)
    (case CBadPlace => k_is)
    (case CBadSeen => k_is)
    (case CBadSize => k_is)
    (case CBadSteps => k_is)
    (case CBadText => k_is)
    (case x1BadLength => kernel_rfl)
    (case x2BadLength => k_is)
    (case x3BadLength => k_is)
    (case x4BadLength => k_is)
    (case x1BadPlace => kernel_rfl)
    (case x2BadPlace => k_is)
    (case x3BadPlace => k_is)
    (case x4BadPlace => k_is)
    (case x1BadSize => kernel_rfl)
    (case x2BadSize => k_is)
    (case x3BadSize => k_is)
    (case x4BadSize => k_is)
    (case x1BadText => kernel_rfl)
    (case x2BadText => k_is)
    (case x3BadText => k_is)
    (case x4BadText => k_is)
    (case klNUMBERS => kernel_rfl)
    (case wfWalk_do => k_is)
    (case wfWalk_log => k_is)
    (case wfWalk_text => k_is)
    (case wfWalk_undo => k_is)
    (case lnfWalk => k_is)
    (case iBadChoice___init__ => k_is)
    (case lBadChoice___init__ => first | k_is | rfl | kernel_rfl)
    (case cBadChoice___init__ => k_is)
    (case yBadChoice___init__ => k_is)
    (case oc1BadChoice => first | k_is | rfl | kernel_rfl)
    (case oc2BadChoice => first | k_is | rfl | kernel_rfl)
    (case oc3BadChoice => k_is)
    (case x2BadChoice => k_is)
    (case x3BadChoice => k_is)
    (case x4BadChoice => k_is)
    (case ceBadChoice => first | k_is | rfl | kernel_rfl)
    (case coBadChoice => first | k_is | rfl | kernel_rfl)
    (case cvBadChoice => first | k_is | rfl | kernel_rfl)
    (case cfBadChoice => first | k_is | rfl | kernel_rfl)
    (case opBadChoice => first | k_is | rfl | kernel_rfl)
    (case siBadChoice => first | k_is | rfl | kernel_rfl)
    (case suBadChoice => k_is)
    (case seBadChoice => k_is)
    (case toBadChoice => first | k_is | rfl | kernel_rfl)
    (case zsuper => k_is)
    (case gaBadChoice => k_is)
    (case ggBadChoice => k_is)
    (case hd2BadChoice => k_is)
    (case vfBadChoiceindex => k_is)
    (case iBadLine___init__ => k_is)
    (case lBadLine___init__ => first | k_is | rfl | kernel_rfl)
    (case cBadLine___init__ => k_is)
    (case yBadLine___init__ => k_is)
    (case oc1BadLine => first | k_is | rfl | kernel_rfl)
    (case oc2BadLine => first | k_is | rfl | kernel_rfl)
    (case oc3BadLine => k_is)
    (case x2BadLine => k_is)
    (case x3BadLine => k_is)
    (case x4BadLine => k_is)
    (case ceBadLine => first | k_is | rfl | kernel_rfl)
    (case coBadLine => first | k_is | rfl | kernel_rfl)
    (case cvBadLine => first | k_is | rfl | kernel_rfl)
    (case cfBadLine => first | k_is | rfl | kernel_rfl)
    (case opBadLine => first | k_is | rfl | kernel_rfl)
    (case siBadLine => first | k_is | rfl | kernel_rfl)
    (case suBadLine => k_is)
    (case seBadLine => k_is)
    (case toBadLine => first | k_is | rfl | kernel_rfl)
    (case gaBadLine => k_is)
    (case ggBadLine => k_is)
    (case hd2BadLine => k_is)
    (case vfBadLineline => k_is)
    (case vfBadLineword => k_is)
    (case iBadSeen___init__ => k_is)
    (case lBadSeen___init__ => first | k_is | rfl | kernel_rfl)
    (case cBadSeen___init__ => k_is)
    (case yBadSeen___init__ => k_is)
    (case oc1BadSeen => first | k_is | rfl | kernel_rfl)
    (case oc2BadSeen => first | k_is | rfl | kernel_rfl)
    (case oc3BadSeen => k_is)
    (case x2BadSeen => k_is)
    (case x3BadSeen => k_is)
    (case x4BadSeen => k_is)
    (case ceBadSeen => first | k_is | rfl | kernel_rfl)
    (case coBadSeen => first | k_is | rfl | kernel_rfl)
    (case cvBadSeen => first | k_is | rfl | kernel_rfl)
    (case cfBadSeen => first | k_is | rfl | kernel_rfl)
    (case opBadSeen => first | k_is | rfl | kernel_rfl)
    (case siBadSeen => first | k_is | rfl | kernel_rfl)
    (case suBadSeen => k_is)
    (case seBadSeen => k_is)
    (case toBadSeen => first | k_is | rfl | kernel_rfl)
    (case gaBadSeen => k_is)
    (case ggBadSeen => k_is)
    (case hd2BadSeen => k_is)
    (case vfBadSeenindex => k_is)
    (case iBadSteps___init__ => k_is)
    (case lBadSteps___init__ => first | k_is | rfl | kernel_rfl)
    (case cBadSteps___init__ => k_is)
    (case yBadSteps___init__ => k_is)
    (case oc1BadSteps => first | k_is | rfl | kernel_rfl)
    (case oc2BadSteps => first | k_is | rfl | kernel_rfl)
    (case oc3BadSteps => k_is)
    (case x2BadSteps => k_is)
    (case x3BadSteps => k_is)
    (case x4BadSteps => k_is)
    (case ceBadSteps => first | k_is | rfl | kernel_rfl)
    (case coBadSteps => first | k_is | rfl | kernel_rfl)
    (case cvBadSteps => first | k_is | rfl | kernel_rfl)
    (case cfBadSteps => first | k_is | rfl | kernel_rfl)
    (case opBadSteps => first | k_is | rfl | kernel_rfl)
    (case siBadSteps => first | k_is | rfl | kernel_rfl)
    (case suBadSteps => k_is)
    (case seBadSteps => k_is)
    (case toBadSteps => first | k_is | rfl | kernel_rfl)
    (case gaBadSteps => k_is)
    (case ggBadSteps => k_is)
    (case hd2BadSteps => k_is)
    (case vfBadStepsindex => k_is)


