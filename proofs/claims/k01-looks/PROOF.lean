import PyProof.Rows.All
import Wide.All
import OpenK.AllK
import Wide.FinOn
import HandS.ForMost
import HandS.Exc
import HandS.IsInst
import HandS.ExcIs
import HandS.ExcField
import HandS.RaiseMore
import HandS.CallSlots
import HandS.Wide
import HandS.Flow
import KE.DataEq
import KE.DataAny
import KE.KExcIs
import PyProof.ReprRoads
import KE.KIntText
import PyProof.StrOps2
import PyProof.FitsInt
import PySem.Challenge.RW_stayhouse_k01_looks_at_any_values
set_option Elab.async false
set_option linter.all false
set_option maxRecDepth 100000
set_option maxHeartbeats 4000000
/-! The value layer: Python values as plain data; a def is mirrored by a function on data. -/
namespace VL
open PySem PySem.Spec PyProof.Rows L2
open PySem.W (Frag)

/-- a value: what never changes any more -/
inductive D where
  | non | bl (b : Bool) | int (i : Int) | str (x : Str)
  | lst (xs : List D) | tup (xs : List D)
  | dic (ks : List Key) (xs : List D)
  | dit (ks : List (List Key)) (xs : List D)
  | ins (C : Addr) (ns : List Str) (xs : List D)
  | exc (C : Addr) (ns : List Str) (xs : List D)
  | obj (a : Addr) | ty (n : String) | scr (ns : List Int)
  deriving Inhabited

/-- an object that still changes; z: one that has come to rest -/
inductive LO where
  | l (xs : List D) | d (ks : List Key) (xs : List D) | t (ks : List (List Key)) (xs : List D) | i (C : Addr) (ns : List Str) (xs : List D) | z (d : D)
abbrev LS := List LO
/-- what a slot holds: a value, or a changing object by its number -/
inductive U where
  | d (x : D) | l (n : Nat)

/-- the object of an exception, at a: its class, its own dict -/
def ExcO (a C d : Addr) : Heap → Prop := fun h => ∃ oe vs, h.get? a = some oe ∧ oe.cls = .ref C ∧ oe.dict = some d ∧ oe.data = .fields vs

def KL (K : Frag) (a : Addr) (xs : List V) : Prop :=
  ∃ (o : Obj) (its : Array Value) (n : Nat), K.lookup a = some o ∧ o.cls = .type "list" ∧ o.dict = none ∧ o.data = .seq its n ∧ its.size ≤ sizeLine ∧ Vals xs its.toList
def KT (K : Frag) (a : Addr) (xs : List V) : Prop :=
  ∃ (o : Obj) (its : Array Value) (n : Nat), K.lookup a = some o ∧ o.cls = .type "tuple" ∧ o.data = .seq its n ∧ its.size ≤ sizeLine ∧ Vals xs its.toList
/-- what an own class must say -/
structure OwnC (K : Frag) (C : Addr) : Prop where
  cl : Cls K C
  ha : PySem.W.findIn K (.ref C) "__class__" = some (some (.builtin "object.__class__"))
  hn : PySem.W.specialIn K (.builtin "object.__class__") "__get__" = some (some (.builtin "getset_descriptor.__get__"))
  ht : PySem.W.takesIn K (.builtin "object.__class__") = some true
  hm : PySem.W.mroIn K C (.type "object") = some true
def ScAt (K : Frag) (F : Addr → Prop) (H : Hp) (a : Addr) (vs : List V) : Prop := (F a ∧ ∃ o, H a = some (.frz o (.lst vs))) ∨ KL K a vs
def LsAt (K : Frag) (F : Addr → Prop) (H : Hp) (a : Addr) (vs : List V) : Prop := F a ∧ H a = some (.lst vs)
def TpAt (K : Frag) (F : Addr → Prop) (H : Hp) (a : Addr) (vs : List V) : Prop := (F a ∧ Rd H a (.tup vs)) ∨ KT K a vs

mutual
def Rep (K : Frag) (F : Addr → Prop) (H : Hp) : D → V → Prop
  | .non, v => v = .non
  | .bl b, v => v = .bl b
  | .int i, v => v = .int i
  | .str x, v => v = .str x
  | .lst xs, v => ∃ a vs, v = .ref a ∧ LsAt K F H a vs ∧ RepL K F H xs vs
  | .tup xs, v => ∃ a vs, v = .ref a ∧ TpAt K F H a vs ∧ RepL K F H xs vs
  | .dic ks xs, v => ∃ a kvs, v = .ref a ∧ F a ∧ H a = some (.dK kvs) ∧ kvs.map (·.1) = ks ∧ RepL K F H xs (kvs.map (·.2))
  | .dit ks xs, v => ∃ a kvs, v = .ref a ∧ F a ∧ H a = some (.dT kvs) ∧ kvs.map (·.1) = ks ∧ RepL K F H xs (kvs.map (·.2))
  | .ins C ns xs, v => ∃ a dx fs, v = .ref a ∧ F a ∧ H a = some (.ins C dx fs) ∧ OwnC K C ∧ fs.map (·.1) = ns ∧ RepL K F H xs (fs.map (·.2))
  | .exc C ns xs, v => ∃ a d fs, v = .ref a ∧ F a ∧ F d ∧ H a = some (.ext (ExcO a C d)) ∧ H d = some (.xd fs) ∧ ExcC K C ∧ fs.map (·.1) = ns ∧ RepL K F H xs (fs.map (·.2))
  | .obj a, v => v = .ref a
  | .ty n, v => v = .ty n
  | .scr ns, v => ∃ a, v = .ref a ∧ ScAt K F H a (ns.map V.int)
def RepL (K : Frag) (F : Addr → Prop) (H : Hp) : List D → List V → Prop
  | [], vs => vs = []
  | d :: ds, vs => ∃ v r, vs = v :: r ∧ Rep K F H d v ∧ RepL K F H ds r
end

section
variable {K : Frag} {F F' : Addr → Prop} {H H' : Hp}
theorem ScAt.sq {a : Addr} {vs : List V} (h : ScAt K F H a vs) : SqL K H a vs := by
  rcases h with ⟨_, h⟩ | h
  · exact .inl (.inr h)
  · exact .inr h
theorem TpAt.sq {a : Addr} {vs : List V} (h : TpAt K F H a vs) : SqT K H a vs := by
  rcases h with ⟨_, h⟩ | h
  · exact .inl h
  · exact .inr h
theorem Rd.mv {a : Addr} {u : HO} (h : Rd H a u) (e : H' a = H a) : Rd H' a u := by
  rcases h with h | ⟨o, h⟩
  · exact .inl (e.trans h)
  · exact .inr ⟨o, e.trans h⟩
theorem LsAt.mono (k : ∀ a, F a → F' a ∧ H' a = H a) {a : Addr} {vs : List V} (h : LsAt K F H a vs) : LsAt K F' H' a vs := ⟨(k a h.1).1, (k a h.1).2.trans h.2⟩
theorem ScAt.mono (k : ∀ a, F a → F' a ∧ H' a = H a) {a : Addr} {vs : List V} (h : ScAt K F H a vs) : ScAt K F' H' a vs := by
  rcases h with ⟨f, o, h⟩ | h
  · exact .inl ⟨(k a f).1, o, (k a f).2.trans h⟩
  · exact .inr h
theorem TpAt.mono (k : ∀ a, F a → F' a ∧ H' a = H a) {a : Addr} {vs : List V} (h : TpAt K F H a vs) : TpAt K F' H' a vs := by
  rcases h with ⟨f, h⟩ | h
  · exact .inl ⟨(k a f).1, Rd.mv h (k a f).2⟩
  · exact .inr h
mutual
theorem Rep.mono (k : ∀ a, F a → F' a ∧ H' a = H a) : ∀ (d : D) {v : V}, Rep K F H d v → Rep K F' H' d v
  | .non, _, h => h
  | .bl _, _, h => h
  | .int _, _, h => h
  | .str _, _, h => h
  | .lst xs, _, ⟨a, vs, e, h, r⟩ => ⟨a, vs, e, h.mono k, RepL.mono k xs r⟩
  | .tup xs, _, ⟨a, vs, e, h, r⟩ => ⟨a, vs, e, h.mono k, RepL.mono k xs r⟩
  | .dic ks xs, _, ⟨a, vs, e, f, h, q, r⟩ => ⟨a, vs, e, (k a f).1, (k a f).2.trans h, q, RepL.mono k xs r⟩
  | .dit ks xs, _, ⟨a, vs, e, f, h, q, r⟩ => ⟨a, vs, e, (k a f).1, (k a f).2.trans h, q, RepL.mono k xs r⟩
  | .ins C ns xs, _, ⟨a, dx, fs, e, f, h, oc, q, r⟩ => ⟨a, dx, fs, e, (k a f).1, (k a f).2.trans h, oc, q, RepL.mono k xs r⟩
  | .exc C ns xs, _, ⟨a, d, fs, e, f, f2, h, h2, oc, q, r⟩ => ⟨a, d, fs, e, (k a f).1, (k d f2).1, (k a f).2.trans h, (k d f2).2.trans h2, oc, q, RepL.mono k xs r⟩
  | .obj _, _, h => h
  | .ty _, _, h => h
  | .scr _, _, ⟨a, e, h⟩ => ⟨a, e, h.mono k⟩
theorem RepL.mono (k : ∀ a, F a → F' a ∧ H' a = H a) : ∀ (ds : List D) {vs : List V}, RepL K F H ds vs → RepL K F' H' ds vs
  | [], _, h => h
  | d :: ds, _, ⟨v, r, e, h, t⟩ => ⟨v, r, e, Rep.mono k d h, RepL.mono k ds t⟩
end
theorem RepL.length : ∀ {ds : List D} {vs : List V}, RepL K F H ds vs → vs.length = ds.length
  | [], _, h => by cases h; rfl
  | d :: ds, _, ⟨v, r, e, _, t⟩ => by subst e; simp [RepL.length t]
theorem RepL.get : ∀ {ds : List D} {vs : List V}, RepL K F H ds vs → ∀ {i : Nat} {d : D}, ds[i]? = some d → ∃ v, vs[i]? = some v ∧ Rep K F H d v
  | [], _, _, _, _, e => by simp at e
  | d :: ds, _, ⟨v, r, e, h, t⟩, 0, _, q => by subst e; simp at q; subst q; exact ⟨v, rfl, h⟩
  | d :: ds, _, ⟨v, r, e, h, t⟩, i + 1, _, q => by subst e; exact RepL.get t (i := i) (by simpa using q)
theorem RepL.get' : ∀ {ds : List D} {vs : List V}, RepL K F H ds vs → ∀ {i : Nat} {v : V}, vs[i]? = some v → ∃ d, ds[i]? = some d ∧ Rep K F H d v
  | [], _, h, _, _, e => by cases h; simp at e
  | d :: ds, _, ⟨v, r, e, h, t⟩, 0, _, q => by subst e; simp at q; subst q; exact ⟨d, rfl, h⟩
  | d :: ds, _, ⟨v, r, e, h, t⟩, i + 1, _, q => by subst e; exact RepL.get' t (i := i) (by simpa using q)
theorem RepL.append : ∀ {ds es : List D} {vs us : List V}, RepL K F H ds vs → RepL K F H es us → RepL K F H (ds ++ es) (vs ++ us)
  | [], _, _, _, h, q => by cases h; exact q
  | d :: ds, _, _, _, ⟨v, r, e, h, t⟩, q => by subst e; exact ⟨v, _, rfl, h, RepL.append t q⟩
theorem RepL.one {d : D} {v : V} (h : Rep K F H d v) : RepL K F H [d] [v] := ⟨v, [], rfl, h, rfl⟩
theorem RepL.take : ∀ {ds : List D} {vs : List V} (n : Nat), RepL K F H ds vs → RepL K F H (ds.take n) (vs.take n)
  | _, _, 0, _ => rfl
  | [], _, _ + 1, h => by cases h; rfl
  | d :: ds, _, n + 1, ⟨v, r, e, h, t⟩ => by subst e; exact ⟨v, _, rfl, h, RepL.take n t⟩
theorem RepL.drop : ∀ {ds : List D} {vs : List V} (n : Nat), RepL K F H ds vs → RepL K F H (ds.drop n) (vs.drop n)
  | _, _, 0, h => h
  | [], _, _ + 1, h => by cases h; rfl
  | d :: ds, _, n + 1, ⟨v, r, e, h, t⟩ => by subst e; exact RepL.drop n t
theorem RepL.set : ∀ {ds : List D} {vs : List V} (i : Nat) {d : D} {v : V}, RepL K F H ds vs → Rep K F H d v → RepL K F H (ds.set i d) (vs.set i v)
  | [], _, _, _, _, h, _ => by cases h; rfl
  | _ :: ds, _, 0, _, _, ⟨v, r, e, h, t⟩, q => by subst e; exact ⟨_, _, rfl, q, t⟩
  | _ :: ds, _, i + 1, _, _, ⟨v, r, e, h, t⟩, q => by subst e; exact ⟨_, _, rfl, h, RepL.set i t q⟩
end

/-- what is read: the object itself need not have come to rest -/
def Rdr (K : Frag) (F : Addr → Prop) (H : Hp) : D → V → Prop
  | .lst xs, v => ∃ a vs, v = .ref a ∧ H a = some (.lst vs) ∧ RepL K F H xs vs
  | .tup xs, v => ∃ a vs, v = .ref a ∧ SqT K H a vs ∧ RepL K F H xs vs
  | .dic ks xs, v => ∃ a kvs, v = .ref a ∧ H a = some (.dK kvs) ∧ kvs.map (·.1) = ks ∧ RepL K F H xs (kvs.map (·.2))
  | .dit ks xs, v => ∃ a kvs, v = .ref a ∧ H a = some (.dT kvs) ∧ kvs.map (·.1) = ks ∧ RepL K F H xs (kvs.map (·.2))
  | .ins C ns xs, v => ∃ a dx fs, v = .ref a ∧ H a = some (.ins C dx fs) ∧ OwnC K C ∧ fs.map (·.1) = ns ∧ RepL K F H xs (fs.map (·.2))
  | d, v => Rep K F H d v
theorem Rep.rdr {K : Frag} {F : Addr → Prop} {H : Hp} : ∀ {d : D} {v : V}, Rep K F H d v → Rdr K F H d v
  | .non, _, h => h
  | .bl _, _, h => h
  | .int _, _, h => h
  | .str _, _, h => h
  | .lst xs, _, ⟨a, vs, e, h, r⟩ => ⟨a, vs, e, h.2, r⟩
  | .tup xs, _, ⟨a, vs, e, h, r⟩ => ⟨a, vs, e, h.sq, r⟩
  | .dic ks xs, _, ⟨a, vs, e, f, h, q, r⟩ => ⟨a, vs, e, h, q, r⟩
  | .dit ks xs, _, ⟨a, vs, e, f, h, q, r⟩ => ⟨a, vs, e, h, q, r⟩
  | .ins C ns xs, _, ⟨a, dx, fs, e, f, h, oc, q, r⟩ => ⟨a, dx, fs, e, h, oc, q, r⟩
  | .exc C ns xs, _, h => h
  | .obj _, _, h => h
  | .ty _, _, h => h
  | .scr _, _, h => h

/-! ### the whole state -/
def LAt (K : Frag) (F : Addr → Prop) (H : Hp) (a : Addr) : LO → Prop
  | .l xs => ¬ F a ∧ ∃ vs, H a = some (.lst vs) ∧ RepL K F H xs vs
  | .d ks xs => ¬ F a ∧ ∃ kvs, H a = some (.dK kvs) ∧ kvs.map (·.1) = ks ∧ RepL K F H xs (kvs.map (·.2))
  | .t ks xs => ¬ F a ∧ ∃ kvs, H a = some (.dT kvs) ∧ kvs.map (·.1) = ks ∧ RepL K F H xs (kvs.map (·.2))
  | .i C ns xs => ¬ F a ∧ ∃ dx fs, H a = some (.ins C dx fs) ∧ OwnC K C ∧ fs.map (·.1) = ns ∧ RepL K F H xs (fs.map (·.2))
  | .z d => Rep K F H d (.ref a)
def LO.on : LO → Bool
  | .z _ => false
  | _ => true
structure Ok (K : Frag) (F : Addr → Prop) (r : Nat → Addr) (H : Hp) (L : LS) : Prop where
  at_ : ∀ n lo, L[n]? = some lo → LAt K F H (r n) lo
  inj : ∀ m n lo lo', L[m]? = some lo → L[n]? = some lo' → lo.on = true → lo'.on = true → r m = r n → m = n
  stands : ∀ a, F a → H a ≠ none
/-- a changing object of ours stands at a -/
def Lv (ρ : Nat → Addr) (L : LS) (a : Addr) : Prop := ∃ n lo, L[n]? = some lo ∧ lo.on = true ∧ ρ n = a
structure Step (F : Addr → Prop) (r : Nat → Addr) (H : Hp) (L : LS) (F' : Addr → Prop) (r' : Nat → Addr) (H' : Hp) (L' : LS) : Prop where
  fz : ∀ a, F a → F' a ∧ H' a = H a
  len : L.length ≤ L'.length
  same : ∀ n, n < L.length → r' n = r n
  keep : ∀ a u, H a = some u → ¬ Lv r L a → H' a = some u
  new : ∀ n lo, L.length ≤ n → L'[n]? = some lo → lo.on = true → H (r' n) = none
  off : ∀ n lo, n < L.length → L'[n]? = some lo → lo.on = true → ∃ l0, L[n]? = some l0 ∧ l0.on = true
  trk : ∀ a, H' a = none → H a = none
  fr : ∀ a, F' a → F a ∨ H a = none ∨ Lv r L a
theorem Step.refl {F : Addr → Prop} {r : Nat → Addr} {H : Hp} {L : LS} : Step F r H L F r H L :=
  ⟨fun _ h => ⟨h, rfl⟩, Nat.le_refl _, fun _ _ => rfl, fun _ _ h _ => h, fun n lo h e _ => absurd (List.getElem?_eq_some_iff.mp e).1 (Nat.not_lt.mpr h), fun n lo _ e t => ⟨lo, e, t⟩, fun _ h => h, fun _ h => .inl h⟩
theorem Step.lv {F F1 : Addr → Prop} {r r1 : Nat → Addr} {H H1 : Hp} {L L1 : LS} (s : Step F r H L F1 r1 H1 L1) {a : Addr} (h : Lv r1 L1 a) : H a = none ∨ Lv r L a := by
  obtain ⟨n, lo, e, t, rfl⟩ := h
  by_cases hn : n < L.length
  · obtain ⟨l0, e0, t0⟩ := s.off n lo hn e t
    exact .inr ⟨n, l0, e0, t0, (s.same n hn).symm⟩
  · exact .inl (s.new n lo (Nat.not_lt.mp hn) e t)
theorem Step.trans {F F1 F2 : Addr → Prop} {r r1 r2 : Nat → Addr} {H H1 H2 : Hp} {L L1 L2 : LS} (a : Step F r H L F1 r1 H1 L1) (b : Step F1 r1 H1 L1 F2 r2 H2 L2) : Step F r H L F2 r2 H2 L2 where
  fz := fun x h => ⟨(b.fz x (a.fz x h).1).1, (b.fz x (a.fz x h).1).2.trans (a.fz x h).2⟩
  len := Nat.le_trans a.len b.len
  same := fun n h => (b.same n (Nat.lt_of_lt_of_le h a.len)).trans (a.same n h)
  keep := fun x u e h => b.keep x u (a.keep x u e h) fun z => (a.lv z).elim (fun q => by rw [q] at e; cases e) h
  new := fun n lo h e t => by
    by_cases hn : n < L1.length
    · obtain ⟨l1, e1, t1⟩ := b.off n lo hn e t
      rw [b.same n hn]
      exact a.new n l1 h e1 t1
    · exact a.trk _ (b.new n lo (Nat.not_lt.mp hn) e t)
  off := fun n lo h e t => by
    obtain ⟨l1, e1, t1⟩ := b.off n lo (Nat.lt_of_lt_of_le h a.len) e t
    exact a.off n l1 h e1 t1
  trk := fun x h => a.trk x (b.trk x h)
  fr := fun x h => by
    rcases b.fr x h with q | q | q
    · exact a.fr x q
    · exact .inr (.inl (a.trk x q))
    · exact .inr (a.lv q)

def RepU (K : Frag) (F : Addr → Prop) (r : Nat → Addr) (H : Hp) (L : LS) : U → V → Prop
  | .d x, v => Rep K F H x v
  | .l n, v => n < L.length ∧ v = .ref (r n)
theorem RepU.mono {K : Frag} {F F' : Addr → Prop} {r r' : Nat → Addr} {H H' : Hp} {L L' : LS} (s : Step F r H L F' r' H' L') {u : U} {v : V} (h : RepU K F r H L u v) : RepU K F' r' H' L' u v := by
  cases u with
  | d x => exact Rep.mono s.fz x h
  | l n => exact ⟨Nat.lt_of_lt_of_le h.1 s.len, by rw [s.same n h.1]; exact h.2⟩
/-- the slots -/
abbrev SS := List (Option U)
structure RepSt (K : Frag) (F : Addr → Prop) (r : Nat → Addr) (H : Hp) (L : LS) (σ : L2.St) (st : SS) : Prop where
  len : σ.length = st.length
  at_ : ∀ (i : Nat) u, st[i]? = some (some u) → ∃ v, σ[i]? = some (some v) ∧ RepU K F r H L u v
theorem RepSt.mono {K : Frag} {F F' : Addr → Prop} {r r' : Nat → Addr} {H H' : Hp} {L L' : LS} (s : Step F r H L F' r' H' L') {σ : L2.St} {st : SS} (h : RepSt K F r H L σ st) : RepSt K F' r' H' L' σ st :=
  ⟨h.len, fun i u e => let ⟨v, e1, r1⟩ := h.at_ i u e; ⟨v, e1, r1.mono s⟩⟩
theorem RepSt.set {K : Frag} {F : Addr → Prop} {r : Nat → Addr} {H : Hp} {L : LS} {σ : L2.St} {st : SS} (h : RepSt K F r H L σ st) (i : Nat) {u : U} {v : V} (hu : RepU K F r H L u v) : RepSt K F r H L (σ.set i (some v)) (st.set i (some u)) := by
  refine ⟨by simp [h.len], fun j w e => ?_⟩
  by_cases q : j = i
  · subst q
    by_cases hl : j < st.length
    · rw [List.getElem?_set_self hl] at e
      have e' : u = w := Option.some.inj (Option.some.inj e)
      subst e'
      exact ⟨v, List.getElem?_set_self (by rw [h.len]; exact hl), hu⟩
    · rw [List.getElem?_eq_none (by simpa using hl)] at e
      cases e
  · rw [List.getElem?_set_ne (Ne.symm q)] at e ⊢
    exact h.at_ j w e

/-- what comes of a piece of code: a value, an exception of an own class, or nothing is said -/
inductive Rs (α : Type) where
  | ok (a : α) (L : LS)
  | ex (C : Addr) (ns : List Str) (xs : List D) (L : LS)
  | no
@[simp] def Rs.bind {α β : Type} : Rs α → (α → LS → Rs β) → Rs β
  | .ok a L, g => g a L
  | .ex C ns xs L, _ => .ex C ns xs L
  | .no, _ => .no
/-- an expression's mirror -/
abbrev EF := SS → LS → Rs U
abbrev TF := SS → LS → Rs Bool
abbrev AF := SS → LS → Rs (List U)

/-- the exception that is in the air -/
def Thrown (K : Frag) (F : Addr → Prop) (H : Hp) (ns : List Str) (xs : List D) (d : Option Addr) : Prop :=
  ∃ dd fs, d = some dd ∧ F dd ∧ H dd = some (.xd fs) ∧ fs.map (·.1) = ns ∧ RepL K F H xs (fs.map (·.2))

/-- what is wanted behind a result r, from the state (F, r, H, L) on -/
def GE {α : Type} (P : Frag → (Addr → Prop) → (Nat → Addr) → Hp → LS → α → β → Prop) (K : Frag) (W : WX) (σ : L2.St) (F : Addr → Prop) (ρ : Nat → Addr) (H : Hp) (L : LS) (Q : β → Hp → Prop) : Rs α → Prop
  | .ok a L' => ∀ F' ρ' H' b, Step F ρ H L F' ρ' H' L' → Ok K F' ρ' H' L' → P K F' ρ' H' L' a b → Q b H'
  | .ex C ns xs L' => ∀ F' ρ' H' d, Step F ρ H L F' ρ' H' L' → Ok K F' ρ' H' L' → Thrown K F' H' ns xs d → W (.ref C) d σ H'
  | .no => False
theorem GE.on {α β : Type} {P : Frag → (Addr → Prop) → (Nat → Addr) → Hp → LS → α → β → Prop} {K : Frag} {W : WX} {σ : L2.St} {F F' : Addr → Prop} {ρ ρ' : Nat → Addr} {H H' : Hp} {L L' : LS} {Q : β → Hp → Prop} {x : Rs α}
    (s : Step F ρ H L F' ρ' H' L') (h : GE P K W σ F ρ H L Q x) : GE P K W σ F' ρ' H' L' Q x := by
  cases x with
  | ok a L2 => exact fun F2 ρ2 H2 b s2 => h F2 ρ2 H2 b (s.trans s2)
  | ex C ns xs L2 => exact fun F2 ρ2 H2 d s2 => h F2 ρ2 H2 d (s.trans s2)
  | no => exact h
end VL

set_option Elab.async false
set_option linter.all false
set_option maxRecDepth 100000
set_option maxHeartbeats 4000000
namespace VL
open PySem PySem.Spec PyProof.Rows L2
open PySem.W (Frag)

abbrev PP (α β : Type) := Frag → (Addr → Prop) → (Nat → Addr) → Hp → LS → α → β → Prop
def PB : PP Bool Bool := fun _ _ _ _ _ a b => a = b
def RepUs (K : Frag) (F : Addr → Prop) (ρ : Nat → Addr) (H : Hp) (L : LS) : List U → List V → Prop
  | [], vs => vs = []
  | u :: us, vs => ∃ v r, vs = v :: r ∧ RepU K F ρ H L u v ∧ RepUs K F ρ H L us r
theorem RepUs.mono {K : Frag} {F F' : Addr → Prop} {r r' : Nat → Addr} {H H' : Hp} {L L' : LS} (s : Step F r H L F' r' H' L') : ∀ {us : List U} {vs : List V}, RepUs K F r H L us vs → RepUs K F' r' H' L' us vs
  | [], _, h => h
  | _ :: _, _, ⟨v, t, e, h, q⟩ => ⟨v, t, e, h.mono s, RepUs.mono s q⟩
theorem RepUs.length {K : Frag} {F : Addr → Prop} {r : Nat → Addr} {H : Hp} {L : LS} : ∀ {us : List U} {vs : List V}, RepUs K F r H L us vs → vs.length = us.length
  | [], _, h => by cases h; rfl
  | _ :: _, _, ⟨v, t, e, h, q⟩ => by subst e; simp [RepUs.length q]

/-- the reading that a mirror gives -/
def RG {α β : Type} (P : PP α β) (K : Frag) (W : WX) (f : SS → LS → Rs α) : L2.St → Hp → (β → Hp → Prop) → Prop := fun σ H Q =>
  ∃ F ρ L st, Ok K F ρ H L ∧ RepSt K F ρ H L σ st ∧ GE P K W σ F ρ H L Q (f st L)
section
variable {K : Frag} {W : WX} {σ : L2.St} {F : Addr → Prop} {ρ : Nat → Addr} {H : Hp} {L : LS}
theorem GE.mono {α β : Type} {P : PP α β} {Q Q' : β → Hp → Prop} {x : Rs α} (h : GE P K W σ F ρ H L Q x) (q : ∀ b H, Q b H → Q' b H) : GE P K W σ F ρ H L Q' x := by
  cases x with
  | ok a L2 => exact fun F2 ρ2 H2 b s2 o p => q _ _ (h F2 ρ2 H2 b s2 o p)
  | ex C ns xs L2 => exact h
  | no => exact h
theorem RG.mono {α β : Type} {P : PP α β} {f : SS → LS → Rs α} {Q Q' : β → Hp → Prop} (h : RG P K W f σ H Q) (q : ∀ b H, Q b H → Q' b H) : RG P K W f σ H Q' := by
  obtain ⟨F, ρ, L, st, o, r, g⟩ := h
  exact ⟨F, ρ, L, st, o, r, g.mono q⟩
/-- the state behind a part, and what is still wanted -/
def Nx {α β γ δ : Type} (P : PP α β) (P2 : PP γ δ) (K : Frag) (W : WX) (σ : L2.St) (F : Addr → Prop) (ρ : Nat → Addr) (H : Hp) (L : LS) (Q : δ → Hp → Prop) (g : α → LS → Rs γ) (b : β) (H1 : Hp) : Prop :=
  ∃ F1 ρ1 L1 a, Step F ρ H L F1 ρ1 H1 L1 ∧ Ok K F1 ρ1 H1 L1 ∧ P K F1 ρ1 H1 L1 a b ∧ GE P2 K W σ F1 ρ1 H1 L1 Q (g a L1)
theorem GE.bind {α β γ δ : Type} {P : PP α β} {P2 : PP γ δ} {Q : δ → Hp → Prop} {x : Rs α} {g : α → LS → Rs γ}
    (h : GE P2 K W σ F ρ H L Q (x.bind g)) : GE P K W σ F ρ H L (Nx P P2 K W σ F ρ H L Q g) x := by
  cases x with
  | ok a L2 => exact fun F2 ρ2 H2 b s2 o p => ⟨F2, ρ2, L2, a, s2, o, p, GE.on s2 h⟩
  | ex C ns xs L2 => exact h
  | no => exact h
/-- the first part of a mirror is read, the rest is wanted behind it -/
theorem RG.of {α β : Type} {P : PP α β} {f : SS → LS → Rs α} {st : SS} {Q : β → Hp → Prop} (o : Ok K F ρ H L) (r : RepSt K F ρ H L σ st) (h : GE P K W σ F ρ H L Q (f st L)) : RG P K W f σ H Q := ⟨F, ρ, L, st, o, r, h⟩
theorem RG.one {α β γ δ : Type} {P : PP α β} {P2 : PP γ δ} {f : SS → LS → Rs α} {st : SS} {Q : δ → Hp → Prop} {Q' : β → Hp → Prop} {g : α → LS → Rs γ} (o : Ok K F ρ H L) (r : RepSt K F ρ H L σ st) (h : GE P2 K W σ F ρ H L Q ((f st L).bind g))
    (q : ∀ b H1 F1 ρ1 L1 a, Step F ρ H L F1 ρ1 H1 L1 → Ok K F1 ρ1 H1 L1 → RepSt K F1 ρ1 H1 L1 σ st → P K F1 ρ1 H1 L1 a b → GE P2 K W σ F1 ρ1 H1 L1 Q (g a L1) → Q' b H1) : RG P K W f σ H Q' :=
  ⟨F, ρ, L, st, o, r, (GE.bind (P := P) h).mono fun b H1 ⟨F1, ρ1, L1, a, s1, o1, p1, h1⟩ => q b H1 F1 ρ1 L1 a s1 o1 (r.mono s1) p1 h1⟩
def opt {α β : Type} : Option α → (α → Rs β) → Rs β
  | some a, f => f a
  | none, _ => .no
@[simp] theorem opt_some {α β : Type} (a : α) (f : α → Rs β) : opt (some a) f = f a := rfl
@[simp] theorem opt_none {α β : Type} (f : α → Rs β) : opt none f = .no := rfl
theorem GE.opt {α γ δ : Type} {P : PP γ δ} {Q : δ → Hp → Prop} {x : Option α} {f : α → Rs γ} (h : GE P K W σ F ρ H L Q (opt x f)) : ∃ a, x = some a ∧ GE P K W σ F ρ H L Q (f a) := by
  cases x with
  | some a => exact ⟨a, rfl, h⟩
  | none => exact h.elim
theorem GE.fin {α β : Type} {P : PP α β} {Q : β → Hp → Prop} {a : α} {b : β} (h : GE P K W σ F ρ H L Q (.ok a L)) (o : Ok K F ρ H L) (p : P K F ρ H L a b) : Q b H := h F ρ H b Step.refl o p
theorem GE.finD {Q : VK} {d : D} {b : V} (h : GE RepU K W σ F ρ H L Q (.ok (.d d) L)) (o : Ok K F ρ H L) (p : Rep K F H d b) : Q b H := h F ρ H b Step.refl o p
end

/-! ### the judgements -/
abbrev KE (X : Cx) (W : WX) (e : Expr) (f : EF) : Prop := PE X e (RG RepU X.K W f)
abbrev KB (X : Cx) (W : WX) (e : Expr) (f : TF) : Prop := PT X e (RG PB X.K W f)
abbrev KW (X : Cx) (W : WX) (e : Expr) (f : TF) : Prop := PW X e (RG PB X.K W f)
abbrev KA (X : Cx) (W : WX) (es : List Expr) (f : AF) : Prop := PA X es (RG RepUs X.K W f)

theorem pe_wk {X : Cx} {e : Expr} {t t' : TE} (h : PE X e t) (i : ∀ σ H Q, t' σ H Q → t σ H Q) : PE X e t' := ⟨fun pins s σ H Q I q => h.run pins s σ H Q I (i σ H Q q)⟩
theorem pt_wk {X : Cx} {e : Expr} {t t' : TT} (h : PT X e t) (i : ∀ σ H Q, t' σ H Q → t σ H Q) : PT X e t' := ⟨fun pins s σ H Q I q => h.run pins s σ H Q I (i σ H Q q)⟩
theorem pw_wk {X : Cx} {e : Expr} {t t' : TT} (h : PW X e t) (i : ∀ σ H Q, t' σ H Q → t σ H Q) : PW X e t' := ⟨fun wh pins s σ H Q I q => h.run wh pins s σ H Q I (i σ H Q q)⟩
theorem pa_wk {X : Cx} {e : List Expr} {t t' : TA} (h : PA X e t) (i : ∀ σ H Q, t' σ H Q → t σ H Q) : PA X e t' := ⟨fun p pins s σ H Q I q => h.run p pins s σ H Q I (i σ H Q q)⟩
theorem ps_wk {X : Cx} {e : Stmt} {t t' : TS} (h : PS X e t) (i : ∀ D σ H, t' D σ H → t D σ H) : PS X e t' := ⟨fun pins s σ H D I q => h.run pins s σ H D I (i D σ H q)⟩
theorem pss_wk {X : Cx} {e : List Stmt} {t t' : TS} (h : PSs X e t) (i : ∀ D σ H, t' D σ H → t D σ H) : PSs X e t' := ⟨fun pins s σ H D I q => h.run pins s σ H D I (i D σ H q)⟩

/-! ### what stands at a number -/
def LO.rd : LO → D
  | .l xs => .lst xs
  | .d ks xs => .dic ks xs
  | .t ks xs => .dit ks xs
  | .i C ns xs => .ins C ns xs
  | .z y => y
def rdU (L : LS) : U → Option D
  | .d x => some x
  | .l n => L[n]?.map LO.rd
theorem rdr_of {K : Frag} {F : Addr → Prop} {ρ : Nat → Addr} {H : Hp} {L : LS} (o : Ok K F ρ H L) {u : U} {v : V} {d : D} (r : RepU K F ρ H L u v) (e : rdU L u = some d) : Rdr K F H d v := by
  cases u with
  | d x => cases e; exact Rep.rdr r
  | l n =>
    obtain ⟨hn, rfl⟩ := r
    cases q : L[n]? with
    | none => simp [rdU, q] at e
    | some lo =>
      simp [rdU, q] at e
      have h := o.at_ n lo q
      cases lo with
      | l xs => subst e; obtain ⟨_, vs, h1, h2⟩ := h; exact ⟨_, vs, rfl, h1, h2⟩
      | d ks xs => subst e; obtain ⟨_, vs, h1, h2, h3⟩ := h; exact ⟨_, vs, rfl, h1, h2, h3⟩
      | t ks xs => subst e; obtain ⟨_, vs, h1, h2, h3⟩ := h; exact ⟨_, vs, rfl, h1, h2, h3⟩
      | i C ns xs => subst e; obtain ⟨_, dx, fs, h1, oc, h2, h3⟩ := h; exact ⟨_, dx, fs, rfl, h1, oc, h2, h3⟩
      | z dd => subst e; exact Rep.rdr h

/-- coming to rest -/
def fzL (L : LS) (n : Nat) : LS := match L[n]? with
  | some lo => L.set n (.z lo.rd)
  | none => L
def fzU (L : LS) : U → Option (D × LS)
  | .d x => some (x, L)
  | .l n => match L[n]? with
    | some lo => some (lo.rd, L.set n (.z lo.rd))
    | none => none

section
variable {K : Frag} {F : Addr → Prop} {ρ : Nat → Addr} {H : Hp} {L : LS}
theorem fz_step {F' : Addr → Prop} {n : Nat} {lo : LO} (e : L[n]? = some lo) (k : ∀ a, F a → F' a ∧ H a = H a) (fr : ∀ a, F' a → F a ∨ H a = none ∨ Lv ρ L a) : Step F ρ H L F' ρ H (L.set n (.z lo.rd)) := by
  have hn : n < L.length := (List.getElem?_eq_some_iff.mp e).1
  refine ⟨k, by simp, fun _ _ => rfl, fun _ _ h _ => h, fun m l h q _ => ?_, fun m l h q t => ?_, fun _ h => h, fr⟩
  · have := (List.getElem?_eq_some_iff.mp q).1
    simp at this
    omega
  · by_cases hm : m = n
    · subst hm; rw [List.getElem?_set_self hn] at q; cases q; cases t
    · rw [List.getElem?_set_ne (Ne.symm hm)] at q; exact ⟨l, q, t⟩
/-- a further thing comes to rest at a: it stood there, and no changing object stands there but n -/
theorem fz_ok (o : Ok K F ρ H L) {n : Nat} {lo : LO} (e : L[n]? = some lo) : ∃ F', Step F ρ H L F' ρ H (L.set n (.z lo.rd)) ∧ Ok K F' ρ H (L.set n (.z lo.rd)) ∧ Rep K F' H lo.rd (.ref (ρ n)) := by
  have hn : n < L.length := (List.getElem?_eq_some_iff.mp e).1
  have h := o.at_ n lo e
  by_cases hz : lo.on = false
  · obtain ⟨d, rfl⟩ : ∃ d, lo = .z d := by
      cases lo with
      | z d => exact ⟨d, rfl⟩
      | l xs => exact absurd hz (by simp [LO.on])
      | d ks xs => exact absurd hz (by simp [LO.on])
      | t ks xs => exact absurd hz (by simp [LO.on])
      | i C ns xs => exact absurd hz (by simp [LO.on])
    refine ⟨F, fz_step e (fun _ x => ⟨x, rfl⟩) fun _ x => .inl x, ⟨fun m lo' q => ?_, fun m k lo' lo2 q1 q2 t1 t2 q => ?_, o.stands⟩, h⟩
    · by_cases hm : m = n
      · subst hm; rw [List.getElem?_set_self hn] at q; cases q; exact h
      · rw [List.getElem?_set_ne (Ne.symm hm)] at q; exact o.at_ m lo' q
    · have z : ∀ {j : Nat} {l3 : LO}, (L.set n (.z (LO.rd (.z d))))[j]? = some l3 → l3.on = true → L[j]? = some l3 := fun {j l3} q t => by
        by_cases hj : j = n
        · subst hj; rw [List.getElem?_set_self hn] at q; cases q; cases t
        · rwa [List.getElem?_set_ne (Ne.symm hj)] at q
      exact o.inj m k lo' lo2 (z q1 t1) (z q2 t2) t1 t2 q
  · have on : lo.on = true := by cases t : lo.on <;> simp_all
    let F' : Addr → Prop := fun a => F a ∨ a = ρ n
    have k : ∀ a, F a → F' a ∧ H a = H a := fun a f => ⟨.inl f, rfl⟩
    have hH : H (ρ n) ≠ none := by
      cases lo with
      | l xs => obtain ⟨_, vs, h1, _⟩ := h; rw [h1]; simp
      | d ks xs => obtain ⟨_, vs, h1, _⟩ := h; rw [h1]; simp
      | t ks xs => obtain ⟨_, vs, h1, _⟩ := h; rw [h1]; simp
      | i C ns xs => obtain ⟨_, dx, fs, h1, _⟩ := h; rw [h1]; simp
      | z d => cases on
    have hr : Rep K F' H lo.rd (.ref (ρ n)) := by
      cases lo with
      | l xs => obtain ⟨_, vs, h1, h2⟩ := h; exact ⟨_, vs, rfl, ⟨.inr rfl, h1⟩, RepL.mono k xs h2⟩
      | d ks xs => obtain ⟨_, vs, h1, h2, h3⟩ := h; exact ⟨_, vs, rfl, .inr rfl, h1, h2, RepL.mono k xs h3⟩
      | t ks xs => obtain ⟨_, vs, h1, h2, h3⟩ := h; exact ⟨_, vs, rfl, .inr rfl, h1, h2, RepL.mono k xs h3⟩
      | i C ns xs => obtain ⟨_, dx, fs, h1, oc, h2, h3⟩ := h; exact ⟨_, dx, fs, rfl, .inr rfl, h1, oc, h2, RepL.mono k xs h3⟩
      | z d => cases on
    refine ⟨F', fz_step e k (fun a f => f.elim .inl fun z => .inr (.inr ⟨n, lo, e, on, z.symm⟩)), ⟨fun m lo' q => ?_, fun m j lo' lo2 q1 q2 t1 t2 q => ?_, fun a f => f.elim (o.stands a) fun z => by subst z; exact hH⟩, hr⟩
    · by_cases hm : m = n
      · subst hm; rw [List.getElem?_set_self hn] at q; cases q; exact hr
      · rw [List.getElem?_set_ne (Ne.symm hm)] at q
        have h' := o.at_ m lo' q
        have nf : lo'.on = true → ¬ F (ρ m) → ¬ F' (ρ m) := fun t f z => z.elim f fun z => hm (o.inj m n lo' lo q e t on z)
        cases lo' with
        | l xs => obtain ⟨f, vs, h1, h2⟩ := h'; exact ⟨nf rfl f, vs, h1, RepL.mono k xs h2⟩
        | d ks xs => obtain ⟨f, vs, h1, h2, h3⟩ := h'; exact ⟨nf rfl f, vs, h1, h2, RepL.mono k xs h3⟩
        | t ks xs => obtain ⟨f, vs, h1, h2, h3⟩ := h'; exact ⟨nf rfl f, vs, h1, h2, RepL.mono k xs h3⟩
        | i C ns xs => obtain ⟨f, dx, fs, h1, oc, h2, h3⟩ := h'; exact ⟨nf rfl f, dx, fs, h1, oc, h2, RepL.mono k xs h3⟩
        | z d => exact Rep.mono k d h'
    · have z : ∀ {j : Nat} {l3 : LO}, (L.set n (.z lo.rd))[j]? = some l3 → l3.on = true → L[j]? = some l3 := fun {j l3} q t => by
        by_cases hj : j = n
        · subst hj; rw [List.getElem?_set_self hn] at q; cases q; cases t
        · rwa [List.getElem?_set_ne (Ne.symm hj)] at q
      exact o.inj m j lo' lo2 (z q1 t1) (z q2 t2) t1 t2 q
theorem fzU_ok (o : Ok K F ρ H L) {u : U} {v : V} {d : D} {L' : LS} (r : RepU K F ρ H L u v) (e : fzU L u = some (d, L')) : ∃ F', Step F ρ H L F' ρ H L' ∧ Ok K F' ρ H L' ∧ Rep K F' H d v := by
  cases u with
  | d x => cases e; exact ⟨F, Step.refl, o, r⟩
  | l n =>
    obtain ⟨hn, rfl⟩ := r
    cases q : L[n]? with
    | none => simp [fzU, q] at e
    | some lo =>
      simp [fzU, q] at e
      obtain ⟨rfl, rfl⟩ := e
      exact fz_ok o q
/-- a new object p, at rest -/
def F1 (F : Addr → Prop) (p : Addr) : Addr → Prop := fun a => F a ∨ a = p
theorem new_k (o : Ok K F ρ H L) {p : Addr} (hp : H p = none) (u : HO) : ∀ a, F a → F1 F p a ∧ upd H p u a = H a := fun a f => ⟨.inl f, upd_ne fun z => o.stands a f (z ▸ hp)⟩
theorem new_ok (o : Ok K F ρ H L) {p : Addr} (hp : H p = none) (u : HO) : Step F ρ H L (F1 F p) ρ (upd H p u) L ∧ Ok K (F1 F p) ρ (upd H p u) L := by
  have k := new_k o hp u
  refine ⟨⟨k, Nat.le_refl _, fun _ _ => rfl, fun a w e _ => by rw [upd_ne (ne_of_none e hp)]; exact e, fun n lo h e _ => absurd (List.getElem?_eq_some_iff.mp e).1 (Nat.not_lt.mpr h), fun n lo _ e t => ⟨lo, e, t⟩, fun a h => ?_, fun a h => h.elim .inl fun z => .inr (.inl (z ▸ hp))⟩, ⟨fun m lo q => ?_, o.inj, fun a f => f.elim (fun f => by rw [(k a f).2]; exact o.stands a f) fun z => by subst z; rw [upd_same]; simp⟩⟩
  · by_cases z : a = p
    · subst z; rw [upd_same] at h; cases h
    · rw [upd_ne z] at h; exact h
  have h := o.at_ m lo q
  have ne : ∀ {w : HO}, H (ρ m) = some w → ρ m ≠ p := fun e z => by rw [z, hp] at e; cases e
  cases lo with
  | l xs => obtain ⟨f, vs, h1, h2⟩ := h; exact ⟨fun z => z.elim f (ne h1), vs, by rw [upd_ne (ne h1)]; exact h1, RepL.mono k xs h2⟩
  | d ks xs => obtain ⟨f, vs, h1, h2, h3⟩ := h; exact ⟨fun z => z.elim f (ne h1), vs, by rw [upd_ne (ne h1)]; exact h1, h2, RepL.mono k xs h3⟩
  | t ks xs => obtain ⟨f, vs, h1, h2, h3⟩ := h; exact ⟨fun z => z.elim f (ne h1), vs, by rw [upd_ne (ne h1)]; exact h1, h2, RepL.mono k xs h3⟩
  | i C ns xs => obtain ⟨f, dx, fs, h1, oc, h2, h3⟩ := h; exact ⟨fun z => z.elim f (ne h1), dx, fs, by rw [upd_ne (ne h1)]; exact h1, oc, h2, RepL.mono k xs h3⟩
  | z d => exact Rep.mono k d h
/-- a new object p, not tracked among ours, changes nothing -/
theorem new_lst (o : Ok K F ρ H L) {p : Addr} (hp : H p = none) {xs : List D} {vs : List V} (r : RepL K F H xs vs) : Rep K (F1 F p) (upd H p (.lst vs)) (.lst xs) (.ref p) :=
  ⟨p, vs, rfl, ⟨.inr rfl, upd_same⟩, RepL.mono (new_k o hp _) xs r⟩
theorem new_tup (o : Ok K F ρ H L) {p : Addr} (hp : H p = none) {xs : List D} {vs : List V} (r : RepL K F H xs vs) : Rep K (F1 F p) (upd H p (.tup vs)) (.tup xs) (.ref p) :=
  ⟨p, vs, rfl, .inl ⟨.inr rfl, .inl upd_same⟩, RepL.mono (new_k o hp _) xs r⟩
end
end VL

set_option Elab.async false
set_option linter.all false
set_option maxRecDepth 100000
set_option maxHeartbeats 4000000
namespace VL
open PySem PySem.Spec PyProof.Rows L2
open PySem.W (Frag)

section
variable {X : Cx} {W : WX} {a b c : Expr} {fa fb fc : EF} {pos : Pos}

/-! ### names, constants -/
def eVar (i : Nat) : EF := fun st L => match st[i]? with
  | some (some u) => .ok u L
  | _ => .no
theorem ke_var (i : Nat) {x : Str} (hN : X.N[i]? = some x := by rfl) (hv : Vis X.env.scope x := by first | exact Or.inl rfl | exact Or.inr (Or.inl rfl) | exact Or.inr (Or.inr rfl)) (hd : (x == ("__debug__" : Str)) = false := by decide)
    (hcd : (x == ("__classdict__" : Str)) = false := by decide) : KE X W (.Name x pos) (eVar i) := by
  refine pe_wk (pe_var hN hv hd hcd) fun σ H Q ⟨F, ρ, L, st, o, r, h⟩ => ?_
  unfold eVar at h
  split at h
  · rename_i u e
    obtain ⟨v, e1, r1⟩ := r.at_ i u e
    exact ⟨v, e1, h.fin o r1⟩
  · exact h.elim
/-- a variable whose object comes to rest as it is read -/
def fz (r : Rs U) : Rs U := r.bind fun u L => opt (fzU L u) fun p => .ok (.d p.1) p.2
def eC (d : D) : EF := fun _ L => .ok (.d d) L
theorem ke_c {e : Expr} {d : D} {v : V} (h : PE X e (tC v)) (hr : ∀ K F H, Rep K F H d v) : KE X W e (eC d) := pe_wk h fun σ H Q ⟨F, ρ, L, st, o, r, h⟩ => h.fin (b := v) o (hr _ _ _)
theorem ke_int {i j pos} : KE X W (.Constant (.int i) j pos) (eC (.int i)) := ke_c pe_int fun _ _ _ => rfl
theorem ke_bl {i j pos} : KE X W (.Constant (.bool i) j pos) (eC (.bl i)) := ke_c pe_bl fun _ _ _ => rfl
theorem ke_non {j pos} : KE X W (.Constant .none j pos) (eC .non) := ke_c pe_non fun _ _ _ => rfl
theorem ke_str {i j pos} : KE X W (.Constant (.str i) j pos) (eC (.str i)) := ke_c pe_str fun _ _ _ => rfl
/-- a module's name: a constant, a class, a def -/
theorem ke_glob {x : Str} {d : D} {v : V} {u : Value} (hm : X.mg x = some u) (r : RelV v u) (hr : ∀ K F H, Rep K F H d v) (hg : Gl X x := by rfl) (hd : (x == ("__debug__" : Str)) = false := by decide) : KE X W (.Name x pos) (eC d) := ke_c (pe_glob hg hm r hd) hr
theorem ke_obj {x : Str} {f : Addr} (hm : X.mg x = some (.ref f)) (hg : Gl X x := by rfl) (hd : (x == ("__debug__" : Str)) = false := by decide) : KE X W (.Name x pos) (eC (.obj f)) := ke_c (pe_glob (v := .ref f) hg hm rfl hd) fun _ _ _ => rfl
theorem ke_gint {x : Str} {i : Int} (hm : ∃ t, X.mg x = some (.int i t)) (hg : Gl X x := by rfl) (hd : (x == ("__debug__" : Str)) = false := by decide) : KE X W (.Name x pos) (eC (.int i)) := by
  obtain ⟨t, hm⟩ := hm
  exact ke_c (pe_glob (v := .int i) hg hm ⟨t, rfl⟩ hd) fun _ _ _ => rfl
theorem ke_gstr {x i : Str} (hm : ∃ t, X.mg x = some (.str i t)) (hg : Gl X x := by rfl) (hd : (x == ("__debug__" : Str)) = false := by decide) : KE X W (.Name x pos) (eC (.str i)) := by
  obtain ⟨t, hm⟩ := hm
  exact ke_c (pe_glob (v := .str i) hg hm ⟨t, rfl⟩ hd) fun _ _ _ => rfl
theorem ke_ty {x : Str} {n : String} (hm : X.mg x = none) (hv : bootBuiltins x = some (.type n)) (hg : Gl X x := by rfl) (hn : x ≠ "__name__" := by decide) (hd : (x == ("__debug__" : Str)) = false := by decide) : KE X W (.Name x pos) (eC (.ty n)) :=
  ke_c (pe_bltn (v := .ty n) hg hm hv rfl hn hd) fun _ _ _ => rfl

/-! ### operators on what is read -/
def rD2 (K : Frag) (g : D → D → Option D) : R2 := fun x y H Q => ∃ F ρ L dx dy d, Ok K F ρ H L ∧ Rdr K F H dx x ∧ Rdr K F H dy y ∧ g dx dy = some d ∧
  ∀ F' H' z, Step F ρ H L F' ρ H' L → Ok K F' ρ H' L → Rep K F' H' d z → Q z H'
def rD1 (K : Frag) (g : D → Option D) : V → Hp → VK → Prop := fun x H Q => ∃ F ρ L dx d, Ok K F ρ H L ∧ Rdr K F H dx x ∧ g dx = some d ∧
  ∀ F' H' z, Step F ρ H L F' ρ H' L → Ok K F' ρ H' L → Rep K F' H' d z → Q z H'
def op2 (g : D → D → Option D) (x y : U) (L : LS) : Rs U := opt (rdU L x) fun dx => opt (rdU L y) fun dy => opt (g dx dy) fun d => .ok (.d d) L
def op1 (g : D → Option D) (x : U) (L : LS) : Rs U := opt (rdU L x) fun dx => opt (g dx) fun d => .ok (.d d) L
def eBin (g : D → D → Option D) (fa fb : EF) : EF := fun st L => (fa st L).bind fun x L1 => (fb st L1).bind fun y L2 => op2 g x y L2
def eUn (g : D → Option D) (fa : EF) : EF := fun st L => (fa st L).bind fun x L1 => op1 g x L1
theorem op2_ok {g : D → D → Option D} {K : Frag} {W : WX} {σ : L2.St} {F : Addr → Prop} {ρ : Nat → Addr} {H : Hp} {L : LS} {x y : U} {v w : V} {Q : VK} (o : Ok K F ρ H L) (px : RepU K F ρ H L x v) (py : RepU K F ρ H L y w) (h : GE RepU K W σ F ρ H L Q (op2 g x y L)) : rD2 K g v w H Q := by
  obtain ⟨dx, e1, h⟩ := h.opt
  obtain ⟨dy, e2, h⟩ := h.opt
  obtain ⟨d, e3, h⟩ := h.opt
  exact ⟨F, ρ, L, dx, dy, d, o, rdr_of o px e1, rdr_of o py e2, e3, fun F' H' z s o' r => h F' ρ H' z s o' r⟩
theorem op1_ok {g : D → Option D} {K : Frag} {W : WX} {σ : L2.St} {F : Addr → Prop} {ρ : Nat → Addr} {H : Hp} {L : LS} {x : U} {v : V} {Q : VK} (o : Ok K F ρ H L) (px : RepU K F ρ H L x v) (h : GE RepU K W σ F ρ H L Q (op1 g x L)) : rD1 K g v H Q := by
  obtain ⟨dx, e1, h⟩ := h.opt
  obtain ⟨d, e3, h⟩ := h.opt
  exact ⟨F, ρ, L, dx, d, o, rdr_of o px e1, e3, fun F' H' z s o' r => h F' ρ H' z s o' r⟩
theorem two_ok {g : D → D → Option D} {σ : L2.St} {H : Hp} {Q : VK} (h : RG RepU X.K W (eBin g fa fb) σ H Q) : tOp (rD2 X.K g) (RG RepU X.K W fa) (RG RepU X.K W fb) σ H Q := by
  obtain ⟨F, ρ, L, st, o, r, h⟩ := h
  refine RG.one o r h fun x H1 F1 ρ1 L1 u s1 o1 r1 p1 h1 => ?_
  refine RG.one o1 r1 h1 fun y H2 F2 ρ2 L2 u2 s2 o2 r2 p2 h2 => ?_
  exact op2_ok o2 (p1.mono s2) p2 h2
theorem ke_bin {op : Operator} {g : D → D → Option D} (ho : OpR X (binaryOp op) (rD2 X.K g)) (ha : KE X W a fa) (hb : KE X W b fb) : KE X W (.BinOp a op b pos) (eBin g fa fb) := pe_wk (pe_op ho ha hb) fun σ H Q h => two_ok h
theorem ke_un {op : UnaryOp} {g : D → Option D} (ho : UnR X (unaryOp op) (rD1 X.K g)) (ha : KE X W a fa) : KE X W (.UnaryOp op a pos) (eUn g fa) := by
  refine pe_wk (pe_un ho ha) fun σ H Q ⟨F, ρ, L, st, o, r, h⟩ => ?_
  refine RG.one o r h fun x H1 F1 ρ1 L1 u s1 o1 r1 p1 h1 => ?_
  exact op1_ok o1 p1 h1

/-- how a rule of the layer for two values comes to data -/
theorem OpR.toD {f : Value → Value → Sem Value} {r : R2} {g : D → D → Option D} (h : OpR X f r)
    (q : ∀ F ρ L H dx dy d x y Q, Ok X.K F ρ H L → Rdr X.K F H dx x → Rdr X.K F H dy y → g dx dy = some d → (∀ F' H' z, Step F ρ H L F' ρ H' L → Ok X.K F' ρ H' L → Rep X.K F' H' d z → Q z H') → r x y H Q) : OpR X f (rD2 X.K g) := by
  intro pins s σ H x y v u Q I rx ry ⟨F, ρ, L, dx, dy, d, o, r1, r2, e, k⟩
  exact h pins s σ H x y v u Q I rx ry (q F ρ L H dx dy d x y Q o r1 r2 e k)
end

/-! ### what the operators reckon -/
abbrev big : Nat := 16777216
theorem big_eq : sizeLine = big := sizeLine_eq
def smallI (i : Int) : Bool := decide (-(2 ^ 64) < i) && decide (i < 2 ^ 64)
theorem smallI_of {i : Int} (h : smallI i = true) : -(2 ^ 64) < i ∧ i < 2 ^ 64 := by
  simp only [smallI, Bool.and_eq_true, decide_eq_true_eq] at h
  exact h
def addD : D → D → Option D
  | .int i, .int j => some (.int (i + j))
  | .str x, .str y => if x.length + y.length ≤ big then some (.str (x ++ y)) else none
  | .lst x, .lst y => if x.length + y.length ≤ big then some (.lst (x ++ y)) else none
  | _, _ => none
def subD : D → D → Option D
  | .int i, .int j => some (.int (i - j))
  | _, _ => none
def mulD : D → D → Option D
  | .int i, .int j => if smallI i || smallI j then some (.int (i * j)) else none
  | .lst x, .int k => if -(2 ^ 63) ≤ k ∧ k < 2 ^ 63 ∧ x.length * k.toNat ≤ big then some (.lst (List.replicate k.toNat x).flatten) else none
  | _, _ => none
def modD : D → D → Option D
  | .int i, .int j => if 0 < j then some (.int (i % j)) else none
  | _, _ => none
def divD : D → D → Option D
  | .int i, .int j => if 0 < j ∧ j < 1073741824 then some (.int (i / j)) else none
  | _, _ => none
def powD : D → D → Option D
  | .int i, .int j => if 0 ≤ j ∧ j ≤ 1000000 ∧ i.natAbs < 2 ^ 64 then some (.int (i ^ j.toNat)) else none
  | _, _ => none
def negD : D → Option D
  | .int i => some (.int (-i))
  | _ => none
section
variable {X : Cx}
theorem RepL.rep {K : Frag} {F : Addr → Prop} {H : Hp} {ds : List D} {vs : List V} (h : RepL K F H ds vs) : ∀ k : Nat, RepL K F H (List.replicate k ds).flatten (List.replicate k vs).flatten
  | 0 => rfl
  | k + 1 => by
    rw [List.replicate_succ, List.replicate_succ, List.flatten_cons, List.flatten_cons]
    exact h.append (RepL.rep h k)
theorem od_add : OpR X (binaryOp .Add) (rD2 X.K addD) := by
  refine OpR.toD (op_add.or (op_add_str.or op_cat)) fun F ρ L H dx dy d x y Q o r1 r2 e k => ?_
  cases dx <;> cases dy <;> simp only [addD] at e <;> try cases e
  · cases r1; cases r2
    exact .inl ⟨_, _, rfl, rfl, k F H _ Step.refl o rfl⟩
  · cases r1; cases r2
    split at e
    · rename_i hz
      cases e
      exact .inr (.inl ⟨_, _, rfl, rfl, by rw [big_eq]; exact hz, k F H _ Step.refl o rfl⟩)
    · cases e
  · rename_i xs ys
    obtain ⟨p, vs, rfl, h1, q1⟩ := r1
    obtain ⟨p2, vs2, rfl, h2, q2⟩ := r2
    split at e
    · rename_i hz
      cases e
      refine .inr (.inr ⟨_, _, _, _, rfl, rfl, h1, h2, by rw [big_eq, q1.length, q2.length]; exact hz, fun t ht => ?_⟩)
      obtain ⟨s, o'⟩ := new_ok o ht (.lst (vs ++ vs2))
      exact k _ _ _ s o' (new_lst o ht (q1.append q2))
    · cases e
theorem od_sub : OpR X (binaryOp .Sub) (rD2 X.K subD) := by
  refine OpR.toD op_sub fun F ρ L H dx dy d x y Q o r1 r2 e k => ?_
  cases dx <;> cases dy <;> simp only [subD] at e <;> try cases e
  cases r1; cases r2
  exact ⟨_, _, rfl, rfl, k F H _ Step.refl o rfl⟩
theorem od_mul : OpR X (binaryOp .Mult) (rD2 X.K mulD) := by
  refine OpR.toD (op_mul.or op_rep) fun F ρ L H dx dy d x y Q o r1 r2 e k => ?_
  cases dx <;> cases dy <;> simp only [mulD] at e <;> try cases e
  · cases r1; cases r2
    split at e
    · rename_i hz
      cases e
      refine .inl ⟨_, _, rfl, rfl, ?_, k F H _ Step.refl o rfl⟩
      rcases Bool.or_eq_true_iff.mp hz with z | z
      · exact .inl (smallI_of z)
      · exact .inr (smallI_of z)
    · cases e
  · obtain ⟨p, vs, rfl, h1, q1⟩ := r1
    cases r2
    split at e
    · rename_i hz
      cases e
      refine .inr ⟨_, _, _, rfl, rfl, h1, hz.1, hz.2.1, by rw [big_eq, q1.length]; exact hz.2.2, fun t ht => ?_⟩
      obtain ⟨s, o'⟩ := new_ok o ht (.lst (List.replicate (Int.toNat _) vs).flatten)
      exact k _ _ _ s o' (new_lst o ht (q1.rep _))
    · cases e
theorem od_mod : OpR X (binaryOp .Mod) (rD2 X.K modD) := by
  refine OpR.toD op_mod fun F ρ L H dx dy d x y Q o r1 r2 e k => ?_
  cases dx <;> cases dy <;> simp only [modD] at e <;> try cases e
  cases r1; cases r2
  split at e
  · rename_i hz
    cases e
    exact ⟨_, _, rfl, rfl, hz, k F H _ Step.refl o rfl⟩
  · cases e
theorem od_div : OpR X (binaryOp .FloorDiv) (rD2 X.K divD) := by
  refine OpR.toD op_fdiv fun F ρ L H dx dy d x y Q o r1 r2 e k => ?_
  cases dx <;> cases dy <;> simp only [divD] at e <;> try cases e
  cases r1; cases r2
  split at e
  · rename_i hz
    cases e
    exact ⟨_, _, rfl, rfl, hz, k F H _ Step.refl o rfl⟩
  · cases e
theorem od_pow : OpR X (binaryOp .Pow) (rD2 X.K powD) := by
  refine OpR.toD op_pow fun F ρ L H dx dy d x y Q o r1 r2 e k => ?_
  cases dx <;> cases dy <;> simp only [powD] at e <;> try cases e
  cases r1; cases r2
  split at e
  · rename_i hz
    cases e
    exact ⟨_, _, rfl, rfl, hz, k F H _ Step.refl o rfl⟩
  · cases e
theorem od_neg : UnR X (unaryOp .USub) (rD1 X.K negD) := by
  intro pins s σ H x v Q I rx ⟨F, ρ, L, dx, d, o, r1, e, k⟩
  cases dx <;> simp only [negD] at e <;> try cases e
  cases r1
  exact un_neg pins s σ H _ v Q I rx ⟨_, rfl, k F H _ Step.refl o rfl⟩
end
end VL

set_option Elab.async false
set_option linter.all false
set_option maxRecDepth 100000
set_option maxHeartbeats 4000000
namespace VL
open PySem PySem.Spec PyProof.Rows L2
open PySem.W (Frag)

/-! ### plain data -/
mutual
def toPy : D → Option PyData
  | .non => some .none
  | .bl b => some (.bool b)
  | .int i => some (.int i)
  | .str x => some (.str x)
  | .lst xs => (toPyL xs).map .list
  | .tup xs => (toPyL xs).map .tuple
  | _ => none
def toPyL : List D → Option (List PyData)
  | [] => some []
  | d :: ds => (toPy d).bind fun p => (toPyL ds).map (p :: ·)
end
mutual
theorem toPy_dp {K : Frag} {F : Addr → Prop} {H : Hp} : ∀ (d : D) {v : V} {p : PyData}, Rdr K F H d v → toPy d = some p → Dp K H v p
  | .non, _, _, h, e => by cases h; simp only [toPy] at e; cases e; exact .non
  | .bl b, _, _, h, e => by cases h; simp only [toPy] at e; cases e; exact .bl _
  | .int b, _, _, h, e => by cases h; simp only [toPy] at e; cases e; exact .int _
  | .str b, _, _, h, e => by cases h; simp only [toPy] at e; cases e; exact .str _
  | .lst xs, _, _, ⟨a, vs, e1, h, r⟩, e => by
    subst e1
    simp only [toPy, Option.map_eq_some_iff] at e
    obtain ⟨ps, e2, rfl⟩ := e
    exact .lst (.inl (.inl h)) (toPyL_dp xs r e2)
  | .tup xs, _, _, ⟨a, vs, e1, h, r⟩, e => by
    subst e1
    simp only [toPy, Option.map_eq_some_iff] at e
    obtain ⟨ps, e2, rfl⟩ := e
    exact .tup h (toPyL_dp xs r e2)
  | .dic _ _, _, _, _, e => by simp [toPy] at e
  | .dit _ _, _, _, _, e => by simp [toPy] at e
  | .ins _ _ _, _, _, _, e => by simp [toPy] at e
  | .exc _ _ _, _, _, _, e => by simp [toPy] at e
  | .obj _, _, _, _, e => by simp [toPy] at e
  | .ty _, _, _, _, e => by simp [toPy] at e
  | .scr _, _, _, _, e => by simp [toPy] at e
theorem toPyL_dp {K : Frag} {F : Addr → Prop} {H : Hp} : ∀ (ds : List D) {vs : List V} {ps : List PyData}, RepL K F H ds vs → toPyL ds = some ps → DpAll K H vs ps
  | [], _, _, h, e => by cases h; simp only [toPyL] at e; cases e; exact .nil
  | d :: ds, _, _, ⟨v, r, e1, h, t⟩, e => by
    subst e1
    simp only [toPyL, Option.bind_eq_some_iff, Option.map_eq_some_iff] at e
    obtain ⟨p, e2, ps, e3, rfl⟩ := e
    exact .cons (toPy_dp d (Rep.rdr h) e2) (toPyL_dp ds t e3)
end
mutual
theorem toPy_plain : ∀ (d : D) {p : PyData}, toPy d = some p → p.plain = true
  | .non, _, e => by simp only [toPy] at e; cases e; rfl
  | .bl b, _, e => by simp only [toPy] at e; cases e; rfl
  | .int b, _, e => by simp only [toPy] at e; cases e; rfl
  | .str b, _, e => by simp only [toPy] at e; cases e; rfl
  | .lst xs, _, e => by
    simp only [toPy, Option.map_eq_some_iff] at e
    obtain ⟨ps, e2, rfl⟩ := e
    simp only [PyData.plain]; exact toPyL_plain xs e2
  | .tup xs, _, e => by
    simp only [toPy, Option.map_eq_some_iff] at e
    obtain ⟨ps, e2, rfl⟩ := e
    simp only [PyData.plain]; exact toPyL_plain xs e2
  | .dic _ _, _, e => by simp [toPy] at e
  | .dit _ _, _, e => by simp [toPy] at e
  | .ins _ _ _, _, e => by simp [toPy] at e
  | .exc _ _ _, _, e => by simp [toPy] at e
  | .obj _, _, e => by simp [toPy] at e
  | .ty _, _, e => by simp [toPy] at e
  | .scr _, _, e => by simp [toPy] at e
theorem toPyL_plain : ∀ (ds : List D) {ps : List PyData}, toPyL ds = some ps → PyData.plainAll ps = true
  | [], _, e => by simp only [toPyL] at e; cases e; rfl
  | d :: ds, _, e => by
    simp only [toPyL, Option.bind_eq_some_iff, Option.map_eq_some_iff] at e
    obtain ⟨p, e2, ps, e3, rfl⟩ := e
    simp only [PyData.plainAll, toPy_plain d e2, toPyL_plain ds e3]; rfl
end

/-! ### comparisons -/
def eqB (dx dy : D) : Option Bool := (toPy dx).bind fun p => (toPy dy).bind fun q => if p.depth ≤ 64 then some (PyData.eqv p q) else none
def neB (dx dy : D) : Option Bool := (eqB dx dy).map (!·)
def ltB : D → D → Option Bool
  | .int i, .int j => some (decide (i < j))
  | .str x, .str y => some (decide (x.cps.toList < y.cps.toList))
  | _, _ => none
def leB : D → D → Option Bool
  | .int i, .int j => some (decide (i ≤ j))
  | .str x, .str y => some (!decide (y.cps.toList < x.cps.toList))
  | _, _ => none
def gtB : D → D → Option Bool
  | .int i, .int j => some (decide (j < i))
  | _, _ => none
def geB : D → D → Option Bool
  | .int i, .int j => some (decide (j ≤ i))
  | _, _ => none
/-- in: a sign in a text; an item in a list, a tuple of plain data -/
def inSign (x y : Str) : Option Bool := match x.cps.toList with
  | [c] => some (decide (c ∈ y.cps.toList))
  | _ => none
def inSeq (x : D) (ys : List D) : Option Bool := (toPy x).bind fun p => (toPyL ys).bind fun qs => if p.depth ≤ 60 then some (qs.any fun y => PyData.eqv y p) else none
def inB (x y : D) : Option Bool := match y with
  | .str z => (match x with | .str w => inSign w z | _ => none)
  | .lst ys => inSeq x ys
  | .tup ys => inSeq x ys
  | _ => none
def notInB (x y : D) : Option Bool := (inB x y).map (!·)
def isNon : D → Bool
  | .non => true
  | _ => false
def isNonB : D → D → Option Bool
  | x, .non => some (isNon x)
  | _, _ => none
def notNonB (x y : D) : Option Bool := (isNonB x y).map (!·)
abbrev bD (gb : D → D → Option Bool) : D → D → Option D := fun x y => (gb x y).map D.bl

section
variable {X : Cx} {W : WX} {a b c : Expr} {fa fb fc : EF} {pos : Pos}
theorem od_eq (hu : X.A.units + 64 < cLine) : OpR X (compareOp .Eq) (rD2 X.K (bD eqB)) := by
  intro pins s σ H x y v u Q I rx ry ⟨F, ρ, L, dx, dy, d, o, r1, r2, e, k⟩
  simp only [bD, eqB, Option.map_eq_some_iff, Option.bind_eq_some_iff] at e
  obtain ⟨kk, ⟨p, e1, q, e2, e3⟩, rfl⟩ := e
  split at e3
  · rename_i hd
    cases e3
    obtain ⟨as, q1⟩ := Dp.reads I p x v (toPy_dp dx r1 e1) rx
    obtain ⟨bs, q2⟩ := Dp.reads I q y u (toPy_dp dy r2 e2) ry
    exact PySem.SeqAt.eq_plain q1 q2 (toPy_plain dx e1) (toPy_plain dy e2) (by have : min p.depth q.depth ≤ p.depth := Nat.min_le_left _ _; omega) ⟨.bl _, H, I, rfl, k F H _ Step.refl o rfl⟩
  · cases e3
theorem od_ne (hu : X.A.units + 64 < cLine) : OpR X (compareOp .NotEq) (rD2 X.K (bD neB)) := by
  intro pins s σ H x y v u Q I rx ry ⟨F, ρ, L, dx, dy, d, o, r1, r2, e, k⟩
  simp only [bD, neB, eqB, Option.map_eq_some_iff, Option.bind_eq_some_iff] at e
  obtain ⟨kk, ⟨k0, ⟨p, e1, q, e2, e3⟩, rfl⟩, rfl⟩ := e
  split at e3
  · rename_i hd
    cases e3
    obtain ⟨as, q1⟩ := Dp.reads I p x v (toPy_dp dx r1 e1) rx
    obtain ⟨bs, q2⟩ := Dp.reads I q y u (toPy_dp dy r2 e2) ry
    exact PySem.SeqAt.ne_plain q1 q2 (toPy_plain dx e1) (toPy_plain dy e2) (by have : min p.depth q.depth ≤ p.depth := Nat.min_le_left _ _; omega) ⟨.bl _, H, I, rfl, k F H _ Step.refl o rfl⟩
  · cases e3
theorem od_lt : OpR X (compareOp .Lt) (rD2 X.K (bD ltB)) := by
  refine OpR.toD (op_lt.or op_lt_str) fun F ρ L H dx dy d x y Q o r1 r2 e k => ?_
  cases dx <;> cases dy <;> simp only [bD, ltB, Option.map] at e <;> try cases e
  · cases r1; cases r2
    exact .inl ⟨_, _, rfl, rfl, k F H _ Step.refl o rfl⟩
  · cases r1; cases r2
    exact .inr ⟨_, _, rfl, rfl, k F H _ Step.refl o rfl⟩
theorem od_le : OpR X (compareOp .LtE) (rD2 X.K (bD leB)) := by
  refine OpR.toD (op_le.or op_le_str) fun F ρ L H dx dy d x y Q o r1 r2 e k => ?_
  cases dx <;> cases dy <;> simp only [bD, leB, Option.map] at e <;> try cases e
  · cases r1; cases r2
    exact .inl ⟨_, _, rfl, rfl, k F H _ Step.refl o rfl⟩
  · cases r1; cases r2
    exact .inr ⟨_, _, rfl, rfl, k F H _ Step.refl o rfl⟩
theorem od_gt : OpR X (compareOp .Gt) (rD2 X.K (bD gtB)) := by
  refine OpR.toD op_gt fun F ρ L H dx dy d x y Q o r1 r2 e k => ?_
  cases dx <;> cases dy <;> simp only [bD, gtB, Option.map] at e <;> try cases e
  cases r1; cases r2
  exact ⟨_, _, rfl, rfl, k F H _ Step.refl o rfl⟩
theorem od_ge : OpR X (compareOp .GtE) (rD2 X.K (bD geB)) := by
  refine OpR.toD op_ge fun F ρ L H dx dy d x y Q o r1 r2 e k => ?_
  cases dx <;> cases dy <;> simp only [bD, geB, Option.map] at e <;> try cases e
  cases r1; cases r2
  exact ⟨_, _, rfl, rfl, k F H _ Step.refl o rfl⟩
theorem rdr_non {K : Frag} {F : Addr → Prop} {H : Hp} {d : D} {x : V} (r : Rdr K F H d x) : decide (x = .non) = isNon d := by
  cases d with
  | non => cases r; rfl
  | bl _ => cases r; rfl
  | int _ => cases r; rfl
  | str _ => cases r; rfl
  | lst _ => obtain ⟨_, _, rfl, _⟩ := r; rfl
  | tup _ => obtain ⟨_, _, rfl, _⟩ := r; rfl
  | dic _ _ => obtain ⟨_, _, rfl, _⟩ := r; rfl
  | dit _ _ => obtain ⟨_, _, rfl, _⟩ := r; rfl
  | ins _ _ _ => obtain ⟨_, _, _, rfl, _⟩ := r; rfl
  | exc _ _ _ => obtain ⟨_, _, _, rfl, _⟩ := r; rfl
  | obj _ => cases r; rfl
  | ty _ => cases r; rfl
  | scr _ => obtain ⟨_, rfl, _⟩ := r; rfl
theorem od_isN : OpR X (compareOp .Is) (rD2 X.K (bD isNonB)) := by
  refine OpR.toD op_isN fun F ρ L H dx dy d x y Q o r1 r2 e k => ?_
  cases dy <;> simp only [bD, isNonB, Option.map] at e <;> try cases e
  cases r2
  refine ⟨rfl, ?_⟩
  rw [rdr_non r1]
  exact k F H _ Step.refl o rfl
theorem od_notN : OpR X (compareOp .IsNot) (rD2 X.K (bD notNonB)) := by
  refine OpR.toD op_notN fun F ρ L H dx dy d x y Q o r1 r2 e k => ?_
  cases dy <;> simp only [bD, notNonB, isNonB, Option.map] at e <;> try cases e
  cases r2
  refine ⟨rfl, ?_⟩
  rw [rdr_non r1]
  exact k F H _ Step.refl o rfl
theorem str_one {x : Str} {c : Nat} (e : x.cps.toList = [c]) : x = ⟨#[c]⟩ := by
  obtain ⟨⟨l⟩⟩ := x
  simp at e
  subst e
  rfl
theorem od_in (hu : X.A.units + 64 < cLine) : OpR X (compareOp .In) (rD2 X.K (bD inB)) := by
  intro pins s σ H x y v u Q I rx ry ⟨F, ρ, L, dx, dy, d, o, r1, r2, e9, k⟩
  have seq : ∀ {ys : List D} {p : PyData} {qs : List PyData}, toPy dx = some p → toPyL ys = some qs → p.depth ≤ 60 → (dy = .lst ys ∨ dy = .tup ys) → Q (.bl (qs.any fun y => PyData.eqv y p)) H →
      wpAny (model X.prog X.w) X.A (compareOp .In v u) (EP X pins σ Q) X.xe s := by
    intro ys p qs e1 e2 hd hy q
    obtain ⟨as, q1⟩ := Dp.reads I p x v (toPy_dp dx r1 e1) rx
    have hm : min (PyData.depthAll qs) p.depth ≤ p.depth := Nat.min_le_right _ _
    rcases hy with rfl | rfl
    · obtain ⟨bs, q2⟩ := Dp.reads I (.list qs) y u (toPy_dp (.lst ys) r2 (by simp only [toPy, e2, Option.map])) ry
      exact PySem.SeqAt.in_list_data q2 q1 (toPyL_plain ys e2) (toPy_plain dx e1) (by omega) ⟨.bl _, H, I, rfl, q⟩
    · obtain ⟨bs, q2⟩ := Dp.reads I (.tuple qs) y u (toPy_dp (.tup ys) r2 (by simp only [toPy, e2, Option.map])) ry
      exact PySem.SeqAt.in_tuple_data q2 q1 (toPyL_plain ys e2) (toPy_plain dx e1) (by omega) ⟨.bl _, H, I, rfl, q⟩
  obtain ⟨kk, e, rfl⟩ := Option.map_eq_some_iff.mp (show (inB dx dy).map D.bl = some d from e9)
  have kq := k F H (.bl kk) Step.refl o rfl
  cases dy with
  | str z =>
    cases dx with
    | str x' =>
      cases r1; cases r2
      have e : inSign x' z = some kk := e
      unfold inSign at e
      split at e
      · rename_i c hc
        cases e
        rw [str_one hc] at rx
        exact op_in_sign pins s σ H _ _ v u Q I rx ry ⟨c, z, rfl, rfl, kq⟩
      · cases e
    | _ => cases e
  | lst ys =>
    have e' : inSeq dx ys = some kk := e
    simp only [inSeq, Option.bind_eq_some_iff] at e'
    obtain ⟨p, e1, qs, e2, e3⟩ := e'
    split at e3
    · cases e3; exact seq e1 e2 (by assumption) (.inl rfl) kq
    · cases e3
  | tup ys =>
    have e' : inSeq dx ys = some kk := e
    simp only [inSeq, Option.bind_eq_some_iff] at e'
    obtain ⟨p, e1, qs, e2, e3⟩ := e'
    split at e3
    · cases e3; exact seq e1 e2 (by assumption) (.inr rfl) kq
    · cases e3
  | _ => cases e
theorem od_notIn (hu : X.A.units + 64 < cLine) : OpR X (compareOp .NotIn) (rD2 X.K (bD notInB)) := by
  intro pins s σ H x y v u Q I rx ry ⟨F, ρ, L, dx, dy, d, o, r1, r2, e9, k⟩
  have seq : ∀ {ys : List D} {p : PyData} {qs : List PyData}, toPy dx = some p → toPyL ys = some qs → p.depth ≤ 60 → (dy = .lst ys ∨ dy = .tup ys) → Q (.bl (!qs.any fun y => PyData.eqv y p)) H →
      wpAny (model X.prog X.w) X.A (compareOp .NotIn v u) (EP X pins σ Q) X.xe s := by
    intro ys p qs e1 e2 hd hy q
    obtain ⟨as, q1⟩ := Dp.reads I p x v (toPy_dp dx r1 e1) rx
    have hm : min (PyData.depthAll qs) p.depth ≤ p.depth := Nat.min_le_right _ _
    rcases hy with rfl | rfl
    · obtain ⟨bs, q2⟩ := Dp.reads I (.list qs) y u (toPy_dp (.lst ys) r2 (by simp only [toPy, e2, Option.map])) ry
      exact PySem.SeqAt.notIn_list_data q2 q1 (toPyL_plain ys e2) (toPy_plain dx e1) (by omega) ⟨.bl _, H, I, rfl, q⟩
    · obtain ⟨bs, q2⟩ := Dp.reads I (.tuple qs) y u (toPy_dp (.tup ys) r2 (by simp only [toPy, e2, Option.map])) ry
      exact PySem.SeqAt.notIn_tuple_data q2 q1 (toPyL_plain ys e2) (toPy_plain dx e1) (by omega) ⟨.bl _, H, I, rfl, q⟩
  obtain ⟨kk, e0, rfl⟩ := Option.map_eq_some_iff.mp (show (notInB dx dy).map D.bl = some d from e9)
  obtain ⟨k1, e, rfl⟩ := Option.map_eq_some_iff.mp (show (inB dx dy).map (!·) = some kk from e0)
  have kq := k F H (.bl (!k1)) Step.refl o rfl
  cases dy with
  | str z =>
    cases dx with
    | str x' =>
      cases r1; cases r2
      have e : inSign x' z = some k1 := e
      unfold inSign at e
      split at e
      · rename_i c hc
        cases e
        rw [str_one hc] at rx
        exact op_notIn_sign pins s σ H _ _ v u Q I rx ry ⟨c, z, rfl, rfl, kq⟩
      · cases e
    | _ => cases e
  | lst ys =>
    have e' : inSeq dx ys = some k1 := e
    simp only [inSeq, Option.bind_eq_some_iff] at e'
    obtain ⟨p, e1, qs, e2, e3⟩ := e'
    split at e3
    · cases e3; exact seq e1 e2 (by assumption) (.inl rfl) kq
    · cases e3
  | tup ys =>
    have e' : inSeq dx ys = some k1 := e
    simp only [inSeq, Option.bind_eq_some_iff] at e'
    obtain ⟨p, e1, qs, e2, e3⟩ := e'
    split at e3
    · cases e3; exact seq e1 e2 (by assumption) (.inr rfl) kq
    · cases e3
  | _ => cases e

/-! ### a comparison as a value, as a test; chains -/
def eCmp (gb : D → D → Option Bool) (fa fb : EF) : EF := eBin (bD gb) fa fb
def bop2 (gb : D → D → Option Bool) (x y : U) (L : LS) : Rs Bool := opt (rdU L x) fun dx => opt (rdU L y) fun dy => opt (gb dx dy) fun k => .ok k L
def bCmp (gb : D → D → Option Bool) (fa fb : EF) : TF := fun st L => (fa st L).bind fun x L1 => (fb st L1).bind fun y L2 => bop2 gb x y L2
theorem bop2_ok {gb : D → D → Option Bool} {K : Frag} {W : WX} {σ : L2.St} {F : Addr → Prop} {ρ : Nat → Addr} {H : Hp} {L : LS} {x y : U} {v w : V} {Q : Bool → Hp → Prop} (o : Ok K F ρ H L) (px : RepU K F ρ H L x v) (py : RepU K F ρ H L y w) (h : GE PB K W σ F ρ H L Q (bop2 gb x y L)) :
    rD2 K (bD gb) v w H (fun z H' => ∃ k, z = .bl k ∧ Q k H') := by
  obtain ⟨dx, e1, h⟩ := h.opt
  obtain ⟨dy, e2, h⟩ := h.opt
  obtain ⟨k, e3, h⟩ := h.opt
  exact ⟨F, ρ, L, dx, dy, .bl k, o, rdr_of o px e1, rdr_of o py e2, by simp [bD, e3], fun F' H' z s o' r => ⟨k, r, h F' ρ H' k s o' rfl⟩⟩
theorem ke_cmp {op : CmpOp} {gb : D → D → Option Bool} (ho : OpR X (compareOp op) (rD2 X.K (bD gb))) (ha : KE X W a fa) (hb : KE X W b fb) (hm : behindInMarks op b = false) : KE X W (.Compare a [op] [b] pos) (eCmp gb fa fb) := pe_wk (pe_cmpR ho ha hb hm) fun σ H Q h => two_ok h
theorem kb_cmp {op : CmpOp} {gb : D → D → Option Bool} (ho : OpR X (compareOp op) (rD2 X.K (bD gb))) (ha : KE X W a fa) (hb : KE X W b fb) (hm : behindInMarks op b = false) : KB X W (.Compare a [op] [b] pos) (bCmp gb fa fb) := by
  refine pt_wk (pt_cmpR ho ha hb hm) fun σ H Q ⟨F, ρ, L, st, o, r, h⟩ => ?_
  refine RG.one o r h fun x H1 F1 ρ1 L1 u s1 o1 r1 p1 h1 => ?_
  refine RG.one o1 r1 h1 fun y H2 F2 ρ2 L2 u2 s2 o2 r2 p2 h2 => ?_
  exact bop2_ok o2 (p1.mono s2) p2 h2
def eChain (gb gc : D → D → Option Bool) (fa fb fc : EF) : EF := fun st L => (fa st L).bind fun x L1 => (fb st L1).bind fun y L2 => (bop2 gb x y L2).bind fun k L3 => if k then (fc st L3).bind fun z L4 => op2 (bD gc) y z L4 else .ok (.d (.bl false)) L3
def bChain (gb gc : D → D → Option Bool) (fa fb fc : EF) : TF := fun st L => (fa st L).bind fun x L1 => (fb st L1).bind fun y L2 => (bop2 gb x y L2).bind fun k L3 => if k then (fc st L3).bind fun z L4 => bop2 gc y z L4 else .ok false L3
theorem bop2_bind {gb : D → D → Option Bool} {γ δ : Type} {P : PP γ δ} {K : Frag} {W : WX} {σ : L2.St} {F : Addr → Prop} {ρ : Nat → Addr} {H : Hp} {L : LS} {x y : U} {v w : V} {Q : δ → Hp → Prop} {g : Bool → LS → Rs γ} {Q' : VK} (o : Ok K F ρ H L) (px : RepU K F ρ H L x v) (py : RepU K F ρ H L y w)
    (h : GE P K W σ F ρ H L Q ((bop2 gb x y L).bind g)) (q : ∀ k F1 H1, Step F ρ H L F1 ρ H1 L → Ok K F1 ρ H1 L → GE P K W σ F1 ρ H1 L Q (g k L) → Q' (.bl k) H1) : rD2 K (bD gb) v w H Q' := by
  have h' : GE P K W σ F ρ H L Q (opt (rdU L x) fun dx => opt (rdU L y) fun dy => opt (gb dx dy) fun k => g k L) := by
    unfold bop2 at h
    cases e1 : rdU L x with
    | none => rw [e1] at h; exact h
    | some dx =>
      cases e2 : rdU L y with
      | none => rw [e1, e2] at h; exact h
      | some dy =>
        cases e3 : gb dx dy with
        | none => rw [e1, e2] at h; simp only [opt_some, e3] at h ⊢; exact h
        | some k => rw [e1, e2] at h; simp only [opt_some, e3] at h ⊢; exact h
  obtain ⟨dx, e1, h'⟩ := h'.opt
  obtain ⟨dy, e2, h'⟩ := h'.opt
  obtain ⟨k, e3, h'⟩ := h'.opt
  refine ⟨F, ρ, L, dx, dy, .bl k, o, rdr_of o px e1, rdr_of o py e2, by simp [bD, e3], fun F' H' z s o' r => ?_⟩
  cases r
  exact q k F' H' s o' (GE.on s h')
theorem ke_chain {op op' : CmpOp} {gb gc : D → D → Option Bool} (ho : OpR X (compareOp op) (rD2 X.K (bD gb))) (ho' : OpR X (compareOp op') (rD2 X.K (bD gc))) (ha : KE X W a fa) (hb : KE X W b fb) (hc : KE X W c fc)
    (hm : lastMarks [op, op'] [b, c] = false := by with_unfolding_all rfl) : KE X W (.Compare a [op, op'] [b, c] pos) (eChain gb gc fa fb fc) := by
  refine pe_wk (pe_chain ho ho' ha hb hc hm) fun σ H Q ⟨F, ρ, L, st, o, r, h⟩ => ?_
  refine RG.one o r h fun x H1 F1 ρ1 L1 u s1 o1 r1 p1 h1 => ?_
  refine RG.one o1 r1 h1 fun y H2 F2 ρ2 L2 u2 s2 o2 r2 p2 h2 => ?_
  refine bop2_bind o2 (p1.mono s2) p2 h2 fun k F3 H3 s3 o3 h3 => ⟨k, rfl, ?_⟩
  cases k with
  | false => exact iteF (h3.fin o3 rfl)
  | true =>
    refine iteT (RG.one o3 (r2.mono s3) h3 fun z H4 F4 ρ4 L4 u4 s4 o4 r4 p4 h4 => ?_)
    exact op2_ok o4 ((p2.mono s3).mono s4) p4 h4
theorem kb_chain {op op' : CmpOp} {gb gc : D → D → Option Bool} (ho : OpR X (compareOp op) (rD2 X.K (bD gb))) (ho' : OpR X (compareOp op') (rD2 X.K (bD gc))) (ha : KE X W a fa) (hb : KE X W b fb) (hc : KE X W c fc)
    (hm : lastMarks [op, op'] [b, c] = false := by with_unfolding_all rfl) : KB X W (.Compare a [op, op'] [b, c] pos) (bChain gb gc fa fb fc) := by
  refine pt_wk (pt_chain ho ho' ha hb hc hm) fun σ H Q ⟨F, ρ, L, st, o, r, h⟩ => ?_
  refine RG.one o r h fun x H1 F1 ρ1 L1 u s1 o1 r1 p1 h1 => ?_
  refine RG.one o1 r1 h1 fun y H2 F2 ρ2 L2 u2 s2 o2 r2 p2 h2 => ?_
  refine bop2_bind o2 (p1.mono s2) p2 h2 fun k F3 H3 s3 o3 h3 => ⟨k, rfl, ?_⟩
  cases k with
  | false => exact iteF ⟨false, rfl, h3.fin o3 rfl⟩
  | true =>
    refine iteT (RG.one o3 (r2.mono s3) h3 fun z H4 F4 ρ4 L4 u4 s4 o4 r4 p4 h4 => ?_)
    exact bop2_ok o4 ((p2.mono s3).mono s4) p4 h4

/-! ### truth -/
def truB : D → Option Bool
  | .non => some false
  | .bl b => some b
  | .int i => some (i != 0)
  | .str x => if x.length ≤ big then some ((x.length : Int) != 0) else none
  | .lst xs => some (!xs.isEmpty)
  | .tup xs => some (!xs.isEmpty)
  | .dic ks xs => some (!ks.isEmpty)
  | _ => none
theorem isEmpty_len {α β : Type} {xs : List α} {ys : List β} (h : ys.length = xs.length) : (!ys.isEmpty) = !xs.isEmpty := by
  cases xs <;> cases ys <;> simp_all
theorem truB_ok {K : Frag} {F : Addr → Prop} {H : Hp} {d : D} {x : V} {k : Bool} (r : Rdr K F H d x) (e : truB d = some k) : TruV K x H k := by
  cases d with
  | non => cases r; cases e; rfl
  | bl _ => cases r; cases e; rfl
  | int _ => cases r; cases e; rfl
  | str y =>
    cases r
    have e : (if y.length ≤ big then some ((y.length : Int) != 0) else none) = some k := e
    split at e
    · rename_i h; cases e; exact ⟨by rw [big_eq]; exact h, rfl⟩
    · cases e
  | lst xs => obtain ⟨a, vs, rfl, h, q⟩ := r; cases e; exact .inl ⟨vs, .inl (.inl h), (isEmpty_len q.length).symm⟩
  | tup xs => obtain ⟨a, vs, rfl, h, q⟩ := r; cases e; exact .inr (.inl ⟨vs, h, (isEmpty_len q.length).symm⟩)
  | dic ks xs => obtain ⟨a, kvs, rfl, h, hk, q⟩ := r; cases e; exact .inr (.inr ⟨kvs, h, by subst hk; cases kvs <;> rfl⟩)
  | _ => simp only [truB] at e; cases e
def trU (x : U) (L : LS) : Option Bool := (rdU L x).bind truB
theorem trU_ok {K : Frag} {F : Addr → Prop} {ρ : Nat → Addr} {H : Hp} {L : LS} {x : U} {v : V} {k : Bool} (o : Ok K F ρ H L) (p : RepU K F ρ H L x v) (e : trU x L = some k) : TruV K v H k := by
  obtain ⟨d, e1, e2⟩ := Option.bind_eq_some_iff.mp e
  exact truB_ok (rdr_of o p e1) e2
def bTru (fa : EF) : TF := fun st L => (fa st L).bind fun x L1 => opt (trU x L1) fun k => .ok k L1
theorem kb_tru (ha : KE X W a fa) (he : ∀ whole, isTrue a X.env whole = (do let v ← whole; standAt a.pos; holding [v] (truthy v)) := by intro _; rfl) : KB X W a (bTru fa) := by
  refine pt_wk (pt_truth ha he) fun σ H Q ⟨F, ρ, L, st, o, r, h⟩ => ?_
  refine RG.one o r h fun x H1 F1 ρ1 L1 u s1 o1 r1 p1 h1 => ?_
  obtain ⟨k, e, h1⟩ := h1.opt
  exact ⟨k, trU_ok o1 p1 e, h1.fin o1 rfl⟩

/-! ### and, or, not, if -/
variable {rest : List Expr} {ta tb tc : TF}
def eAnd (fa fb : EF) : EF := fun st L => (fa st L).bind fun x L1 => opt (trU x L1) fun k => if k then fb st L1 else .ok x L1
def eOr (fa fb : EF) : EF := fun st L => (fa st L).bind fun x L1 => opt (trU x L1) fun k => if k then .ok x L1 else fb st L1
def eNot (fa : EF) : EF := fun st L => (fa st L).bind fun x L1 => opt (trU x L1) fun k => .ok (.d (.bl (!k))) L1
theorem ke_one {op} (h : KE X W a fa) : KE X W (.BoolOp op [a] pos) fa := pe_one h
theorem ke_and (ha : KE X W a fa) (hb : KE X W (.BoolOp .And (b :: rest) pos) fb) : KE X W (.BoolOp .And (a :: b :: rest) pos) (eAnd fa fb) := by
  refine pe_wk (pe_andT ha hb) fun σ H Q ⟨F, ρ, L, st, o, r, h⟩ => ?_
  refine RG.one o r h fun x H1 F1 ρ1 L1 u s1 o1 r1 p1 h1 => ?_
  obtain ⟨k, e, h1⟩ := h1.opt
  refine ⟨k, trU_ok o1 p1 e, ?_⟩
  cases k with
  | true => exact iteT (RG.of o1 r1 h1)
  | false => exact iteF (h1.fin o1 p1)
theorem ke_or (ha : KE X W a fa) (hb : KE X W (.BoolOp .Or (b :: rest) pos) fb) : KE X W (.BoolOp .Or (a :: b :: rest) pos) (eOr fa fb) := by
  refine pe_wk (pe_orT ha hb) fun σ H Q ⟨F, ρ, L, st, o, r, h⟩ => ?_
  refine RG.one o r h fun x H1 F1 ρ1 L1 u s1 o1 r1 p1 h1 => ?_
  obtain ⟨k, e, h1⟩ := h1.opt
  refine ⟨k, trU_ok o1 p1 e, ?_⟩
  cases k with
  | true => exact iteT (h1.fin o1 p1)
  | false => exact iteF (RG.of o1 r1 h1)
theorem ke_not (ha : KE X W a fa) : KE X W (.UnaryOp .Not a pos) (eNot fa) := by
  refine pe_wk (pe_notT ha) fun σ H Q ⟨F, ρ, L, st, o, r, h⟩ => ?_
  refine RG.one o r h fun x H1 F1 ρ1 L1 u s1 o1 r1 p1 h1 => ?_
  obtain ⟨k, e, h1⟩ := h1.opt
  exact ⟨k, trU_ok o1 p1 e, h1 F1 ρ1 H1 (V.bl (!k)) Step.refl o1 (show Rep X.K F1 H1 (.bl (!k)) (.bl (!k)) from rfl)⟩
def bAnd (ta tb : TF) : TF := fun st L => (ta st L).bind fun k L1 => if k then tb st L1 else .ok false L1
def bOr (ta tb : TF) : TF := fun st L => (ta st L).bind fun k L1 => if k then .ok true L1 else tb st L1
def bNot (ta : TF) : TF := fun st L => (ta st L).bind fun k L1 => .ok (!k) L1
theorem kw_and1 (ha : KB X W a ta) : KW X W (.BoolOp .And [a] pos) ta := pw_and1 ha
theorem kw_or1 (ha : KB X W a ta) : KW X W (.BoolOp .Or [a] pos) ta := pw_or1 ha
theorem kw_and (ha : KB X W a ta) (hb : KW X W (.BoolOp .And (b :: rest) pos) tb) : KW X W (.BoolOp .And (a :: b :: rest) pos) (bAnd ta tb) := by
  refine pw_wk (pw_and ha hb) fun σ H Q ⟨F, ρ, L, st, o, r, h⟩ => ?_
  refine RG.one (P := PB) o r h fun x H1 F1 ρ1 L1 u s1 o1 r1 p1 h1 => ?_
  obtain rfl : u = x := p1
  cases u with
  | true => exact iteT (RG.of o1 r1 h1)
  | false => exact iteF (h1.fin o1 rfl)
theorem kw_or (ha : KB X W a ta) (hb : KW X W (.BoolOp .Or (b :: rest) pos) tb) : KW X W (.BoolOp .Or (a :: b :: rest) pos) (bOr ta tb) := by
  refine pw_wk (pw_or ha hb) fun σ H Q ⟨F, ρ, L, st, o, r, h⟩ => ?_
  refine RG.one (P := PB) o r h fun x H1 F1 ρ1 L1 u s1 o1 r1 p1 h1 => ?_
  obtain rfl : u = x := p1
  cases u with
  | true => exact iteT (h1.fin o1 rfl)
  | false => exact iteF (RG.of o1 r1 h1)
theorem kb_w (h : KW X W a ta) : KB X W a ta := PW.pt h
theorem kb_not (ha : KB X W a ta) : KB X W (.UnaryOp .Not a pos) (bNot ta) := by
  refine pt_wk (pt_not ha) fun σ H Q ⟨F, ρ, L, st, o, r, h⟩ => ?_
  refine RG.one (P := PB) o r h fun x H1 F1 ρ1 L1 u s1 o1 r1 p1 h1 => ?_
  obtain rfl : u = x := p1
  exact h1.fin o1 rfl
def eIf (t : TF) (fa fb : EF) : EF := fun st L => (t st L).bind fun k L1 => if k then fa st L1 else fb st L1
theorem ke_if (hc : KB X W c tc) (ha : KE X W a fa) (hb : KE X W b fb) : KE X W (.IfExp c a b pos) (eIf tc fa fb) := by
  refine pe_wk (pe_ifExp hc ha hb) fun σ H Q ⟨F, ρ, L, st, o, r, h⟩ => ?_
  refine RG.one (P := PB) o r h fun x H1 F1 ρ1 L1 u s1 o1 r1 p1 h1 => ?_
  obtain rfl : u = x := p1
  cases u with
  | true => exact iteT (RG.of o1 r1 h1)
  | false => exact iteF (RG.of o1 r1 h1)
end
end VL

set_option Elab.async false
set_option linter.all false
set_option maxRecDepth 100000
set_option maxHeartbeats 4000000
namespace VL
open PySem PySem.Spec PyProof.Rows L2
open PySem.W (Frag)

/-! ### lists of what is read, of what comes to rest -/
def RdrL (K : Frag) (F : Addr → Prop) (H : Hp) : List D → List V → Prop
  | [], vs => vs = []
  | d :: ds, vs => ∃ v r, vs = v :: r ∧ Rdr K F H d v ∧ RdrL K F H ds r
def rdUs (L : LS) : List U → Option (List D)
  | [] => some []
  | u :: us => (rdU L u).bind fun d => (rdUs L us).map (d :: ·)
def fzUs (L : LS) : List U → Option (List D × LS)
  | [] => some ([], L)
  | u :: us => (fzU L u).bind fun p => (fzUs p.2 us).map fun q => (p.1 :: q.1, q.2)
section
variable {K : Frag} {F : Addr → Prop} {ρ : Nat → Addr} {H : Hp} {L : LS}
theorem rdrs_of (o : Ok K F ρ H L) : ∀ {us : List U} {vs : List V} {ds : List D}, RepUs K F ρ H L us vs → rdUs L us = some ds → RdrL K F H ds vs
  | [], _, _, h, e => by cases h; cases e; rfl
  | u :: us, _, _, ⟨v, r, e1, h, t⟩, e => by
    subst e1
    simp only [rdUs, Option.bind_eq_some_iff, Option.map_eq_some_iff] at e
    obtain ⟨d, e2, ds, e3, rfl⟩ := e
    exact ⟨v, r, rfl, rdr_of o h e2, rdrs_of o t e3⟩
theorem fzUs_ok : ∀ {us : List U} {vs : List V} {ds : List D} {F : Addr → Prop} {L L' : LS}, Ok K F ρ H L → RepUs K F ρ H L us vs → fzUs L us = some (ds, L') → ∃ F', Step F ρ H L F' ρ H L' ∧ Ok K F' ρ H L' ∧ RepL K F' H ds vs
  | [], _, _, F, L, L', o, h, e => by cases h; cases e; exact ⟨F, Step.refl, o, rfl⟩
  | u :: us, _, _, F, L, L', o, ⟨v, r, e1, h, t⟩, e => by
    subst e1
    simp only [fzUs, Option.bind_eq_some_iff, Option.map_eq_some_iff] at e
    obtain ⟨⟨d, L1⟩, e2, ⟨ds, L2⟩, e3, e4⟩ := e
    obtain ⟨rfl, rfl⟩ := Prod.mk.inj e4
    obtain ⟨F1, s1, o1, r1⟩ := fzU_ok o h e2
    obtain ⟨F2, s2, o2, r2⟩ := fzUs_ok (us := us) o1 (t.mono s1) e3
    exact ⟨F2, s1.trans s2, o2, v, r, rfl, Rep.mono s2.fz d r1, r2⟩
/-- a new object that still changes -/
def ρ1 (ρ : Nat → Addr) (L : LS) (p : Addr) : Nat → Addr := fun n => if n = L.length then p else ρ n
theorem live_ok (o : Ok K F ρ H L) {p : Addr} (hp : H p = none) {u : HO} {lo : LO} (on : lo.on = true) (h : LAt K F (upd H p u) p lo) : Step F ρ H L F (ρ1 ρ L p) (upd H p u) (L ++ [lo]) ∧ Ok K F (ρ1 ρ L p) (upd H p u) (L ++ [lo]) := by
  have k : ∀ a, F a → F a ∧ upd H p u a = H a := fun a f => ⟨f, upd_ne fun z => o.stands a f (z ▸ hp)⟩
  have old : ∀ n, n < L.length → ρ1 ρ L p n = ρ n := fun n h => if_neg (Nat.ne_of_lt h)
  have new : ρ1 ρ L p L.length = p := if_pos rfl
  have gt : ∀ {m lo'}, (L ++ [lo])[m]? = some lo' → (m < L.length ∧ L[m]? = some lo') ∨ (m = L.length ∧ lo' = lo) := fun {m lo'} e => by
    by_cases hm : m < L.length
    · rw [List.getElem?_append_left hm] at e; exact .inl ⟨hm, e⟩
    · have hm' : m = L.length := by
        have := (List.getElem?_eq_some_iff.mp e).1
        simp at this; omega
      subst hm'
      rw [List.getElem?_append_right (Nat.le_refl _)] at e
      simp at e
      exact .inr ⟨rfl, e.symm⟩
  have npl : ∀ {m lo'}, L[m]? = some lo' → lo'.on = true → ρ m ≠ p := fun {m lo'} e t z => by
    have h := o.at_ m lo' e
    cases lo' with
    | l xs => obtain ⟨_, vs, h1, _⟩ := h; rw [z, hp] at h1; cases h1
    | d ks xs => obtain ⟨_, vs, h1, _⟩ := h; rw [z, hp] at h1; cases h1
    | t ks xs => obtain ⟨_, vs, h1, _⟩ := h; rw [z, hp] at h1; cases h1
    | i C ns xs => obtain ⟨_, dx, fs, h1, _⟩ := h; rw [z, hp] at h1; cases h1
    | z d => cases t
  refine ⟨⟨k, by simp, fun n h => old n h, fun a w e _ => by rw [upd_ne (ne_of_none e hp)]; exact e, fun n l h e _ => ?_, fun n l h e t => ?_, fun a h => ?_, fun a f => .inl f⟩, ⟨fun m lo' e => ?_, fun m n lo1 lo2 e1 e2 t1 t2 q => ?_, fun a f => by rw [(k a f).2]; exact o.stands a f⟩⟩
  · rcases gt e with ⟨hm, _⟩ | ⟨hm, _⟩
    · omega
    · rw [hm, new]; exact hp
  · rw [List.getElem?_append_left h] at e; exact ⟨l, e, t⟩
  · by_cases z : a = p
    · subst z; rw [upd_same] at h; cases h
    · rw [upd_ne z] at h; exact h
  · rcases gt e with ⟨hm, e⟩ | ⟨rfl, rfl⟩
    · rw [old m hm]
      have h' := o.at_ m lo' e
      cases lo' with
      | l xs => have ne := npl e rfl; obtain ⟨f, vs, h1, h2⟩ := h'; exact ⟨f, vs, by rw [upd_ne ne]; exact h1, RepL.mono k xs h2⟩
      | d ks xs => have ne := npl e rfl; obtain ⟨f, vs, h1, h2, h3⟩ := h'; exact ⟨f, vs, by rw [upd_ne ne]; exact h1, h2, RepL.mono k xs h3⟩
      | t ks xs => have ne := npl e rfl; obtain ⟨f, vs, h1, h2, h3⟩ := h'; exact ⟨f, vs, by rw [upd_ne ne]; exact h1, h2, RepL.mono k xs h3⟩
      | i C ns xs => have ne := npl e rfl; obtain ⟨f, dx, fs, h1, oc, h2, h3⟩ := h'; exact ⟨f, dx, fs, by rw [upd_ne ne]; exact h1, oc, h2, RepL.mono k xs h3⟩
      | z d => exact Rep.mono k d h'
    · rw [new]; exact h
  · rcases gt e1 with ⟨h1, f1⟩ | ⟨h1, g1⟩ <;> rcases gt e2 with ⟨h2, f2⟩ | ⟨h2, g2⟩
    · rw [old m h1, old n h2] at q; exact o.inj m n _ _ f1 f2 t1 t2 q
    · rw [old m h1, h2, new] at q; exact absurd q (npl f1 t1)
    · rw [old n h2, h1, new] at q; exact absurd q.symm (npl f2 t2)
    · rw [h1, h2]
theorem nF (o : Ok K F ρ H L) {p : Addr} (hp : H p = none) : ¬ F p := fun f => o.stands p f hp
end

section
variable {X : Cx} {W : WX} {a b c e : Expr} {fa fb fc : EF} {pos : Pos} {es : List Expr} {f : AF}
/-! ### arguments, displays -/
def aNil : AF := fun _ L => .ok [] L
def aCons (fa : EF) (f : AF) : AF := fun st L => (fa st L).bind fun u L1 => (f st L1).bind fun us L2 => .ok (u :: us) L2
theorem ka_nil : KA X W [] aNil := pa_wk pa_nil fun σ H Q ⟨F, ρ, L, st, o, r, h⟩ => h.fin (b := []) o rfl
theorem ka_cons (ha : KE X W e fa) (hr : KA X W es f) (hs : starEach (e :: es) X.env = (false, eval e X.env) :: starEach es X.env := by rfl) : KA X W (e :: es) (aCons fa f) := by
  refine pa_wk (pa_cons ha hr hs) fun σ H Q ⟨F, ρ, L, st, o, r, h⟩ => ?_
  refine RG.one o r h fun x H1 F1 ρ1 L1 u s1 o1 r1 p1 h1 => ?_
  refine RG.one o1 r1 h1 fun y H2 F2 ρ2 L2 u2 s2 o2 r2 p2 h2 => ?_
  exact h2.fin o2 ⟨x, y, rfl, p1.mono s2, p2⟩
def eLst (f : AF) : EF := fun st L => (f st L).bind fun us L1 => opt (fzUs L1 us) fun p => if p.1.length ≤ big then .ok (.d (.lst p.1)) p.2 else .no
def eTup (f : AF) : EF := fun st L => (f st L).bind fun us L1 => opt (fzUs L1 us) fun p => if p.1.length ≤ big then .ok (.d (.tup p.1)) p.2 else .no
/-- a list that still changes -/
def eLstL (f : AF) : EF := fun st L => (f st L).bind fun us L1 => opt (fzUs L1 us) fun p => if p.1.length ≤ big then .ok (.l p.2.length) (p.2 ++ [.l p.1]) else .no
theorem ge_if {α β : Type} {P : PP α β} {K : Frag} {W : WX} {σ : L2.St} {F : Addr → Prop} {ρ : Nat → Addr} {H : Hp} {L : LS} {Q : β → Hp → Prop} {c : Prop} [Decidable c] {x : Rs α} (h : GE P K W σ F ρ H L Q (if c then x else .no)) : c ∧ GE P K W σ F ρ H L Q x := by
  by_cases hc : c
  · rw [if_pos hc] at h; exact ⟨hc, h⟩
  · rw [if_neg hc] at h; exact h.elim
theorem ke_lst (h : KA X W es f) : KE X W (.List es pos) (eLst f) := by
  refine pe_wk (pe_lst h) fun σ H Q ⟨F, ρ, L, st, o, r, h⟩ => ?_
  refine RG.one o r h fun x H1 F1 ρ1 L1 u s1 o1 r1 p1 h1 => ?_
  obtain ⟨⟨ds, L2⟩, e1, h1⟩ := h1.opt
  obtain ⟨hz, h1⟩ := ge_if h1
  obtain ⟨F2, s2, o2, q2⟩ := fzUs_ok o1 p1 e1
  refine ⟨by rw [big_eq, q2.length]; exact hz, fun p hp => ?_⟩
  obtain ⟨s3, o3⟩ := new_ok o2 hp (.lst x)
  exact h1 _ _ _ _ (s2.trans s3) o3 (new_lst o2 hp q2)
theorem ke_tup {x1} (h : KA X W es f) : KE X W (.Tuple es x1 pos) (eTup f) := by
  refine pe_wk (pe_tup h) fun σ H Q ⟨F, ρ, L, st, o, r, h⟩ => ?_
  refine RG.one o r h fun x H1 F1 ρ1 L1 u s1 o1 r1 p1 h1 => ?_
  obtain ⟨⟨ds, L2⟩, e1, h1⟩ := h1.opt
  obtain ⟨hz, h1⟩ := ge_if h1
  obtain ⟨F2, s2, o2, q2⟩ := fzUs_ok o1 p1 e1
  refine ⟨by rw [big_eq, q2.length]; exact hz, fun p hp => ?_⟩
  obtain ⟨s3, o3⟩ := new_ok o2 hp (.tup x)
  exact h1 _ _ _ _ (s2.trans s3) o3 (new_tup o2 hp q2)
theorem ke_lstL (h : KA X W es f) : KE X W (.List es pos) (eLstL f) := by
  refine pe_wk (pe_lst h) fun σ H Q ⟨F, ρ, L, st, o, r, h⟩ => ?_
  refine RG.one o r h fun x H1 F1 ρ1 L1 u s1 o1 r1 p1 h1 => ?_
  obtain ⟨⟨ds, L2⟩, e1, h1⟩ := h1.opt
  obtain ⟨hz, h1⟩ := ge_if h1
  obtain ⟨F2, s2, o2, q2⟩ := fzUs_ok o1 p1 e1
  refine ⟨by rw [big_eq, q2.length]; exact hz, fun p hp => ?_⟩
  have k : ∀ a, F2 a → F2 a ∧ upd H1 p (.lst x) a = H1 a := fun a f => ⟨f, upd_ne fun z => o2.stands a f (z ▸ hp)⟩
  obtain ⟨s3, o3⟩ := live_ok o2 hp (u := .lst x) (lo := .l ds) rfl ⟨nF o2 hp, x, upd_same, RepL.mono k ds q2⟩
  refine h1 _ _ _ _ (s2.trans s3) o3 ⟨by simp, ?_⟩
  show V.ref p = V.ref (if L2.length = L2.length then p else _)
  rw [if_pos rfl]

/-! ### built-ins by name -/
def rDn (K : Frag) (g : List D → Option D) : List V → Hp → VK → Prop := fun xs H Q => ∃ F ρ L ds d, Ok K F ρ H L ∧ RdrL K F H ds xs ∧ g ds = some d ∧
  ∀ F' H' z, Step F ρ H L F' ρ H' L → Ok K F' ρ H' L → Rep K F' H' d z → Q z H'
def opn (g : List D → Option D) (us : List U) (L : LS) : Rs U := opt (rdUs L us) fun ds => opt (g ds) fun d => .ok (.d d) L
def eFn (g : List D → Option D) (f : AF) : EF := fun st L => (f st L).bind fun us L1 => opn g us L1
theorem opn_ok {g : List D → Option D} {K : Frag} {W : WX} {σ : L2.St} {F : Addr → Prop} {ρ : Nat → Addr} {H : Hp} {L : LS} {us : List U} {vs : List V} {Q : VK} (o : Ok K F ρ H L) (px : RepUs K F ρ H L us vs) (h : GE RepU K W σ F ρ H L Q (opn g us L)) : rDn K g vs H Q := by
  obtain ⟨ds, e1, h⟩ := h.opt
  obtain ⟨d, e3, h⟩ := h.opt
  exact ⟨F, ρ, L, ds, d, o, rdrs_of o px e1, e3, fun F' H' z s o' r => h F' ρ H' z s o' r⟩
theorem CallR.toD {f : Value} {r : List V → Hp → VK → Prop} {g : List D → Option D} (h : CallR X f r)
    (q : ∀ F ρ L H ds d xs Q, Ok X.K F ρ H L → RdrL X.K F H ds xs → g ds = some d → (∀ F' H' z, Step F ρ H L F' ρ H' L → Ok X.K F' ρ H' L → Rep X.K F' H' d z → Q z H') → r xs H Q) : CallR X f (rDn X.K g) := by
  intro pins s σ H xs us Q I rs ⟨F, ρ, L, ds, d, o, r1, e, k⟩
  exact h pins s σ H xs us Q I rs (q F ρ L H ds d xs Q o r1 e k)
theorem ke_callB {x : Str} {id : String} {p : Pos} {g : List D → Option D} (hc : CallR X (.builtin id) (rDn X.K g)) (hm : X.mg x = none) (hv : bootBuiltins x = some (.builtin id)) (ha : KA X W (e :: es) f) (hg : Gl X x := by rfl) (hn : x ≠ "__name__" := by decide) (hdb : (x == ("__debug__" : Str)) = false := by decide)
    (he : starEach (e :: es) X.env = (false, eval e X.env) :: starEach es X.env := by rfl) (hpl : (backTo pos (starEach es X.env)).any (·.1) = false := by rfl) : KE X W (.Call (.Name x p) (e :: es) [] pos) (eFn g f) := by
  refine pe_wk (pe_callB hc hg hm hv ha hn hdb he hpl) fun σ H Q ⟨F, ρ, L, st, o, r, h⟩ => ?_
  refine RG.one o r h fun x H1 F1 ρ1 L1 u s1 o1 r1 p1 h1 => ?_
  exact opn_ok o1 p1 h1
theorem ke_callT {x : Str} {T : String} {p : Pos} {g : List D → Option D} (hc : CallR X (.type T) (rDn X.K g)) (hm : X.mg x = none) (hv : bootBuiltins x = some (.type T)) (ha : KA X W (e :: es) f) (hg : Gl X x := by rfl) (hn : x ≠ "__name__" := by decide) (hdb : (x == ("__debug__" : Str)) = false := by decide)
    (he : starEach (e :: es) X.env = (false, eval e X.env) :: starEach es X.env := by rfl) (hpl : (backTo pos (starEach es X.env)).any (·.1) = false := by rfl) : KE X W (.Call (.Name x p) (e :: es) [] pos) (eFn g f) := by
  refine pe_wk (pe_callTy hc hg hm hv ha hn hdb he hpl) fun σ H Q ⟨F, ρ, L, st, o, r, h⟩ => ?_
  refine RG.one o r h fun x H1 F1 ρ1 L1 u s1 o1 r1 p1 h1 => ?_
  exact opn_ok o1 p1 h1
end

/-! ### len, abs, int, str, list, tuple, all, any, isinstance -/
def lenD : List D → Option D
  | [.str x] => if x.length ≤ big then some (.int x.length) else none
  | [.lst xs] => some (.int xs.length)
  | [.tup xs] => some (.int xs.length)
  | [.dic ks _] => some (.int ks.length)
  | _ => none
def absD : List D → Option D
  | [.int i] => some (.int (if i < 0 then -i else i))
  | _ => none
def intD : List D → Option D
  | [.int i] => some (.int i)
  | [.bl b] => some (.int (if b then 1 else 0))
  | [.str x] => if x.length ≤ 640 then (PySem.intText? x).map .int else none
  | _ => none
def strD : List D → Option D
  | [.int i] => if i.natAbs.log2 < 1920 then some (.str (toString i)) else none
  | [.str x] => some (.str x)
  | _ => none
def listD : List D → Option D
  | [.lst xs] => some (.lst xs)
  | [.tup xs] => some (.lst xs)
  | [.scr ns] => some (.lst (ns.map .int))
  | _ => none
def tupleD : List D → Option D
  | [.lst xs] => some (.tup xs)
  | [.tup xs] => some (.tup xs)
  | _ => none
def blsD : List D → Option (List Bool)
  | [] => some []
  | .bl b :: ds => (blsD ds).map (b :: ·)
  | _ => none
def intsD : List D → Option (List Int)
  | [] => some []
  | .int b :: ds => (intsD ds).map (b :: ·)
  | _ => none
def strsD : List D → Option (List Str)
  | [] => some []
  | .str b :: ds => (strsD ds).map (b :: ·)
  | _ => none
def allD : List D → Option D
  | [.lst xs] => (blsD xs).map fun bs => .bl (bs.all id)
  | _ => none
def anyD : List D → Option D
  | [.lst xs] => (blsD xs).map fun bs => .bl (bs.any id)
  | _ => none
def sumD : List D → Option D
  | [.lst xs] => (intsD xs).map fun bs => .int bs.sum
  | _ => none
/-- the type of a value -/
def tyD : D → Option Value
  | .non => some (.type "NoneType")
  | .bl _ => some (.type "bool")
  | .int _ => some (.type "int")
  | .str _ => some (.type "str")
  | .lst _ => some (.type "list")
  | .tup _ => some (.type "tuple")
  | .dic _ _ => some (.type "dict")
  | .dit _ _ => some (.type "dict")
  | .ins C _ _ => some (.ref C)
  | .exc C _ _ => some (.ref C)
  | _ => none
def clsD : D → Option Value
  | .ty n => some (.type n)
  | .obj C => some (.ref C)
  | _ => none
def isiD (K : Frag) : List D → Option D
  | [x, c] => (tyD x).bind fun t => (clsD c).bind fun u => (PySem.W.kitOne K t u).map .bl
  | _ => none

section
variable {X : Cx} {K : Frag} {F : Addr → Prop} {H : Hp}
theorem RepL.bls : ∀ {ds : List D} {vs : List V} {bs : List Bool}, RepL K F H ds vs → blsD ds = some bs → vs = bs.map V.bl
  | [], _, _, h, e => by cases h; cases e; rfl
  | d :: ds, _, _, ⟨v, r, e1, h, t⟩, e => by
    subst e1
    cases d <;> simp only [blsD] at e <;> try cases e
    obtain ⟨bs, e2, rfl⟩ := Option.map_eq_some_iff.mp e
    cases h
    rw [RepL.bls t e2]
    rfl
theorem RepL.ints : ∀ {ds : List D} {vs : List V} {bs : List Int}, RepL K F H ds vs → intsD ds = some bs → vs = bs.map V.int
  | [], _, _, h, e => by cases h; cases e; rfl
  | d :: ds, _, _, ⟨v, r, e1, h, t⟩, e => by
    subst e1
    cases d <;> simp only [intsD] at e <;> try cases e
    obtain ⟨bs, e2, rfl⟩ := Option.map_eq_some_iff.mp e
    cases h
    rw [RepL.ints t e2]
    rfl
theorem RepL.strs : ∀ {ds : List D} {vs : List V} {bs : List Str}, RepL K F H ds vs → strsD ds = some bs → vs = bs.map V.str
  | [], _, _, h, e => by cases h; cases e; rfl
  | d :: ds, _, _, ⟨v, r, e1, h, t⟩, e => by
    subst e1
    cases d <;> simp only [strsD] at e <;> try cases e
    obtain ⟨bs, e2, rfl⟩ := Option.map_eq_some_iff.mp e
    cases h
    rw [RepL.strs t e2]
    rfl
theorem RepL.of_ints : ∀ (ns : List Int), RepL K F H (ns.map D.int) (ns.map V.int)
  | [] => rfl
  | n :: ns => ⟨_, _, rfl, rfl, RepL.of_ints ns⟩
theorem one_of {d : D} {xs : List V} (h : RdrL K F H [d] xs) : ∃ v, xs = [v] ∧ Rdr K F H d v := by
  obtain ⟨v, r, rfl, h, e⟩ := h
  cases e
  exact ⟨v, rfl, h⟩
theorem two_of {d e : D} {xs : List V} (h : RdrL K F H [d, e] xs) : ∃ v w, xs = [v, w] ∧ Rdr K F H d v ∧ Rdr K F H e w := by
  obtain ⟨v, r, rfl, h, w, t, rfl, h2, e⟩ := h
  cases e
  exact ⟨v, w, rfl, h, h2⟩
theorem cd_len : CallR X (.builtin "len") (rDn X.K lenD) := by
  refine CallR.toD (call_len.or call_lenD) fun F ρ L H ds d xs Q o r e k => ?_
  unfold lenD at e
  split at e <;> try cases e
  · rename_i x
    obtain ⟨v, rfl, h⟩ := one_of r
    cases h
    split at e
    · rename_i hz; cases e; exact .inl ⟨_, _, rfl, ⟨by rw [big_eq]; exact hz, rfl⟩, k F H _ Step.refl o rfl⟩
    · cases e
  · obtain ⟨v, rfl, a, vs, rfl, h, q⟩ := one_of r
    exact .inl ⟨_, _, rfl, .inl ⟨vs, .inl (.inl h), rfl⟩, by rw [q.length]; exact k F H _ Step.refl o rfl⟩
  · obtain ⟨v, rfl, a, vs, rfl, h, q⟩ := one_of r
    exact .inl ⟨_, _, rfl, .inr ⟨vs, h, rfl⟩, by rw [q.length]; exact k F H _ Step.refl o rfl⟩
  · obtain ⟨v, rfl, a, kvs, rfl, h, hk, q⟩ := one_of r
    subst hk
    refine .inr ⟨a, kvs, rfl, h, ?_⟩
    have z := k F H (.int ((kvs.map (fun x : Key × V => x.1)).length : Nat)) Step.refl o rfl
    rw [List.length_map] at z
    exact z
theorem cd_abs : CallR X (.builtin "abs") (rDn X.K absD) := by
  refine CallR.toD call_abs fun F ρ L H ds d xs Q o r e k => ?_
  unfold absD at e
  split at e <;> try cases e
  obtain ⟨v, rfl, h⟩ := one_of r
  cases h
  exact ⟨_, rfl, k F H _ Step.refl o rfl⟩
theorem cd_int : CallR X (.type "int") (rDn X.K intD) := by
  refine CallR.toD (call_int1.or call_int_str) fun F ρ L H ds d xs Q o r e k => ?_
  unfold intD at e
  split at e <;> try cases e
  · obtain ⟨v, rfl, h⟩ := one_of r
    cases h
    exact .inl (.inl ⟨_, rfl, k F H _ Step.refl o rfl⟩)
  · obtain ⟨v, rfl, h⟩ := one_of r
    cases h
    exact .inl (.inr ⟨_, rfl, k F H _ Step.refl o rfl⟩)
  · obtain ⟨v, rfl, h⟩ := one_of r
    cases h
    split at e
    · rename_i hz
      obtain ⟨n, e2, rfl⟩ := Option.map_eq_some_iff.mp e
      exact .inr ⟨_, _, rfl, e2, hz, k F H _ Step.refl o rfl⟩
    · cases e
theorem cd_str : CallR X (.type "str") (rDn X.K strD) := by
  refine CallR.toD (call_str_int.or SkE.call_str_str) fun F ρ L H ds d xs Q o r e k => ?_
  unfold strD at e
  split at e <;> try cases e
  · obtain ⟨v, rfl, h⟩ := one_of r
    cases h
    split at e
    · rename_i hz; cases e; exact .inl ⟨_, rfl, hz, k F H _ Step.refl o rfl⟩
    · cases e
  · obtain ⟨v, rfl, h⟩ := one_of r
    cases h
    exact .inr ⟨_, rfl, k F H _ Step.refl o rfl⟩
theorem cd_list : CallR X (.type "list") (rDn X.K listD) := by
  refine CallR.toD call_list_of fun F ρ L H ds d xs Q o r e k => ?_
  unfold listD at e
  split at e <;> try cases e
  · obtain ⟨v, rfl, a, vs, rfl, h, q⟩ := one_of r
    refine ⟨a, vs, rfl, .inl (.inl (.inl h)), fun l hl => ?_⟩
    obtain ⟨s, o'⟩ := new_ok o hl (.lst vs)
    exact k _ _ _ s o' (new_lst o hl q)
  · obtain ⟨v, rfl, a, vs, rfl, h, q⟩ := one_of r
    refine ⟨a, vs, rfl, .inr h, fun l hl => ?_⟩
    obtain ⟨s, o'⟩ := new_ok o hl (.lst vs)
    exact k _ _ _ s o' (new_lst o hl q)
  · rename_i ns
    obtain ⟨v, rfl, a, rfl, h⟩ := one_of r
    refine ⟨a, ns.map V.int, rfl, .inl h.sq, fun l hl => ?_⟩
    obtain ⟨s, o'⟩ := new_ok o hl (.lst (ns.map V.int))
    exact k _ _ _ s o' (new_lst o hl (RepL.of_ints ns))
theorem cd_all (hc : X.calm = true) : CallR X (.builtin "all") (rDn X.K allD) := by
  refine CallR.toD (cr_all hc) fun F ρ L H ds d xs Q o r e k => ?_
  unfold allD at e
  split at e <;> try cases e
  obtain ⟨v, rfl, a, vs, rfl, h, q⟩ := one_of r
  obtain ⟨bs, e2, rfl⟩ := Option.map_eq_some_iff.mp e
  have z := q.bls e2
  subst z
  exact ⟨a, bs, rfl, .inl (.inl h), k F H _ Step.refl o rfl⟩
theorem cd_any (hc : X.calm = true) : CallR X (.builtin "any") (rDn X.K anyD) := by
  refine CallR.toD (cr_any hc) fun F ρ L H ds d xs Q o r e k => ?_
  unfold anyD at e
  split at e <;> try cases e
  obtain ⟨v, rfl, a, vs, rfl, h, q⟩ := one_of r
  obtain ⟨bs, e2, rfl⟩ := Option.map_eq_some_iff.mp e
  have z := q.bls e2
  subst z
  exact ⟨a, bs, rfl, .inl (.inl h), k F H _ Step.refl o rfl⟩
theorem cd_sum (hc : X.calm = true) : CallR X (.builtin "sum") (rDn X.K sumD) := by
  refine CallR.toD (cr_sum hc) fun F ρ L H ds d xs Q o r e k => ?_
  unfold sumD at e
  split at e <;> try cases e
  obtain ⟨v, rfl, a, vs, rfl, h, q⟩ := one_of r
  obtain ⟨bs, e2, rfl⟩ := Option.map_eq_some_iff.mp e
  have z := q.ints e2
  subst z
  exact ⟨a, bs, rfl, .inl (.inl h), k F H _ Step.refl o rfl⟩
end
end VL

set_option Elab.async false
set_option linter.all false
set_option maxRecDepth 100000
set_option maxHeartbeats 4000000
namespace VL
open PySem PySem.Spec PyProof.Rows L2
open PySem.W (Frag)

/-! ### isinstance -/
section
variable {X : Cx} {pins : List (Addr × Obj)} {σ : L2.St} {H : Hp} {s : Shared} {F : Addr → Prop}
theorem exc_inst {a C d : Addr} {fs : List (Str × V)} (I : Inv X pins σ H s) (h1 : H a = some (.ext (ExcO a C d))) (h2 : H d = some (.xd fs)) :
    ∃ (oe od : Obj) (mA : Str → Option Value), PySem.W.InstAt s.heap a oe C (some od) ∧ (∀ f, RelO (fs.lookup f) (mA f)) ∧ ∀ name, PySem.W.lookIn name od = some (mA name) := by
  obtain ⟨⟨oe, vs, g1, g2, g3, g4⟩, _⟩ := I.hok a _ h1
  have hx : ObjOk X.prog X.w H s.heap d (.xd fs) := I.hok d _ h2
  obtain ⟨mA, hns, hr⟩ := hx
  obtain ⟨od, ho, hl⟩ := lookIn_ns hns
  exact ⟨oe, od, mA, ⟨g1, g2, by unfold PySem.W.notCls; rw [g4] <;> rfl, by rw [g3]; exact ho⟩, hr, hl⟩
theorem kit_D {d : D} {x : V} {u t : Value} (I : Inv X pins σ H s) (rx : RelV x u) (r : Rdr X.K F H d x) (e : tyD d = some t) : ∃ P : Heap → Prop, PySem.W.KitX X.K u t P ∧ P s.heap ∧ u ≠ .builtin "__main__.__loader__#opaque" := by
  cases d with
  | non => cases r; cases e; exact kit_of I rx (.base .non)
  | bl b => cases r; cases e; exact kit_of I rx (.base (.bl b))
  | int b => cases r; cases e; exact kit_of I rx (.base (.int b))
  | str b => cases r; cases e; exact kit_of I rx (.base (.str b))
  | lst xs => obtain ⟨a, vs, rfl, h, _⟩ := r; cases e; exact kit_of I rx (.base (.lst h))
  | tup xs =>
    obtain ⟨a, vs, rfl, h, _⟩ := r; cases e
    rcases h with (h | ⟨o, h⟩) | ⟨o, its, n, hk, hc, _⟩
    · exact kit_of I rx (.base (.tup h))
    · exact kit_of I rx (.fTuple h)
    · exact kit_of I rx (.kTuple hk hc)
  | dic ks xs => obtain ⟨a, vs, rfl, h, _⟩ := r; cases e; exact kit_of I rx (.base (.dK h))
  | dit ks xs => obtain ⟨a, vs, rfl, h, _⟩ := r; cases e; exact kit_of I rx (.base (.dT h))
  | ins C ns xs => obtain ⟨a, dx, fs, rfl, h, oc, _⟩ := r; cases e; exact kit_of I rx (.base (.ins h oc.cl oc.ha oc.hn oc.ht oc.hm))
  | exc C ns xs =>
    obtain ⟨a, dd, fs, rfl, _, _, h, h2, oc, _⟩ := r; cases e
    cases (show u = Value.ref a from rx)
    obtain ⟨oe, od, mA, J, _⟩ := exc_inst I h h2
    obtain ⟨cd, hc, _⟩ := PySem.W.any_some oc.hd
    exact ⟨_, PySem.W.kitx_exc (by rw [hc]; rfl) oc.hg oc.hk oc.hs oc.ha oc.hn oc.ht oc.hm, J, fun z => nomatch z⟩
  | obj a => cases e
  | ty n => cases e
  | scr ns => cases e
theorem cls_D {d : D} {x : V} {w t : Value} (rx : RelV x w) (r : Rdr X.K F H d x) (e : clsD d = some t) : w = t := by
  cases d <;> simp only [clsD] at e <;> cases e
  · cases r; exact rx
  · cases r; exact rx
theorem cd_isi : CallR X (.builtin "isinstance") (rDn X.K (isiD X.K)) := by
  intro pins s σ H xs us Q I rs ⟨F, ρ, L, ds, d, o, r, e, k⟩
  unfold isiD at e
  split at e
  · rename_i x c
    obtain ⟨v, w, rfl, h1, h2⟩ := two_of r
    simp only [Option.bind_eq_some_iff, Option.map_eq_some_iff] at e
    obtain ⟨t, e1, u, e2, b, e3, rfl⟩ := e
    obtain ⟨u1, u2, rfl, r1, r2⟩ := vals2 rs
    have e4 := cls_D (X := X) r2 h2 e2
    subst e4
    obtain ⟨P, Z, p, hx⟩ := kit_D I r1 h1 e1
    exact PySem.W.kia_one Z I.kIn p e3 hx fun tk => ⟨.bl b, H, I.tok tk, rfl, k F H _ Step.refl o rfl⟩
  · cases e
end

/-! ### subscripts -/
def ixD : D → D → Option D
  | .lst xs, .int i => atI xs i
  | .tup xs, .int i => atI xs i
  | .str z, .int i => if z.length ≤ big then (atI z.cps.toList i).map fun c => .str ⟨#[c]⟩ else none
  | _, _ => none
theorem RepL.atI {K : Frag} {F : Addr → Prop} {H : Hp} {ds : List D} {vs : List V} (h : RepL K F H ds vs) {i : Int} {d : D} (e : atI ds i = some d) : ∃ v, L2.atI vs i = some v ∧ Rep K F H d v := by
  unfold L2.atI at e ⊢
  rw [h.length]
  obtain ⟨j, e1, e2⟩ := Option.bind_eq_some_iff.mp e
  obtain ⟨v, e3, r⟩ := h.get e2
  exact ⟨v, by rw [e1]; exact e3, r⟩
section
variable {X : Cx} {W : WX} {a b c e : Expr} {fa fb fc : EF} {pos : Pos}
theorem xd_seq : IxR X (rD2 X.K ixD) := by
  intro value slice pins s σ H x y v u Q I rx ry ⟨F, ρ, L, dx, dy, d, o, r1, r2, e, k⟩ hs
  refine ix_seq value slice pins s σ H x y v u Q I rx ry ?_ hs
  cases dx <;> cases dy <;> simp only [ixD] at e <;> try cases e
  · cases r1; cases r2
    split at e
    · rename_i hz
      obtain ⟨cc, e1, rfl⟩ := Option.map_eq_some_iff.mp e
      exact .inr (.inr ⟨_, _, cc, rfl, rfl, by rw [big_eq]; exact hz, e1, k F H _ Step.refl o rfl⟩)
    · cases e
  · obtain ⟨p, vs, rfl, h1, q1⟩ := r1
    cases r2
    obtain ⟨w, e2, rw'⟩ := q1.atI e
    exact .inl ⟨p, vs, _, w, rfl, rfl, .inl (.inl h1), e2, k F H _ Step.refl o rw'⟩
  · obtain ⟨p, vs, rfl, h1, q1⟩ := r1
    cases r2
    obtain ⟨w, e2, rw'⟩ := q1.atI e
    exact .inr (.inl ⟨p, vs, _, w, rfl, rfl, h1, e2, k F H _ Step.refl o rw'⟩)
theorem ke_ix {g : D → D → Option D} (hr : IxR X (rD2 X.K g)) (ha : KE X W a fa) (hb : KE X W b fb) (hs : PlainIx b := by exact fun _ _ => rfl) : KE X W (.Subscript a b pos) (eBin g fa fb) := pe_wk (pe_ix hr ha hb hs) fun σ H Q h => two_ok h

/-! ### slices -/
def cutG {α : Type} (xs : List α) (lo hi : Option Int) : List α := (xs.drop (HT.sIx xs.length 0 lo)).take (HT.sIx xs.length xs.length hi - HT.sIx xs.length 0 lo)
def sliceD : D → Option Int → Option Int → Option D
  | .str z, lo, hi => if z.length ≤ big then some (.str (cutS z lo hi)) else none
  | .lst xs, lo, hi => some (.lst (cutG xs lo hi))
  | .scr ns, lo, hi => some (.lst ((cutG ns lo hi).map .int))
  | _, _, _ => none
theorem RepL.cut {K : Frag} {F : Addr → Prop} {H : Hp} {ds : List D} {vs : List V} (h : RepL K F H ds vs) (lo hi : Option Int) : RepL K F H (cutG ds lo hi) (cutV vs lo hi) := by
  unfold cutG cutV
  rw [h.length]
  exact (h.drop _).take _
theorem cut_map {α β : Type} (f : α → β) (xs : List α) (lo hi : Option Int) : cutG (xs.map f) lo hi = (cutG xs lo hi).map f := by
  unfold cutG
  rw [List.length_map, List.map_take, List.map_drop]
abbrev OF := SS → LS → Rs (Option Int)
def PI' : PP (Option Int) (Option Int) := fun _ _ _ _ _ a b => a = b
abbrev KO (X : Cx) (W : WX) (e : Option Expr) (f : OF) : Prop := PO X e (RG PI' X.K W f)
def oNone : OF := fun _ L => .ok none L
def oSome (fa : EF) : OF := fun st L => (fa st L).bind fun x L1 => match x with
  | .d (.int i) => .ok (some i) L1
  | _ => .no
theorem po_wk {e : Option Expr} {t t' : TO} (h : PO X e t) (i : ∀ σ H Q, t' σ H Q → t σ H Q) : PO X e t' := ⟨fun pins s σ H Q I q => h.run pins s σ H Q I (i σ H Q q)⟩
theorem ko_none : KO X W none oNone := po_wk po_none fun σ H Q ⟨F, ρ, L, st, o, r, h⟩ => h.fin (b := none) o rfl
theorem ko_some (ha : KE X W a fa) : KO X W (some a) (oSome fa) := by
  refine po_wk (po_some ha) fun σ H Q ⟨F, ρ, L, st, o, r, h⟩ => ?_
  refine RG.one o r h fun x H1 F1 ρ1 L1 u s1 o1 r1 p1 h1 => ?_
  split at h1
  · exact ⟨_, p1, h1.fin o1 rfl⟩
  · exact h1.elim
def eSl (fa : EF) (fl fh : OF) : EF := fun st L => (fa st L).bind fun x L1 => (fl st L1).bind fun lo L2 => (fh st L2).bind fun hi L3 => opt (rdU L3 x) fun d => opt (sliceD d lo hi) fun r => .ok (.d r) L3
theorem ke_slice {lo hi : Option Expr} {fl fh : OF} {p2 : Pos} (ha : KE X W a fa) (hl : KO X W lo fl) (hh : KO X W hi fh) : KE X W (.Subscript a (.Slice lo hi none p2) pos) (eSl fa fl fh) := by
  refine pe_wk (pe_slice (sl_str.or sl_list) ha hl hh) fun σ H Q ⟨F, ρ, L, st, o, r, h⟩ => ?_
  refine RG.one o r h fun x H1 F1 ρ1 L1 u s1 o1 r1 p1 h1 => ?_
  refine RG.one (P := PI') o1 r1 h1 fun y H2 F2 ρ2 L2 u2 s2 o2 r2 p2 h2 => ?_
  refine RG.one (P := PI') o2 r2 h2 fun z H3 F3 ρ3 L3 u3 s3 o3 r3 p3 h3 => ?_
  obtain rfl : u2 = y := p2
  obtain rfl : u3 = z := p3
  obtain ⟨d, e1, h3⟩ := h3.opt
  obtain ⟨rr, e2, h3⟩ := h3.opt
  have rd := rdr_of o3 ((p1.mono s2).mono s3) e1
  cases d with
  | str zz =>
    cases rd
    have e2 : (if zz.length ≤ big then some (D.str (cutS zz u2 u3)) else none) = some rr := e2
    split at e2
    · rename_i hz; cases e2; exact .inl ⟨_, rfl, by rw [big_eq]; exact hz, h3.finD o3 rfl⟩
    · cases e2
  | lst xs =>
    cases e2
    obtain ⟨p, vs, rfl, g1, q1⟩ := rd
    refine .inr ⟨p, vs, rfl, .inl (.inl g1), fun t ht => ?_⟩
    obtain ⟨s4, o4⟩ := new_ok o3 ht (.lst (cutV vs u2 u3))
    exact h3 _ _ _ _ s4 o4 (new_lst o3 ht (q1.cut u2 u3))
  | scr ns =>
    cases e2
    obtain ⟨p, rfl, g1⟩ := rd
    refine .inr ⟨p, ns.map V.int, rfl, g1.sq, fun t ht => ?_⟩
    obtain ⟨s4, o4⟩ := new_ok o3 ht (.lst (cutV (ns.map V.int) u2 u3))
    refine h3 _ _ _ _ s4 o4 (new_lst o3 ht ?_)
    have z := (RepL.of_ints (K := X.K) (F := F3) (H := H3) ns).cut u2 u3
    rw [cut_map] at z
    exact z
  | _ => cases e2

/-! ### fields -/
def lookF (ns : List Str) (xs : List D) (f : Str) : Option D := (ns.zip xs).lookup f
def fldD (K : Frag) (f : Str) : D → Option D
  | .ins C ns xs => (match PySem.W.findIn K (.ref C) f with
    | some none => lookF ns xs f
    | _ => none)
  | .exc C ns xs => (match PySem.W.findIn K (.ref C) f with
    | some none => lookF ns xs f
    | _ => none)
  | _ => none
theorem lookF_ok {K : Frag} {F : Addr → Prop} {H : Hp} {f : Str} : ∀ {fs : List (Str × V)} {xs : List D} {d : D}, RepL K F H xs (fs.map (·.2)) → lookF (fs.map (·.1)) xs f = some d → ∃ v, fs.lookup f = some v ∧ Rep K F H d v
  | [], xs, d, _, e => by simp [lookF] at e
  | (n, v) :: fs, [], d, _, e => by simp [lookF] at e
  | (n, v) :: fs, x :: xs, d, ⟨v', r, e1, h, t⟩, e => by
    simp only [List.map_cons] at e1
    obtain ⟨rfl, rfl⟩ := List.cons.inj e1
    simp only [lookF, List.map_cons, List.zip_cons_cons, List.lookup_cons] at e ⊢
    split at e
    · cases e; exact ⟨v, rfl, h⟩
    · exact lookF_ok t e
theorem ke_fld {f : Str} (ha : KE X W a fa) (hb : attributeBase a f X.env (eval a X.env) = eval a X.env := by rfl) : KE X W (.Attribute a f pos) (eUn (fldD X.K f) fa) := by
  refine ⟨fun pins s σ H Q I ⟨F, ρ, L, st, o, r, h⟩ => ?_⟩
  refine attr_of hb (thn (PE.run ha pins s σ H _ I (RG.one (Q' := Nx RepU RepU X.K W σ F ρ H L Q fun x L1 => op1 (fldD X.K f) x L1) o r h fun x H1 F1 ρ1 L1 u s1 o1 r1 p1 h1 => ⟨F1, ρ1, L1, u, s1, o1, p1, h1⟩)) fun u s1 ⟨x, H1, I1, rx, F1, ρ1, L1, uu, st1, o1, p1, h1⟩ => ?_)
  obtain ⟨d, e1, h1⟩ := h1.opt
  obtain ⟨rr, e2, h9⟩ := h1.opt
  have rd := rdr_of o1 p1 e1
  cases d <;> simp only [fldD] at e2 <;> try cases e2
  · rename_i C ns xs
    obtain ⟨p, dx, fs, rfl, g1, oc, rfl, q⟩ := rd
    split at e2
    · rename_i hn
      obtain ⟨v, l, rv⟩ := lookF_ok q e2
      obtain rfl : u = Value.ref p := rx
      exact getattr_ok I1 g1 oc.cl hn l fun u' s2 I2 ru => ⟨v, H1, I2, ru, h9.finD o1 rv⟩
    · cases e2
  · rename_i C ns xs
    obtain ⟨p, dd, fs, rfl, f1, f2, g1, g2, oc, rfl, q⟩ := rd
    split at e2
    · rename_i hn
      obtain ⟨v, l, rv⟩ := lookF_ok q e2
      obtain rfl : u = Value.ref p := rx
      obtain ⟨oe, od, mA, J, hr, hl⟩ := exc_inst I1 g1 g2
      obtain ⟨w, hw, rw'⟩ := RelO.some_of (v := v) (o := mA f) (by rw [← l]; exact hr f)
      exact HandSPX.exc_get I1.kIn J oc.hg oc.hk oc.hs (PySem.W.findObj_own oc.hd hn rfl (by rw [hl, hw])) (handed_of rw') ⟨v, H1, I1.tok _, rw', h9.finD o1 rv⟩
    · cases e2

/-! ### sep.join(list of texts) -/
def joinD : D → D → Option D
  | .str a, .lst xs => (strsD xs).bind fun ys => if (ys.map (·.length)).sum + ys.length * a.length ≤ 16777216 then some (.str (Txt.join a ys)) else none
  | _, _ => none
def eJoin (fa fb : EF) : EF := fun st L => (fa st L).bind fun x L1 => match x with
  | .d (.str z) => (fb st L1).bind fun y L2 => op2 joinD x y L2
  | _ => .no
theorem ke_join {apos : Pos} (ha : KE X W a fa) (hb : KE X W b fb) (hs : starEach [b] X.env = [(false, eval b X.env)] := by rfl) (hbase : attributeBase a "join" X.env (eval a X.env) = eval a X.env := by rfl) (hline : (apos.endLine == pos.line) = true := by rfl) :
    KE X W (.Call (.Attribute a "join" apos) [b] [] pos) (eJoin fa fb) := by
  refine pe_wk (pe_join ha hb hs hbase hline) fun σ H Q ⟨F, ρ, L, st, o, r, h⟩ => ?_
  refine RG.one o r h fun x H1 F1 ρ1 L1 u s1 o1 r1 p1 h1 => ?_
  split at h1
  · rename_i z
    obtain rfl : x = .str z := p1
    refine ⟨⟨z, rfl⟩, RG.one o1 r1 h1 fun y H2 F2 ρ2 L2 u2 s2 o2 r2 p2 h2 => ?_⟩
    obtain ⟨dx, e1, h2⟩ := h2.opt
    cases e1
    obtain ⟨dy, e2, h2⟩ := h2.opt
    obtain ⟨d, e3, h2⟩ := h2.opt
    have rd := rdr_of o2 p2 e2
    cases dy <;> simp only [joinD] at e3 <;> try cases e3
    obtain ⟨ys, e4, e5⟩ := Option.bind_eq_some_iff.mp e3
    obtain ⟨p, vs, rfl, g1, q1⟩ := rd
    split at e5
    · rename_i hz
      cases e5
      have z2 := q1.strs e4
      subst z2
      exact ⟨z, p, ys, rfl, rfl, .inl (.inl (.inl g1)), hz, h2.finD o2 rfl⟩
    · cases e5
  · exact h1.elim
end
end VL

set_option Elab.async false
set_option linter.all false
set_option maxRecDepth 100000
set_option maxHeartbeats 4000000
namespace VL
open PySem PySem.Spec PyProof.Rows L2
open PySem.W (Frag)

/-- how a statement ends -/
inductive Rt where
  | nx (st : SS) (L : LS) | rt (u : U) (L : LS) | bk (st : SS) (L : LS) | ct (st : SS) (L : LS)
  | ex (C : Addr) (ns : List Str) (xs : List D) (st : SS) (L : LS) | no
abbrev SF := SS → LS → Rt
@[simp] def Rt.andThen : Rt → SF → Rt
  | .nx st L, g => g st L
  | r, _ => r
@[simp] def ofR {α : Type} : Rs α → SS → (α → LS → Rt) → Rt
  | .ok a L, _, k => k a L
  | .ex C ns xs L, st, _ => .ex C ns xs st L
  | .no, _, _ => .no
@[simp] def optS {α : Type} : Option α → (α → Rt) → Rt
  | some a, k => k a
  | none, _ => .no

def GS (K : Frag) (W : WX) (E : Ends) (F : Addr → Prop) (ρ : Nat → Addr) (H : Hp) (L : LS) : Rt → Prop
  | .nx st' L' => ∀ F' ρ' H' σ', Step F ρ H L F' ρ' H' L' → Ok K F' ρ' H' L' → RepSt K F' ρ' H' L' σ' st' → E.nx σ' H'
  | .bk st' L' => ∀ F' ρ' H' σ', Step F ρ H L F' ρ' H' L' → Ok K F' ρ' H' L' → RepSt K F' ρ' H' L' σ' st' → E.bk σ' H'
  | .ct st' L' => ∀ F' ρ' H' σ', Step F ρ H L F' ρ' H' L' → Ok K F' ρ' H' L' → RepSt K F' ρ' H' L' σ' st' → E.ct σ' H'
  | .rt u L' => ∀ F' ρ' H' v, Step F ρ H L F' ρ' H' L' → Ok K F' ρ' H' L' → RepU K F' ρ' H' L' u v → E.rt v H'
  | .ex C ns xs st' L' => ∀ F' ρ' H' σ' d, Step F ρ H L F' ρ' H' L' → Ok K F' ρ' H' L' → RepSt K F' ρ' H' L' σ' st' → Thrown K F' H' ns xs d → W (.ref C) d σ' H'
  | .no => False
def RS (K : Frag) (W : WX) (f : SF) : TS := fun E σ H => ∃ F ρ L st, Ok K F ρ H L ∧ RepSt K F ρ H L σ st ∧ GS K W E F ρ H L (f st L)
abbrev KS (X : Cx) (W : WX) (s : Stmt) (f : SF) : Prop := PS X s (RS X.K W f)
abbrev KSs (X : Cx) (W : WX) (s : List Stmt) (f : SF) : Prop := PSs X s (RS X.K W f)

section
variable {K : Frag} {W : WX} {E : Ends} {σ : L2.St} {F F' : Addr → Prop} {ρ ρ' : Nat → Addr} {H H' : Hp} {L L' : LS}
theorem GS.on {x : Rt} (s : Step F ρ H L F' ρ' H' L') (h : GS K W E F ρ H L x) : GS K W E F' ρ' H' L' x := by
  cases x with
  | nx st L2 => exact fun F2 ρ2 H2 b s2 => h F2 ρ2 H2 b (s.trans s2)
  | bk st L2 => exact fun F2 ρ2 H2 b s2 => h F2 ρ2 H2 b (s.trans s2)
  | ct st L2 => exact fun F2 ρ2 H2 b s2 => h F2 ρ2 H2 b (s.trans s2)
  | rt u L2 => exact fun F2 ρ2 H2 b s2 => h F2 ρ2 H2 b (s.trans s2)
  | ex C ns xs st L2 => exact fun F2 ρ2 H2 σ2 d s2 => h F2 ρ2 H2 σ2 d (s.trans s2)
  | no => exact h
theorem GS.nxt {st : SS} (h : GS K W E F ρ H L (.nx st L)) (o : Ok K F ρ H L) (r : RepSt K F ρ H L σ st) : E.nx σ H := h F ρ H σ Step.refl o r
/-- an expression read within a statement -/
theorem RS.one {α β : Type} {P : PP α β} {f : SS → LS → Rs α} {st : SS} {Q' : β → Hp → Prop} {g : α → LS → Rt} (o : Ok K F ρ H L) (r : RepSt K F ρ H L σ st) (h : GS K W E F ρ H L (ofR (f st L) st g))
    (q : ∀ b H1 F1 ρ1 L1 a, Step F ρ H L F1 ρ1 H1 L1 → Ok K F1 ρ1 H1 L1 → RepSt K F1 ρ1 H1 L1 σ st → P K F1 ρ1 H1 L1 a b → GS K W E F1 ρ1 H1 L1 (g a L1) → Q' b H1) : RG P K W f σ H Q' := by
  refine ⟨F, ρ, L, st, o, r, ?_⟩
  cases e : f st L with
  | ok a L1 =>
    rw [e] at h
    exact fun F1 ρ1 H1 b s1 o1 p1 => q b H1 F1 ρ1 L1 a s1 o1 (r.mono s1) p1 (GS.on s1 h)
  | ex C ns xs L1 =>
    rw [e] at h
    exact fun F1 ρ1 H1 d s1 o1 t => h F1 ρ1 H1 σ d s1 o1 (r.mono s1) t
  | no => rw [e] at h; exact h
theorem GS.optS {α : Type} {x : Option α} {f : α → Rt} (h : GS K W E F ρ H L (optS x f)) : ∃ a, x = some a ∧ GS K W E F ρ H L (f a) := by
  cases x with
  | some a => exact ⟨a, rfl, h⟩
  | none => exact h.elim
end

section
variable {X : Cx} {W : WX} {a b c e o : Expr} {fa fb fc fe : EF} {tc : TF} {pos : Pos} {st : Stmt} {rest : List Stmt} {f g : SF}
/-! ### blocks -/
def sNil : SF := fun st L => .nx st L
def sSeq (f g : SF) : SF := fun st L => (f st L).andThen g
theorem kss_nil : KSs X W [] sNil := pss_wk pss_nil fun D σ H ⟨F, ρ, L, st, o, r, h⟩ => h.nxt o r
theorem kss_cons (h1 : KS X W st f) (h2 : KSs X W rest g) : KSs X W (st :: rest) (sSeq f g) := by
  refine pss_wk (pss_cons h1 h2) fun D σ H ⟨F, ρ, L, st, o, r, h⟩ => ⟨F, ρ, L, st, o, r, ?_⟩
  unfold sSeq at h
  cases e : f st L with
  | nx st2 L2 =>
    rw [e] at h
    exact fun F2 ρ2 H2 σ2 s2 o2 r2 => ⟨F2, ρ2, L2, st2, o2, r2, GS.on s2 h⟩
  | bk st2 L2 => rw [e] at h; exact h
  | ct st2 L2 => rw [e] at h; exact h
  | rt u L2 => rw [e] at h; exact h
  | ex C ns xs st2 L2 => rw [e] at h; exact h
  | no => rw [e] at h; exact h
theorem kss_one (h1 : KS X W st f) : KSs X W [st] f := pss_one h1
theorem ks_pass : KS X W (.Pass pos) sNil := ps_wk ps_pass fun D σ H ⟨F, ρ, L, st, o, r, h⟩ => h.nxt o r
theorem ks_break : KS X W (.Break pos) (fun st L => .bk st L) := ps_wk ps_break fun D σ H ⟨F, ρ, L, st, o, r, h⟩ => h F ρ H σ Step.refl o r
theorem ks_continue : KS X W (.Continue pos) (fun st L => .ct st L) := ps_wk ps_continue fun D σ H ⟨F, ρ, L, st, o, r, h⟩ => h F ρ H σ Step.refl o r
theorem ks_never : KS X W st (fun _ _ => .no) := ps_wk ps_never fun D σ H ⟨F, ρ, L, st, o, r, h⟩ => h
def sDrop (fe : EF) : SF := fun st L => ofR (fe st L) st fun _ L1 => .nx st L1
theorem ks_expr (he : KE X W e fe) (hs : swapsWith e none pos.line X.env = pure false := by rfl) : KS X W (.Expr e pos) (sDrop fe) := by
  refine ps_wk (ps_expr he hs) fun D σ H ⟨F, ρ, L, st, o, r, h⟩ => ?_
  refine RS.one o r h fun x H1 F1 ρ1 L1 u s1 o1 r1 p1 h1 => ?_
  exact h1.nxt o1 r1
def sRet (fe : EF) : SF := fun st L => ofR (fe st L) st fun u L1 => .rt u L1
theorem ks_ret (he : KE X W e fe) : KS X W (.Return (some e) pos) (sRet fe) := by
  refine ps_wk (ps_ret he) fun D σ H ⟨F, ρ, L, st, o, r, h⟩ => ?_
  refine RS.one o r h fun x H1 F1 ρ1 L1 u s1 o1 r1 p1 h1 => ?_
  exact h1 F1 ρ1 H1 x Step.refl o1 p1
theorem ks_retN : KS X W (.Return none pos) (fun _ L => .rt (.d .non) L) := ps_wk ps_retN fun D σ H ⟨F, ρ, L, st, o, r, h⟩ => h F ρ H .non Step.refl o rfl
def sIf (t : TF) (f g : SF) : SF := fun st L => ofR (t st L) st fun k L1 => if k then f st L1 else g st L1
theorem ks_if {sa sb : List Stmt} (hc : KB X W c tc) (ha : KSs X W sa f) (hb : KSs X W sb g) : KS X W (.If c sa sb pos) (sIf tc f g) := by
  refine ps_wk (ps_if hc ha hb) fun D σ H ⟨F, ρ, L, st, o, r, h⟩ => ?_
  refine RS.one (P := PB) o r h fun x H1 F1 ρ1 L1 u s1 o1 r1 p1 h1 => ?_
  obtain rfl : u = x := p1
  cases u with
  | true => exact iteT ⟨F1, ρ1, L1, st, o1, r1, h1⟩
  | false => exact iteF ⟨F1, ρ1, L1, st, o1, r1, h1⟩
/-! ### x = e -/
def sSet (i : Nat) (fe : EF) : SF := fun st L => ofR (fe st L) st fun u L1 => .nx (st.set i (some u)) L1
theorem ks_set (i : Nat) {x : Str} {pos' : Pos} (hN : X.N.Nodup) (he : KE X W e fe) (hi : X.N[i]? = some x := by rfl) (hx : Loc X.env.scope x := by first | exact Or.inl rfl | exact Or.inr rfl) (hs : swapsWith e (some (.Name x pos')) pos.line X.env = pure false := by rfl)
    (hf : X.fn x = true ∨ X.env.scope.names.lookup x = some .local := by first | exact .inl rfl | exact .inr rfl | assumption) : KS X W (.Assign [.Name x pos'] e pos) (sSet i fe) := by
  refine ps_wk (ps_set hN hi hx he hs hf) fun D σ H ⟨F, ρ, L, st, o, r, h⟩ => ?_
  refine RS.one o r h fun x H1 F1 ρ1 L1 u s1 o1 r1 p1 h1 => ?_
  exact h1.nxt o1 (r1.set i p1)
/-- a, b = x, y -/
def sPar (i j : Nat) (fa : AF) : SF := fun st L => ofR (fa st L) st fun us L1 => match us with
  | [u, v] => .nx ((st.set i (some u)).set j (some v)) L1
  | _ => .no
theorem ks_par (i j : Nat) {x y : Str} {fa : AF} {px py pt : Pos} {kt k2 pt2} (hN : X.N.Nodup) (ha : KA X W [a, b] fa)
    (hc : X.calm = true := by rfl) (hi : X.N[i]? = some x := by rfl) (hj : X.N[j]? = some y := by rfl) (hij : i ≠ j := by decide)
    (hx : X.env.scope.names.lookup x = some .local := by rfl) (hy : X.env.scope.names.lookup y = some .local := by rfl)
    (hw : swappedStores [.Tuple [.Name x px, .Name y py] kt pt] (.Tuple [a, b] k2 pt2) X.env = pure (some [x, y]) := by rfl)
    (hs : swapsWithSole [.Tuple [.Name x px, .Name y py] kt pt] (.Tuple [a, b] k2 pt2) pos.line X.env = pure false := by rfl) :
    KS X W (.Assign [.Tuple [.Name x px, .Name y py] kt pt] (.Tuple [a, b] k2 pt2) pos) (sPar i j fa) := by
  refine ps_wk (ps_par hc hN hi hj hij hx hy ha hw hs) fun D σ H ⟨F, ρ, L, st, o, r, h⟩ => ?_
  refine RS.one (P := RepUs) o r h fun vs H1 F1 ρ1 L1 us s1 o1 r1 p1 h1 => ?_
  split at h1
  · rename_i u v
    obtain ⟨v1, t1, rfl, q1, v2, t2, rfl, q2, e⟩ := p1
    cases e
    exact ⟨v1, v2, rfl, h1.nxt o1 ((r1.set i q1).set j q2)⟩
  · exact h1.elim

/-! ### targets -/
theorem wipe_set (σ : L2.St) (i : Nat) : ∀ vs : List Nat, (wipe σ vs).set i none = wipe (σ.set i none) vs
  | [] => rfl
  | v :: vs => by
    show ((wipe σ vs).set v none).set i none = (wipe (σ.set i none) vs).set v none
    rw [← wipe_set σ i vs]
    by_cases h : v = i
    · subst h; rfl
    · rw [List.set_comm _ _ h]
theorem wipe_app (σ : L2.St) : ∀ a b : List Nat, wipe σ (a ++ b) = wipe (wipe σ b) a
  | [], _ => rfl
  | v :: a, b => by
    show (wipe σ (a ++ b)).set v none = (wipe (wipe σ b) a).set v none
    rw [wipe_app σ a b]
theorem wipe_comm (σ : L2.St) (b : List Nat) : ∀ a : List Nat, wipe (wipe σ b) a = wipe (wipe σ a) b
  | [] => rfl
  | v :: a => by
    show (wipe (wipe σ b) a).set v none = wipe ((wipe σ a).set v none) b
    rw [wipe_comm σ b a, wipe_set]
abbrev TgF := D → SS → Option SS
def RT (K : Frag) (is : List Nat) (tf : TgF) : TG := fun v σ H Q => ∃ F ρ L st d st', Ok K F ρ H L ∧ RepSt K F ρ H L σ st ∧ Rep K F H d v ∧ tf d st = some st' ∧ ∀ σ', RepSt K F ρ H L σ' st' → wipe σ' is = wipe σ is → Q σ' H
/-- is: the slots that are stored to -/
abbrev KG (X : Cx) (tg : Expr) (is : List Nat) (tf : TgF) : Prop := PG X tg (RT X.K is tf)
theorem pg_wk {tg : Expr} {t t' : TG} (h : PG X tg t) (i : ∀ v σ H Q, t' v σ H Q → t v σ H Q) : PG X tg t' := ⟨fun pins s σ H v u Q I r q => h.run pins s σ H v u Q I r (i v σ H Q q)⟩
def tfName (i : Nat) : TgF := fun d st => some (st.set i (some (.d d)))
theorem kg_name (i : Nat) {x : Str} (hN : X.N.Nodup) (hi : X.N[i]? = some x := by rfl) (hx : Loc X.env.scope x := by first | exact Or.inl rfl | exact Or.inr rfl) (hf : X.fn x = true ∨ X.env.scope.names.lookup x = some .local := by first | exact .inl rfl | exact .inr rfl | assumption) : KG X (.Name x pos) [i] (tfName i) := by
  refine pg_wk (pg_name hN hi hx hf) fun v σ H Q ⟨F, ρ, L, st, d, st', o, r, p, e, k⟩ => ?_
  cases e
  refine k _ (r.set i (show RepU X.K F ρ H L (.d d) v from p)) ?_
  show (σ.set i (some v)).set i none = σ.set i none
  simp
/-- (a, b, ..), names or tuples of names again -/
abbrev TgsF := List D → SS → Option SS
def RTs (K : Frag) (is : List Nat) (tf : TgsF) : TGs := fun vs σ H Q => ∃ F ρ L st ds st', Ok K F ρ H L ∧ RepSt K F ρ H L σ st ∧ RepL K F H ds vs ∧ tf ds st = some st' ∧ ∀ σ', RepSt K F ρ H L σ' st' → wipe σ' is = wipe σ is → Q σ' H
abbrev KGs (X : Cx) (tgs : List Expr) (is : List Nat) (tf : TgsF) : Prop := PGs X tgs (RTs X.K is tf)
theorem pgs_wk {tg : List Expr} {t t' : TGs} (h : PGs X tg t) (i : ∀ v σ H Q, t' v σ H Q → t v σ H Q) : PGs X tg t' := ⟨fun pins s σ H v u Q I r q => h.run pins s σ H v u Q I r (i v σ H Q q)⟩
def tfNil : TgsF := fun ds st => match ds with
  | [] => some st
  | _ => none
def tfCons (t : TgF) (u : TgsF) : TgsF := fun ds st => match ds with
  | d :: r => (t d st).bind fun st1 => u r st1
  | [] => none
theorem kgs_nil : KGs X [] [] tfNil := by
  refine pgs_wk pgs_nil fun v σ H Q ⟨F, ρ, L, st, ds, st', o, r, p, e, k⟩ => ?_
  cases ds with
  | nil => cases p; cases e; exact ⟨rfl, k _ r rfl⟩
  | cons d ds => cases e
theorem kgs_cons {e : Expr} {es : List Expr} {is js : List Nat} {t : TgF} {u : TgsF} (h1 : KG X e is t) (h2 : KGs X es js u) (hs : (assignEach (e :: es) X.env).map (·.2) = assign e X.env :: (assignEach es X.env).map (·.2) := by rfl) : KGs X (e :: es) (is ++ js) (tfCons t u) := by
  refine pgs_wk (pgs_cons h1 h2 hs) fun v σ H Q ⟨F, ρ, L, st, ds, st', o, r, p, e, k⟩ => ?_
  cases ds with
  | nil => cases e
  | cons d ds =>
    obtain ⟨v1, vr, rfl, q1, q2⟩ := p
    obtain ⟨st1, e1, e2⟩ := Option.bind_eq_some_iff.mp e
    refine ⟨v1, vr, rfl, F, ρ, L, st, d, st1, o, r, q1, e1, fun σ1 r1 w1 => ⟨F, ρ, L, st1, ds, st', o, r1, q2, e2, fun σ2 r2 w2 => k σ2 r2 ?_⟩⟩
    rw [wipe_app, wipe_app, w2, wipe_comm, w1, wipe_comm]
def tfTup (n : Nat) (u : TgsF) : TgF := fun d st => match d with
  | .tup ds => if ds.length = n then u ds st else none
  | _ => none
theorem kg_tup {es : List Expr} {kk : Nat} {is : List Nat} {u : TgsF} {n : Nat} (h : KGs X es is u) (hc : X.calm = true := by rfl) (hn : (assignEach es X.env).length = n := by rfl) (hst : (assignEach es X.env).findIdx? (·.1) = none := by rfl) : KG X (.Tuple es kk pos) is (tfTup n u) := by
  refine pg_wk (pg_tup hc h hn hst) fun v σ H Q ⟨F, ρ, L, st, d, st', o, r, p, e, k⟩ => ?_
  unfold tfTup at e
  split at e
  · rename_i ds
    obtain ⟨a, vs, rfl, g, q⟩ := p
    split at e
    · rename_i hl
      exact ⟨a, vs, rfl, g.sq, by rw [q.length]; exact hl, F, ρ, L, st, ds, st', o, r, q, e, k⟩
    · cases e
  · cases e
/-- (a, b, ..) = e -/
def sAsg (tf : TgF) (fe : EF) : SF := fun st L => ofR (fe st L) st fun u L1 => optS (fzU L1 u) fun p => optS (tf p.1 st) fun st' => .nx st' p.2
theorem ks_asg {tg : Expr} {is : List Nat} {tf : TgF} (he : KE X W e fe) (hg : KG X tg is tf) (hs : swapsWithSole [tg] e pos.line X.env = pure false := by rfl) (hw : swappedStores [tg] e X.env = pure none := by rfl) (h1 : (assignEach [tg] X.env).map (·.2) = [assign tg X.env] := by rfl) : KS X W (.Assign [tg] e pos) (sAsg tf fe) := by
  refine ps_wk (ps_asg he hg hs hw h1) fun D σ H ⟨F, ρ, L, st, o, r, h⟩ => ?_
  refine RS.one o r h fun x H1 F1 ρ1 L1 u s1 o1 r1 p1 h1 => ?_
  obtain ⟨⟨d, L2⟩, e1, h1⟩ := h1.optS
  obtain ⟨st', e2, h1⟩ := h1.optS
  obtain ⟨F2, s2, o2, q2⟩ := fzU_ok o1 p1 e1
  exact ⟨F2, ρ1, L2, st, d, st', o2, r1.mono s2, q2, e2, fun σ' r' _ => h1 F2 ρ1 H1 σ' s2 o2 r'⟩

/-! ### x[i] = e, on a list that still changes -/
theorem put_live {K : Frag} {F : Addr → Prop} {ρ : Nat → Addr} {H : Hp} {L : LS} (o : Ok K F ρ H L) {n : Nat} {lo lo' : LO} {u : HO} (e : L[n]? = some lo) (on : lo.on = true) (on' : lo'.on = true) (h : ∀ (k : ∀ a, F a → F a ∧ upd H (ρ n) u a = H a), ¬ F (ρ n) → LAt K F (upd H (ρ n) u) (ρ n) lo') :
    Step F ρ H L F ρ (upd H (ρ n) u) (L.set n lo') ∧ Ok K F ρ (upd H (ρ n) u) (L.set n lo') := by
  have hn : n < L.length := (List.getElem?_eq_some_iff.mp e).1
  have nf : ¬ F (ρ n) := by
    have h := o.at_ n lo e
    cases lo with
    | l xs => exact h.1
    | d ks xs => exact h.1
    | t ks xs => exact h.1
    | i C ns xs => exact h.1
    | z d => cases on
  have k : ∀ a, F a → F a ∧ upd H (ρ n) u a = H a := fun a f => ⟨f, upd_ne fun z => nf (z ▸ f)⟩
  have ne : ∀ {m l2}, L[m]? = some l2 → l2.on = true → m ≠ n → ρ m ≠ ρ n := fun {m l2} e2 t hm z => hm (o.inj m n l2 lo e2 e t on z)
  refine ⟨⟨k, by simp, fun _ _ => rfl, fun a w e2 hv => by rw [upd_ne fun z => hv ⟨n, lo, e, on, z.symm⟩]; exact e2, fun m l2 h q _ => ?_, fun m l2 h q t => ?_, fun a h => ?_, fun a f => .inl f⟩, ⟨fun m l2 q => ?_, fun m j l2 l3 q1 q2 t1 t2 q => ?_, fun a f => by rw [(k a f).2]; exact o.stands a f⟩⟩
  · have := (List.getElem?_eq_some_iff.mp q).1
    simp at this
    omega
  · by_cases hm : m = n
    · subst hm; exact ⟨lo, e, on⟩
    · rw [List.getElem?_set_ne (Ne.symm hm)] at q; exact ⟨l2, q, t⟩
  · by_cases z : a = ρ n
    · subst z; rw [upd_same] at h; cases h
    · rw [upd_ne z] at h; exact h
  · by_cases hm : m = n
    · subst hm; rw [List.getElem?_set_self hn] at q; cases q; exact h k nf
    · rw [List.getElem?_set_ne (Ne.symm hm)] at q
      have h' := o.at_ m l2 q
      cases l2 with
      | l xs => obtain ⟨f, vs, h1, h2⟩ := h'; exact ⟨f, vs, by rw [upd_ne (ne q rfl hm)]; exact h1, RepL.mono k xs h2⟩
      | d ks xs => obtain ⟨f, vs, h1, h2, h3⟩ := h'; exact ⟨f, vs, by rw [upd_ne (ne q rfl hm)]; exact h1, h2, RepL.mono k xs h3⟩
      | t ks xs => obtain ⟨f, vs, h1, h2, h3⟩ := h'; exact ⟨f, vs, by rw [upd_ne (ne q rfl hm)]; exact h1, h2, RepL.mono k xs h3⟩
      | i C ns xs => obtain ⟨f, dx, fs, h1, oc, h2, h3⟩ := h'; exact ⟨f, dx, fs, by rw [upd_ne (ne q rfl hm)]; exact h1, oc, h2, RepL.mono k xs h3⟩
      | z d => exact Rep.mono k d h'
  · have z : ∀ {j : Nat} {l3 : LO}, (L.set n lo')[j]? = some l3 → l3.on = true → ∃ l4, L[j]? = some l4 ∧ l4.on = true := fun {j l3} q t => by
      by_cases hj : j = n
      · subst hj; exact ⟨lo, e, on⟩
      · exact ⟨l3, by rwa [List.getElem?_set_ne (Ne.symm hj)] at q, t⟩
    obtain ⟨l4, e4, t4⟩ := z q1 t1
    obtain ⟨l5, e5, t5⟩ := z q2 t2
    exact o.inj m j l4 l5 e4 e5 t4 t5 q
def putAt (ou iu vu : U) (L : LS) : Option LS := match ou, iu with
  | .l n, .d (.int k) => (match L[n]? with
    | some (.l xs) => (fzU L vu).bind fun p => (match p.2[n]? with
      | some (.l ys) => (ixN ys.length k).map fun j => p.2.set n (.l (ys.set j p.1))
      | _ => none)
    | _ => none)
  | _, _ => none
def sSub (fo fi fe : EF) : SF := fun st L => ofR (fe st L) st fun v L1 => ofR (fo st L1) st fun ou L2 => ofR (fi st L2) st fun iu L3 => optS (putAt ou iu v L3) fun L4 => .nx st L4
theorem ks_sub {fo fi : EF} {i : Expr} {pos' : Pos} (ho : KE X W o fo) (hi : KE X W i fi) (he : KE X W e fe)
    (hs : swapsWithSole [.Subscript o i pos'] e pos.line X.env = pure false := by rfl) (hw : swappedStores [.Subscript o i pos'] e X.env = pure none := by rfl) (h1 : (assignEach [.Subscript o i pos'] X.env).map (·.2) = [assign (.Subscript o i pos') X.env] := by rfl)
    (ha : ∀ v, assign (.Subscript o i pos') X.env v = (do
      let ov ← holding [v] (eval o X.env)
      let iv ← holding [v, ov] (eval i X.env)
      standAt pos'
      holding [v, ov, iv] (setItem ov iv v)
      release [v, ov, iv] []) := by intro _; rfl) : KS X W (.Assign [.Subscript o i pos'] e pos) (sSub fo fi fe) := by
  refine ps_wk (ps_asg he (pg_sub ho hi set_list ha) hs hw h1) fun D σ H ⟨F, ρ, L, st, o, r, h⟩ => ?_
  refine RS.one o r h fun x H1 F1 ρ1 L1 u s1 o1 r1 p1 h1 => ?_
  refine RS.one o1 r1 h1 fun y H2 F2 ρ2 L2 u2 s2 o2 r2 p2 h2 => ?_
  refine RS.one o2 r2 h2 fun z H3 F3 ρ3 L3 u3 s3 o3 r3 p3 h3 => ?_
  obtain ⟨L4, e4, h3⟩ := h3.optS
  unfold putAt at e4
  split at e4
  · rename_i n k
    split at e4
    · rename_i xs hx
      obtain ⟨⟨d, L5⟩, e5, e4⟩ := Option.bind_eq_some_iff.mp e4
      split at e4
      · rename_i ys hy
        obtain ⟨j, ej, rfl⟩ := Option.map_eq_some_iff.mp e4
        obtain ⟨F5, s5, o5, q5⟩ := fzU_ok o3 ((p1.mono s2).mono s3) e5
        obtain ⟨_, vs, g1, g2⟩ := o5.at_ n _ hy
        have p2' := p2.mono s3
        obtain ⟨hn, hz⟩ := p2'
        obtain rfl : z = .int k := p3
        refine ⟨ρ3 n, vs, k, j, hz, rfl, g1, by rw [g2.length]; exact ej, ?_⟩
        obtain ⟨s6, o6⟩ := put_live (u := .lst (vs.set j x)) (lo' := .l (ys.set j d)) o5 hy rfl rfl fun kk nf => ⟨nf, _, upd_same, RepL.mono kk _ (g2.set j q5)⟩
        exact h3 F5 ρ3 _ σ (s5.trans s6) o6 ((r3.mono s5).mono s6)
      · cases e4
    · cases e4
  · cases e4
end
end VL

set_option Elab.async false
set_option linter.all false
set_option maxRecDepth 100000
set_option maxHeartbeats 4000000
namespace VL
open PySem PySem.Spec PyProof.Rows L2
open PySem.W (Frag)

/-- room for calls, and no repr under way -/
structure Rm (k : Nat) (A : Around) : Prop where
  rm : Room k A
  gd : A.guards = some []
theorem Rm.mono {j k : Nat} {A : Around} (r : Rm k A) (h : j ≤ k) : Rm j A := ⟨r.rm.mono h, r.gd⟩
theorem Rm.deeper {k : Nat} {A : Around} (r : Rm (k + 1) A) (env : Env) : Rm k (A.deeper env) := ⟨r.rm.deeper env, r.gd⟩
theorem Rm.u {k : Nat} {A : Around} (r : Rm k A) : A.units + 64 < cLine := r.rm.units
theorem Rm.u1 {k : Nat} {A : Around} (r : Rm k A) : A.units + 1 < cLine := by have := r.rm.units; omega
theorem make_guards {A : Around} {C : Addr} {us : List Value} {kw : List (Str × Value)} : (A.under (.builtin "type.__call__" ⟨.ref C :: us, kw⟩)).guards = A.guards := by
  first | rfl | simp [Around.under, Code.guards, Code.isGuard, guardIds, pushGuards]
theorem Rm.make {k : Nat} {A : Around} (r : Rm (k + 1) A) (C : Addr) (us : List Value) (kw : List (Str × Value)) : Rm k (A.under (.builtin "type.__call__" ⟨.ref C :: us, kw⟩)) := ⟨r.rm.make C us kw, by rw [make_guards]; exact r.gd⟩

/-- a def's mirror -/
abbrev FF := List U → LS → Rs U
/-- what a def with the mirror m promises -/
def spK (K : Frag) (n : Nat) (m : FF) : Sp := fun vs H Q E => ∃ F ρ L us, Ok K F ρ H L ∧ RepUs K F ρ H L us vs ∧ us.length = n ∧ GE RepU K (fun c d _ H' => E c d H') [] F ρ H L Q (m us L)
structure KFn (P : Program) (w : World) (K : Frag) (mg : Str → Option Value) (base : Heap) (k : Nat) (f : Addr) (fd : FuncData) (ps : List Str) (m : FF) : Prop where
  run : ∀ (A : Around) (outer : List Env) (s : Shared) (H : Hp) (args : Args) (us : List Value) (vs : List V) (Q : VK) (E : XK), Rm k A → Env0 P w K mg base A outer s H → BindsTo s fd args (ps.zip us) → Vals vs us → spK K ps.length m vs H Q E →
    codeAny (model P w) A (.call (.ref f) args) (CR (L2.CX P w) outer P w H s Q E) s
theorem KFn.mono {P : Program} {w : World} {K : Frag} {mg : Str → Option Value} {base : Heap} {j k : Nat} {f : Addr} {fd : FuncData} {ps : List Str} {m : FF} (h : KFn P w K mg base j f fd ps m) (q : j ≤ k) : KFn P w K mg base k f fd ps m :=
  ⟨fun A outer s H args us vs Q E hr => h.run A outer s H args us vs Q E (hr.mono q)⟩

/-! ### what a def made on its way and does not hand out is left alone -/
section
variable {K : Frag} {F F' : Addr → Prop} {ρ ρ' : Nat → Addr} {H H' : Hp} {L L' : LS}
theorem take_get {n i : Nat} {lo : LO} (e : (L.take n)[i]? = some lo) : L[i]? = some lo ∧ i < n := by
  rw [List.getElem?_take] at e
  split at e
  · exact ⟨e, by assumption⟩
  · cases e
theorem cut_ok (s : Step F ρ H L F' ρ' H' L') (o : Ok K F' ρ' H' L') : Step F ρ H L F' ρ' H' (L'.take L.length) ∧ Ok K F' ρ' H' (L'.take L.length) := by
  have hl := s.len
  refine ⟨⟨s.fz, by rw [List.length_take]; omega, s.same, s.keep, fun n lo h e _ => ?_, fun n lo h e t => s.off n lo h (take_get e).1 t, s.trk, s.fr⟩, ⟨fun n lo e => o.at_ n lo (take_get e).1, fun m n lo lo' e1 e2 => o.inj m n lo lo' (take_get e1).1 (take_get e2).1, o.stands⟩⟩
  exact absurd (take_get e).2 (Nat.not_lt.mpr h)
theorem take_get1 {n i : Nat} {lo l1 : LO} (hn : n ≤ L.length) (e : (L.take n ++ [l1])[i]? = some lo) : (L[i]? = some lo ∧ i < n) ∨ (i = n ∧ lo = l1) := by
  by_cases h : i < n
  · rw [List.getElem?_append_left (by simp; omega)] at e
    exact .inl (take_get e)
  · rw [List.getElem?_append_right (by simp; omega)] at e
    have hl : (L.take n).length = n := by simp; omega
    rw [hl] at e
    cases k : i - n with
    | zero => rw [k] at e; simp at e; exact .inr ⟨by omega, e.symm⟩
    | succ j => rw [k] at e; simp at e
theorem cut_ok1 (s : Step F ρ H L F' ρ' H' L') (o : Ok K F' ρ' H' L') {n : Nat} {lo : LO} (e : L'[n]? = some lo) (hn : L.length ≤ n) :
    ∃ ρ2, ρ2 L.length = ρ' n ∧ Step F ρ H L F' ρ2 H' (L'.take L.length ++ [lo]) ∧ Ok K F' ρ2 H' (L'.take L.length ++ [lo]) := by
  have hl := s.len
  obtain ⟨ρ2, a1, a2⟩ : ∃ ρ2 : Nat → Addr, (∀ {i : Nat}, i < L.length → ρ2 i = ρ' i) ∧ ρ2 L.length = ρ' n := ⟨fun i => if i < L.length then ρ' i else ρ' n, fun h => if_pos h, if_neg (Nat.lt_irrefl _)⟩
  refine ⟨ρ2, a2, ⟨s.fz, by simp; omega, fun i h => (a1 h).trans (s.same i h), s.keep, fun i l1 h e1 t => ?_, fun i l1 h e1 t => ?_, s.trk, s.fr⟩, ⟨fun i l1 e1 => ?_, fun i j l1 l2 e1 e2 t1 t2 q => ?_, o.stands⟩⟩
  · rcases take_get1 hl e1 with ⟨q, h2⟩ | ⟨rfl, rfl⟩
    · omega
    · rw [a2]; exact s.new n l1 hn e t
  · rcases take_get1 hl e1 with ⟨q, h2⟩ | ⟨rfl, rfl⟩
    · exact s.off i l1 h q t
    · exact absurd h (Nat.lt_irrefl _)
  · rcases take_get1 hl e1 with ⟨q, h2⟩ | ⟨rfl, rfl⟩
    · rw [a1 h2]; exact o.at_ i l1 q
    · rw [a2]; exact o.at_ n l1 e
  · rcases take_get1 hl e1 with ⟨q1, h1⟩ | ⟨rfl, rfl⟩ <;> rcases take_get1 hl e2 with ⟨q2, h2⟩ | ⟨rfl, rfl⟩
    · rw [a1 h1, a1 h2] at q; exact o.inj i j l1 l2 q1 q2 t1 t2 q
    · rw [a1 h1, a2] at q; have := o.inj i n l1 l2 q1 e t1 t2 q; omega
    · rw [a2, a1 h2] at q; have := o.inj n j l1 l2 e q2 t1 t2 q; omega
    · rfl
def outR (n0 : Nat) (u : U) (L' : LS) : Rs U := match u with
  | .d d => .ok (.d d) (L'.take n0)
  | .l n => if n < n0 then .ok (.l n) (L'.take n0) else (match L'[n]? with
    | some lo => .ok (.l n0) (L'.take n0 ++ [lo])
    | none => .no)
theorem GE.out {W : WX} {σ : L2.St} {Q : VK} {u : U} {v : V} (g : GE RepU K W σ F ρ H L Q (outR L.length u L')) (s : Step F ρ H L F' ρ' H' L') (o : Ok K F' ρ' H' L') (p : RepU K F' ρ' H' L' u v) : Q v H' := by
  cases u with
  | d x =>
    obtain ⟨s1, o1⟩ := cut_ok s o
    exact g F' ρ' H' v s1 o1 p
  | l n =>
    unfold outR at g
    by_cases hn : n < L.length
    · simp only [hn, if_true] at g
      obtain ⟨s1, o1⟩ := cut_ok s o
      exact g F' ρ' H' v s1 o1 ⟨by simp; have := s.len; omega, p.2⟩
    · simp only [hn, if_false] at g
      cases e : L'[n]? with
      | none => rw [e] at g; exact g.elim
      | some lo =>
        rw [e] at g
        obtain ⟨ρ2, e2, s1, o1⟩ := cut_ok1 s o e (Nat.not_lt.mp hn)
        exact g F' ρ2 H' v s1 o1 ⟨by simp; have := s.len; omega, by rw [e2]; exact p.2⟩
end

/-- a body's mirror as a def's: n parameters, N names -/
def fnF (n N : Nat) (body : SF) : FF := fun us L => if us.length = n then (match body (us.map some ++ List.replicate (N - n) none) L with
  | .nx _ L' => .ok (.d .non) (L'.take L.length)
  | .rt u L' => outR L.length u L'
  | .ex C ns xs _ L' => .ex C ns xs (L'.take L.length)
  | _ => .no) else .no
theorem start_rep {K : Frag} {F : Addr → Prop} {ρ : Nat → Addr} {H : Hp} {L : LS} {us : List U} {vs : List V} {N : List Str} (h : RepUs K F ρ H L us vs) : RepSt K F ρ H L (L2.start N vs) (us.map some ++ List.replicate (N.length - us.length) none) := by
  have hl := h.length
  have get : ∀ {us : List U} {vs : List V}, RepUs K F ρ H L us vs → ∀ (i : Nat) u, us[i]? = some u → ∃ v, vs[i]? = some v ∧ RepU K F ρ H L u v := by
    intro us
    induction us with
    | nil => intro vs _ i u e; simp at e
    | cons x xs ih =>
      intro vs ⟨v, r, e1, q, t⟩ i u e
      subst e1
      cases i with
      | zero => simp at e; subst e; exact ⟨v, rfl, q⟩
      | succ i => exact ih t i u (by simpa using e)
  refine ⟨by unfold L2.start; simp [hl], fun i u e => ?_⟩
  by_cases hi : i < us.length
  · rw [List.getElem?_append_left (by simpa using hi), List.getElem?_map] at e
    obtain ⟨u2, e1, e2⟩ := Option.map_eq_some_iff.mp e
    have e2 : u2 = u := Option.some.inj e2
    subst e2
    obtain ⟨v, e3, r⟩ := get h i u2 e1
    refine ⟨v, ?_, r⟩
    unfold L2.start
    rw [List.getElem?_append_left (by simp [hl]; exact hi), List.getElem?_map, e3]
    rfl
  · rw [List.getElem?_append_right (by simpa using hi), List.getElem?_replicate] at e
    split at e <;> cases e

section
variable {P : Program} {w : World} {K : Frag} {mg : Str → Option Value} {base : Heap}
/-- a def of the text, by its body -/
theorem kfn_at {k : Nat} {f : Addr} {name qual : Str} {params : Arguments} {body : List Stmt} {scope : Scope} {dV kV doc pm cdv ct oc : Value} {an od : Option Addr} {osl : Array (Option Value)} {N ps : List Str} {fb : SF}
    (lk : K.lookup f = some ⟨oc, od, .func (PySem.W.fnOf name qual params body scope dV kV doc pm an cdv ct), osl⟩) (hcd : PySem.W.codeIn K cdv qual = true) (S : FnScope N ps scope)
    (hb : ∀ (A : Around) (outer : List Env) (s : Shared) (H : Hp) (E : XK), Rm k (A.deeper (envOfC qual scope s.heap.objs.size f cdv)) → KSs (cxOf (L2.CX P w) P w K mg base N qual scope f cdv A outer s H E) (fun c d _ H' => E c d H') body fb) :
    KFn P w K mg base (k + 1) f (PySem.W.fnOf name qual params body scope dV kV doc pm an cdv ct) ps (fnF ps.length N.length fb) := by
  refine ⟨fun A outer s H args us vs Q E hr e0 bind r hsp => ?_⟩
  obtain ⟨F, ρ, L, uu, o, ru, hu, g⟩ := hsp
  have hl : vs.length = ps.length := ru.length.trans hu
  have kin : K.In s.heap := e0.mod.kin.keeps fun b o e => (e0.bs b o e).1
  have lim : s.heap.NoLimit := e0.mod.nolimit.keeps fun b o e => (e0.bs b o e).1
  have kinds : ∀ y ∈ ps.zip us, scope.names.lookup y.1 = some .local ∨ (scope.names.lookup y.1 = some .cell ∧ ((cellsFrom (s.heap.objs.size + 1) scope.names []).lookup y.1).isSome = true) := by
    intro y hy
    rcases S.par y.1 (List.of_mem_zip hy).1 with q | q
    · exact .inl q
    · exact .inr ⟨q, PySem.W.cellsFrom_some _ _ _ (.inl q)⟩
  refine codeAny_call_function hr.rm.depth (kin _ _ lk) rfl S.co S.gen rfl (PySem.W.codeRec_of kin hcd) (bind _ _ _ _ (wpAny_newFunctionEnv_cells S.kind kinds fun env he s1 x => ?_))
  subst he
  refine ⟨lim.keeps x.toInCall.keep, codeAny_func ?_⟩
  have I : Inv (cxOf (L2.CX P w) P w K mg base N qual scope f cdv A outer s H E) [] (L2.start N vs) H s1 := inv_start S hr.rm.hd e0 hl r x
  have q : RS K (fun c d _ H' => E c d H') fb { nx := fun _ H' => Q .non H', rt := Q } (L2.start N vs) H := by
    have rst := start_rep (N := N) ru
    rw [hu] at rst
    refine ⟨F, ρ, L, _, o, rst, ?_⟩
    unfold fnF at g
    rw [if_pos hu] at g
    cases e : fb (uu.map some ++ List.replicate (N.length - ps.length) none) L with
    | nx st' L' => rw [e] at g; exact fun F' ρ' H' σ' s' o' _ => GE.out (u := .d .non) g s' o' rfl
    | rt u L' => rw [e] at g; exact fun F' ρ' H' v s' o' p' => GE.out g s' o' p'
    | ex C ns xs st' L' => rw [e] at g; exact fun F' ρ' H' σ' d s' o' _ t => g F' ρ' H' d (cut_ok s' o').1 (cut_ok s' o').2 t
    | bk st' L' => rw [e] at g; exact g.elim
    | ct st' L' => rw [e] at g; exact g.elim
    | no => rw [e] at g; exact g
  refine wpAny_mono ((hb A outer s H E (hr.deeper _)).run [] s1 _ H _ I q) (fun fl s' hs => ?_) fun e s' hs => hs
  have done : ∀ {σ' : L2.St} {H' : Hp} {v : V} {u : Value}, Inv (cxOf (L2.CX P w) P w K mg base N qual scope f cdv A outer s H E) [] σ' H' s' → RelV v u → Q v H' → CE outer P w H s Q u s' := fun J rv qv => ⟨_, _, J.os, J.bare, J.base, J.hok, rv, qv⟩
  cases fl with
  | ret u => obtain ⟨v, σ', H', J, rv, qv⟩ := hs; exact done J rv qv
  | next => obtain ⟨σ', H', J, qv⟩ := hs; exact done (v := V.non) (u := Value.none) J rfl qv
  | brk => obtain ⟨_, _, _, z⟩ := hs; exact False.elim z
  | cont => obtain ⟨_, _, _, z⟩ := hs; exact False.elim z
/-- what the top has left of a def -/
theorem kfn_of {k : Nat} {x qual : Str} {st : Stmt} {f : Addr} {fd : FuncData} {N ps : List Str} {fb : SF} (T : Fun K x qual st f fd) (S : FnScope N ps (defScope st))
    (hb : ∀ (cdv : Value) (A : Around) (outer : List Env) (s : Shared) (H : Hp) (E : XK), Rm k (A.deeper (envOfC qual (defScope st) s.heap.objs.size f cdv)) → KSs (cxOf (L2.CX P w) P w K mg base N qual (defScope st) f cdv A outer s H E) (fun c d _ H' => E c d H') (defBody st) fb) :
    KFn P w K mg base (k + 1) f fd ps (fnF ps.length N.length fb) := by
  obtain ⟨oc, od, kV, doc, pm, an, cdv, ct, osl, rfl, lk, hcd⟩ := T.ex
  exact kfn_at lk hcd S fun A outer s H E hr => hb cdv A outer s H E hr
end

/-! ### calls -/
def PUU : PP (List U × List U) (List V × List V) := fun K F ρ H L a b => RepUs K F ρ H L a.1 b.1 ∧ RepUs K F ρ H L a.2 b.2
abbrev CF := SS → LS → Rs (List U × List U)
/-- the arguments of a call; ks: the keywords' names -/
def KC (X : Cx) (W : WX) (args : List Expr) (kws : List Keyword) (ks : List Str) (fa : CF) : Prop :=
  ∀ (pos : Pos) (f : Value) (first : List Value) (pins : List (Addr × Obj)) (s : Shared) (σ : L2.St) (H : Hp) (Q : Value → Shared → Prop), PySem.W.keepIn X.K f = true → Inv X pins σ H s →
    RG PUU X.K W fa σ H (fun p H1 => ∀ s1 us ws, Inv X pins σ H1 s1 → Vals p.1 us → Vals p.2 ws → wpAny (model X.prog X.w) X.A (call f (first ++ us) (ks.zip ws)) Q X.xe s1) →
    wpAny (model X.prog X.w) X.A (callWith pos f first (backTo pos (starEach args X.env)) (backToKw pos (keywordEach kws X.env))) Q X.xe s
section
variable {X : Cx} {W : WX} {e : Expr} {es : List Expr} {kws : List Keyword} {ks : List Str} {f : AF} {g : AF}
def cPos (f : AF) : CF := fun st L => (f st L).bind fun us L1 => .ok (us, []) L1
def cBoth (f g : AF) : CF := fun st L => (f st L).bind fun us L1 => (g st L1).bind fun ws L2 => .ok (us, ws) L2
theorem kc_nil : KC X W [] [] [] (cPos aNil) := by
  intro pos fv first pins s σ H Q hk I h
  obtain ⟨F, ρ, L, st, o, r, h⟩ := h
  have z := h.fin (b := ([], [])) o ⟨rfl, rfl⟩ s [] [] I .nil .nil
  exact PySem.W.callWith_K0 I.kIn hk z
theorem kc_pos (ha : KA X W (e :: es) f) (he : starEach (e :: es) X.env = (false, eval e X.env) :: starEach es X.env := by rfl) (hpl : ∀ pos, (backTo pos (starEach es X.env)).any (·.1) = false := by intro _; rfl) : KC X W (e :: es) [] [] (cPos f) := by
  intro pos fv first pins s σ H Q hk I h
  obtain ⟨F, ρ, L, st, o, r, h⟩ := h
  refine PySem.W.callWith_K (h₀ := X.base) I.ok.mod.kin hk (thn (PA.run ha pos pins s σ H _ I (RG.one (P := RepUs) o r h fun vs H1 F1 ρ1 L1 us s1 o1 r1 p1 h1 => h1.fin (b := (vs, [])) o1 ⟨p1, rfl⟩)) fun us s1 ⟨vs, H1, I1, rv, q⟩ => ⟨I1.kIn, q s1 us [] I1 rv .nil⟩) he (hpl pos)
abbrev KK (X : Cx) (W : WX) (kws : List Keyword) (f : AF) : Prop := PK X kws (RG RepUs X.K W f)
theorem kk_nil : KK X W [] aNil := ⟨fun pos pins s σ H Q I ⟨F, ρ, L, st, o, r, h⟩ => pk_nil.run pos pins s σ H Q I (h.fin (b := []) o rfl)⟩
theorem kk_cons {nm : Option Str} {kpos : Pos} {fa : EF} (ha : KE X W e fa) (hr : KK X W kws f) : KK X W (⟨nm, e, kpos⟩ :: kws) (aCons fa f) := by
  refine ⟨fun pos pins s σ H Q I ⟨F, ρ, L, st, o, r, h⟩ => (pk_cons ha hr).run pos pins s σ H Q I ?_⟩
  refine RG.one o r h fun x H1 F1 ρ1 L1 u s1 o1 r1 p1 h1 => ?_
  refine RG.one o1 r1 h1 fun y H2 F2 ρ2 L2 u2 s2 o2 r2 p2 h2 => ?_
  exact h2.fin o2 ⟨x, y, rfl, p1.mono s2, p2⟩
theorem kc_both (ha : KA X W (e :: es) f) (hk : KK X W kws g) (he : starEach (e :: es) X.env = (false, eval e X.env) :: starEach es X.env := by rfl) (hall : ∀ pos, (backToKw pos (keywordEach kws X.env)).all (·.1.isSome) = true := by intro _; rfl)
    (hks : ∀ pos, (backToKw pos (keywordEach kws X.env)).filterMap (·.1) = ks := by intro _; rfl)
    (hpl : ∀ pos, ((backTo pos (starEach (e :: es) X.env)).any (·.1) || (backToKw pos (keywordEach kws X.env)).any (·.1.isNone)) = false := by intro _; rfl) : KC X W (e :: es) kws ks (cBoth f g) := by
  intro pos fv first pins s σ H Q hkp I h
  obtain ⟨F, ρ, L, st, o, r, h⟩ := h
  refine PySem.W.callWith_KW (h₀ := X.base) I.ok.mod.kin hkp (hall pos) (thn (PA.run ha pos pins s σ H (fun vs H1 => ∃ F1 ρ1 L1 us, Step F ρ H L F1 ρ1 H1 L1 ∧ Ok X.K F1 ρ1 H1 L1 ∧ RepSt X.K F1 ρ1 H1 L1 σ st ∧ RepUs X.K F1 ρ1 H1 L1 us vs ∧ GE PUU X.K W σ F1 ρ1 H1 L1 _ ((g st L1).bind fun ws L2 => .ok (us, ws) L2)) I
    (RG.one (P := RepUs) o r h fun vs H1 F1 ρ1 L1 us s1 o1 r1 p1 h1 => ⟨F1, ρ1, L1, us, s1, o1, r1, p1, h1⟩)) fun us s1 ⟨vs, H1, I1, rv, F1, ρ1, L1, uu, st1, o1, r1, p1, h1⟩ => ?_) (hpl pos) he
  refine thn (PK.run hk pos pins s1 σ H1 _ I1 (RG.one (P := RepUs) o1 r1 h1 fun zs H2 F2 ρ2 L2 ws s2 o2 r2 p2 h2 => h2.fin (b := (vs, zs)) o2 ⟨p1.mono s2, p2⟩)) fun ws s2 ⟨zs, H2, I2, rz, q⟩ => ⟨I2.kIn, ?_⟩
  rw [hks pos]
  exact q s2 us ws I2 rv rz
theorem kc_kw (hk : KK X W kws g) (hall : ∀ pos, (backToKw pos (keywordEach kws X.env)).all (·.1.isSome) = true := by intro _; rfl) (hks : ∀ pos, (backToKw pos (keywordEach kws X.env)).filterMap (·.1) = ks := by intro _; rfl)
    (hpl : ∀ pos, ((backTo pos (starEach [] X.env)).any (·.1) || (backToKw pos (keywordEach kws X.env)).any (·.1.isNone)) = false := by intro _; rfl) : KC X W [] kws ks (cBoth aNil g) := by
  intro pos fv first pins s σ H Q hkp I h
  obtain ⟨F, ρ, L, st, o, r, h⟩ := h
  refine PySem.W.callWith_KW0 (h₀ := X.base) I.ok.mod.kin hkp (hall pos) ?_ (hpl pos)
  have h' : GE PUU X.K W σ F ρ H L _ ((g st L).bind fun ws L2 => .ok ([], ws) L2) := h
  refine thn (PK.run hk pos pins s σ H _ I (RG.one (P := RepUs) o r h' fun zs H2 F2 ρ2 L2 ws s2 o2 r2 p2 h2 => h2.fin (b := ([], zs)) o2 ⟨rfl, p2⟩)) fun ws s2 ⟨zs, H2, I2, rz, q⟩ => ⟨I2.kIn, ?_⟩
  rw [hks pos]
  exact q s2 [] ws I2 .nil rz
end

/-! ### how the arguments come to the parameters -/
inductive Sr where
  | p (i : Nat) | k (j : Nat) | c (d : D)
def Sr.get (us ws : List U) : Sr → Option U
  | .p i => us[i]?
  | .k j => ws[j]?
  | .c d => some (.d d)
def arrU (us ws : List U) : List Sr → Option (List U)
  | [] => some []
  | s :: r => (s.get us ws).bind fun u => (arrU us ws r).map (u :: ·)
/-- a constant, whatever the heap is -/
def Cst (d : D) (v : V) : Prop := ∀ K F H, Rep K F H d v
def SrOk (us ws : List Value) : Sr → Value → Prop
  | .p i, z => us[i]? = some z
  | .k j, z => ws[j]? = some z
  | .c d, z => ∃ v, Cst d v ∧ RelV v z
structure Bk (K : Frag) (fd : FuncData) (ps : List Str) (n : Nat) (ks : List Str) (src : List Sr) : Prop where
  bind : ∀ (s : Shared) (us ws : List Value), K.In s.heap → us.length = n → ws.length = ks.length → ∃ zs, BindsTo s fd ⟨us, ks.zip ws⟩ (ps.zip zs) ∧ Paired (SrOk us ws) src zs
  len : src.length = ps.length
theorem repUs_get {K : Frag} {F : Addr → Prop} {ρ : Nat → Addr} {H : Hp} {L : LS} : ∀ {us : List U} {vs : List V}, RepUs K F ρ H L us vs → ∀ {i : Nat} {u : U}, us[i]? = some u → ∃ v, vs[i]? = some v ∧ RepU K F ρ H L u v
  | [], _, _, _, _, e => by simp at e
  | x :: xs, _, ⟨v, r, e1, q, t⟩, 0, _, e => by subst e1; simp at e; subst e; exact ⟨v, rfl, q⟩
  | x :: xs, _, ⟨v, r, e1, q, t⟩, i + 1, _, e => by subst e1; exact repUs_get t (i := i) (by simpa using e)
theorem arr_ok {K : Frag} {F : Addr → Prop} {ρ : Nat → Addr} {H : Hp} {L : LS} {us ws : List U} {vs zs : List V} {uv wv : List Value} (r1 : RepUs K F ρ H L us vs) (r2 : RepUs K F ρ H L ws zs) (v1 : Vals vs uv) (v2 : Vals zs wv) :
    ∀ {src : List Sr} {out : List Value} {xs : List U}, Paired (SrOk uv wv) src out → arrU us ws src = some xs → ∃ ys, RepUs K F ρ H L xs ys ∧ Vals ys out
  | [], _, _, .nil, e => by cases e; exact ⟨[], rfl, .nil⟩
  | s :: r, b :: out, _, .cons h t, e => by
    simp only [arrU, Option.bind_eq_some_iff, Option.map_eq_some_iff] at e
    obtain ⟨u, e1, xs, e2, rfl⟩ := e
    obtain ⟨ys, q1, q2⟩ := arr_ok r1 r2 v1 v2 t e2
    have one : ∃ y, RepU K F ρ H L u y ∧ RelV y b := by
      cases s with
      | p i =>
        obtain ⟨v, g1, g2⟩ := repUs_get r1 e1
        obtain ⟨z, g3, g4⟩ := v1.get g1
        have h' : uv[i]? = some b := h
        rw [g3] at h'; cases h'
        exact ⟨v, g2, g4⟩
      | k i =>
        obtain ⟨v, g1, g2⟩ := repUs_get r2 e1
        obtain ⟨z, g3, g4⟩ := v2.get g1
        have h' : wv[i]? = some b := h
        rw [g3] at h'; cases h'
        exact ⟨v, g2, g4⟩
      | c d =>
        obtain ⟨v, g1, g2⟩ := h
        cases e1
        exact ⟨v, g1 K F H, g2⟩
    obtain ⟨y, p1, p2⟩ := one
    exact ⟨y :: ys, ⟨y, ys, rfl, p1, q1⟩, .cons p2 q2⟩

section
variable {X : Cx} {W : WX}
/-- the callee runs -/
theorem run_k {k : Nat} {f : Addr} {fd : FuncData} {ps ks : List Str} {m : FF} {src : List Sr} {n : Nat} {pins : List (Addr × Obj)} {σ : L2.St} {H : Hp} {s : Shared} {Q : VK} {F : Addr → Prop} {ρ : Nat → Addr} {L : LS} {us ws : List U} {vs zs : List V} {uv wv : List Value}
    (G : KFn X.prog X.w X.K X.mg X.base k f fd ps m) (hr : Rm k X.A) (hb : Bk X.K fd ps n ks src) (tk : Takes X W) (I : Inv X pins σ H s) (o : Ok X.K F ρ H L) (r1 : RepUs X.K F ρ H L us vs) (r2 : RepUs X.K F ρ H L ws zs) (v1 : Vals vs uv) (v2 : Vals zs wv)
    (hn : us.length = n) (hks : ws.length = ks.length) (h : GE RepU X.K W σ F ρ H L Q (opt (arrU us ws src) fun xs => m xs L)) : wpAny (model X.prog X.w) X.A (call (.ref f) uv (ks.zip wv)) (EP X pins σ Q) X.xe s := by
  obtain ⟨xs, e1, h⟩ := h.opt
  obtain ⟨out, bd, pr⟩ := hb.bind s uv wv I.kIn (by rw [← v1.length, r1.length]; exact hn) (by rw [← v2.length, r2.length]; exact hks)
  obtain ⟨ys, q1, q2⟩ := arr_ok r1 r2 v1 v2 pr e1
  have hlen : xs.length = ps.length := by
    rw [← q1.length, q2.length, ← Paired.length pr]; exact hb.len
  refine wpAny_call (codeAny_mono (G.run X.A X.stack s H ⟨uv, ks.zip wv⟩ out ys Q (fun c d H' => W c d σ H') hr I.env0 bd q2 ⟨F, ρ, L, xs, o, q1, hlen, ?_⟩) fun r s' hq => ?_)
  · cases e : m xs L with
    | ok a L' => rw [e] at h; exact h
    | ex C ns ds L' => rw [e] at h; exact h
    | no => rw [e] at h; exact h
  · cases r with
    | error x => exact tk x s' (XE.of_call I (fun _ _ _ z => z) hq)
    | ok fl =>
      cases fl with
      | ret u => exact I.after hq
      | next => exact False.elim hq
      | brk => exact False.elim hq
      | cont => exact False.elim hq
/-- f(..) -/
def eCall (m : FF) (src : List Sr) (n l : Nat) (fa : CF) : EF := fun st L => (fa st L).bind fun p L1 => if p.1.length = n ∧ p.2.length = l then opt (arrU p.1 p.2 src) fun xs => m xs L1 else .no
theorem ke_call {x : Str} {k : Nat} {f : Addr} {fd : FuncData} {ps ks : List Str} {m : FF} {src : List Sr} {n : Nat} {args : List Expr} {kws : List Keyword} {fa : CF} {p pos : Pos} (tk : Takes X W) (hr : Rm k X.A) (G : KFn X.prog X.w X.K X.mg X.base k f fd ps m) (hb : Bk X.K fd ps n ks src)
    (hm : X.mg x = some (.ref f)) (hk : PySem.W.keepIn X.K (.ref f) = true) (ha : KC X W args kws ks fa) {l : Nat} (hl : ks.length = l := by rfl) (hg : Gl X x := by rfl) (hdb : (x == ("__debug__" : Str)) = false := by decide) : KE X W (.Call (.Name x p) args kws pos) (eCall m src n l fa) := by
  subst hl
  refine ⟨fun pins s σ H Q I ⟨F, ρ, L, st, o, r, h⟩ => ?_⟩
  refine wpAny_Call_Name_kw (ld_glob I hg hm ?_ hdb)
  refine ha pos (.ref f) [] pins s σ H _ hk I (RG.one (P := PUU) o r h fun b H1 F1 ρ1 L1 a s1 o1 r1 p1 h1 s2 us ws I2 v1 v2 => ?_)
  obtain ⟨hc, h1⟩ := ge_if h1
  exact run_k G hr hb tk I2 o1 p1.1 p1.2 v1 v2 hc.1 hc.2 h1
end
end VL

set_option Elab.async false
set_option linter.all false
set_option maxRecDepth 100000
set_option maxHeartbeats 4000000
namespace VL
open PySem PySem.Spec PyProof.Rows L2
open PySem.W (Frag)

/-! ### what is walked -/
/-- J yields ds, whatever happens meanwhile -/
def Itb (K : Frag) (J : It) (ds : List D) (F : Addr → Prop) (ρ : Nat → Addr) (H : Hp) (L : LS) : Prop :=
  ∀ F1 ρ1 H1 L1, Step F ρ H L F1 ρ1 H1 L1 → Ok K F1 ρ1 H1 L1 → ∀ i, (∀ d, ds[i]? = some d → J.go i H1 ∧ ∀ x H2, J.yld i H1 x H2 → ∃ F2, Step F1 ρ1 H1 L1 F2 ρ1 H2 L1 ∧ Ok K F2 ρ1 H2 L1 ∧ Rep K F2 H2 d x) ∧ (ds.length ≤ i → J.stop i H1)
def PIt : PP (List D) It := fun K F ρ H L ds J => Itb K J ds F ρ H L
abbrev IF := SS → LS → Rs (List D)
abbrev KI (X : Cx) (W : WX) (tg iter : Expr) (f : IF) : Prop := PI X tg iter (RG PIt X.K W f)
theorem pi_wk {X : Cx} {tg e : Expr} {t t' : TI} (h : PI X tg e t) (i : ∀ σ H R, t' σ H R → t σ H R) : PI X tg e t' := ⟨fun pins s σ H R I q => h.run pins s σ H R I (i σ H R q)⟩
section
variable {K : Frag} {F : Addr → Prop} {ρ : Nat → Addr} {H : Hp} {L : LS}
theorem itb_list {a : Addr} {vs : List V} {ds : List D} (f : F a) (h : H a = some (.lst vs)) (r : RepL K F H ds vs) : Itb K (Itl K a) ds F ρ H L := by
  intro F1 ρ1 H1 L1 s o i
  have h1 : SqL K H1 a vs := .inl (.inl ((s.fz a f).2.trans h))
  refine ⟨fun d e => ?_, fun hi => ⟨vs, h1, by rw [r.length]; exact hi⟩⟩
  obtain ⟨v, e1, rv⟩ := r.get e
  refine ⟨⟨vs, v, h1, e1⟩, fun x H2 y => ?_⟩
  obtain ⟨rfl, y⟩ := y
  have e2 := y vs h1
  rw [e1] at e2
  cases e2
  exact ⟨F1, Step.refl, o, Rep.mono s.fz d rv⟩
theorem itb_tup {a : Addr} {vs : List V} {ds : List D} (h : TpAt K F H a vs) (r : RepL K F H ds vs) : Itb K (Itt K a) ds F ρ H L := by
  intro F1 ρ1 H1 L1 s o i
  have h1 : SqT K H1 a vs := (h.mono s.fz).sq
  refine ⟨fun d e => ?_, fun hi => ⟨vs, h1, by rw [r.length]; exact hi⟩⟩
  obtain ⟨v, e1, rv⟩ := r.get e
  refine ⟨⟨vs, v, h1, e1⟩, fun x H2 y => ?_⟩
  obtain ⟨rfl, y⟩ := y
  have e2 := y vs h1
  rw [e1] at e2
  cases e2
  exact ⟨F1, Step.refl, o, Rep.mono s.fz d rv⟩
def rngD (lo : Int) (n : Nat) : List D := (List.range n).map fun (i : Nat) => .int (lo + i)
theorem itb_rng (lo : Int) (n : Nat) : Itb K (Itr lo n) (rngD lo n) F ρ H L := by
  intro F1 ρ1 H1 L1 s o i
  refine ⟨fun d e => ?_, fun hi => by show n ≤ i; simpa [rngD] using hi⟩
  have hi : i < n := by
    have := (List.getElem?_eq_some_iff.mp e).1
    simpa [rngD] using this
  have e2 : d = .int (lo + i) := by
    simp [rngD, hi] at e
    exact e.symm
  subst e2
  refine ⟨hi, fun x H2 y => ?_⟩
  obtain ⟨rfl, rfl⟩ := y
  exact ⟨F1, Step.refl, o, rfl⟩
def signsD (x : Str) : List D := x.cps.toList.map fun c => .str ⟨#[c]⟩
theorem itb_str (x : Str) : Itb K (Its x) (signsD x) F ρ H L := by
  intro F1 ρ1 H1 L1 s o i
  refine ⟨fun d e => ?_, fun hi => by show x.cps.size ≤ i; simpa [signsD] using hi⟩
  simp only [signsD, List.getElem?_map, Option.map_eq_some_iff] at e
  obtain ⟨c, e1, rfl⟩ := e
  have hi : i < x.cps.size := by
    have := (List.getElem?_eq_some_iff.mp e1).1
    simpa using this
  refine ⟨hi, fun y H2 q => ?_⟩
  obtain ⟨rfl, c2, e2, rfl⟩ := q
  have e3 : x.cps[i]? = some c := by simpa using e1
  rw [e3] at e2
  cases e2
  exact ⟨F1, Step.refl, o, rfl⟩
end
section
variable {X : Cx} {W : WX} {a b c e tg : Expr} {fa fb fc fe : EF} {pos : Pos}
/-- a list, a tuple, a text: it comes to rest as it is walked -/
def iSeq (fe : EF) : IF := fun st L => (fe st L).bind fun u L1 => opt (fzU L1 u) fun p => match p.1 with
  | .lst ds => .ok ds p.2
  | .tup ds => .ok ds p.2
  | .str x => .ok (signsD x) p.2
  | _ => .no
theorem ki_seq (he : KE X W e fe) : KI X W tg e (iSeq fe) := by
  refine ⟨fun pins s σ H R I ⟨F, ρ, L, st, o, r, h⟩ => ?_⟩
  refine thn (PE.run he pins s σ H _ I (RG.one (Q' := Nx RepU PIt X.K W σ F ρ H L R fun u L1 => opt (fzU L1 u) fun p => match p.1 with
    | .lst ds => .ok ds p.2
    | .tup ds => .ok ds p.2
    | .str x => .ok (signsD x) p.2
    | _ => .no) o r h fun x H1 F1 ρ1 L1 u s1 o1 r1 p1 h1 => ⟨F1, ρ1, L1, u, s1, o1, p1, h1⟩)) fun v s1 ⟨x, H1, I1, rx, F1, ρ1, L1, uu, st1, o1, p1, h1⟩ => ?_
  obtain ⟨⟨d, L2⟩, e1, h2⟩ := h1.opt
  obtain ⟨F2, s2, o2, q2⟩ := fzU_ok o1 p1 e1
  split at h2
  · rename_i ds hd
    have hd : d = .lst ds := hd
    subst hd
    obtain ⟨p, vs, rfl, ⟨f, g⟩, q⟩ := q2
    obtain rfl : v = Value.ref p := rx
    have qq := h2 F2 ρ1 H1 (Itl X.K p) s2 o2 (itb_list f g q)
    obtain ⟨its, rv, pl, hz⟩ := I1.list (.inl (.inl g))
    exact wpAny_pyIter_list pl.isList (pi_one (tk := s1.toks) I1 _ (turn_list p _) ⟨_, Heap.get?_push_size _ rfl, rfl, rfl⟩ qq)
  · rename_i ds hd
    have hd : d = .tup ds := hd
    subst hd
    obtain ⟨p, vs, rfl, g, q⟩ := q2
    obtain rfl : v = Value.ref p := rx
    have qq := h2 F2 ρ1 H1 (Itt X.K p) s2 o2 (itb_tup g q)
    obtain ⟨its, rv, pl, hz⟩ := I1.tuple g.sq
    exact wpAny_pyIter_tuple (show s1.heap.IsTuple p its.toArray from pl) (pi_one (tk := s1.toks) I1 _ (turn_tuple p _) ⟨_, Heap.get?_push_size _ rfl, rfl, rfl⟩ qq)
  · rename_i y hd
    have hd : d = .str y := hd
    subst hd
    cases q2
    obtain ⟨t, rfl⟩ := rx
    have qq := h2 F2 ρ1 H1 (Its y) s2 o2 (itb_str y)
    cases ha : y.cps.all (· < 128)
    · exact wpAny_pyIter_wide ha (pi_one (tk := s1.toks) I1 _ (turn_str _ y t "str_iterator" (.inr rfl)) ⟨_, Heap.get?_push_size _ rfl, rfl, rfl⟩ qq)
    · exact wpAny_pyIter_ascii ha (pi_one (tk := s1.toks) I1 _ (turn_str _ y t "str_ascii_iterator" (.inl rfl)) ⟨_, Heap.get?_push_size _ rfl, rfl, rfl⟩ qq)
  · exact h2.elim
def inRng (i : Int) : Bool := decide (-(2 ^ 62) ≤ i) && decide (i < 2 ^ 62)
def iRng1 (f : AF) : IF := fun st L => (f st L).bind fun us L1 => match us with
  | [.d (.int n)] => if inRng n then .ok (rngD 0 n.toNat) L1 else .no
  | _ => .no
def iRng2 (f : AF) : IF := fun st L => (f st L).bind fun us L1 => match us with
  | [.d (.int i), .d (.int n)] => if inRng i && inRng n then .ok (rngD i (n - i).toNat) L1 else .no
  | _ => .no
theorem inRng_of {i : Int} (h : inRng i = true) : -(2 ^ 62) ≤ i ∧ i < 2 ^ 62 := by
  simp only [inRng, Bool.and_eq_true, decide_eq_true_eq] at h
  exact h
theorem ki_range1 {f : AF} {p : Pos} (hm : X.mg "range" = none) (ha : KA X W [a] f) (hg : Gl X "range" := by rfl) (hs : starEach [a] X.env = [(false, eval a X.env)] := by rfl) : KI X W tg (.Call (.Name "range" p) [a] [] pos) (iRng1 f) := by
  refine pi_wk (pi_range1 hg hm ha hs) fun σ H R ⟨F, ρ, L, st, o, r, h⟩ => ?_
  refine RG.one (P := RepUs) o r h fun vs H1 F1 ρ1 L1 us s1 o1 r1 p1 h1 => ?_
  split at h1
  · rename_i n
    obtain ⟨v, t, rfl, q, e⟩ := p1
    cases e
    obtain rfl : v = .int n := q
    obtain ⟨hz, h1⟩ := ge_if h1
    exact ⟨n, rfl, (inRng_of hz).1, (inRng_of hz).2, h1.fin (P := PIt) o1 (itb_rng 0 n.toNat)⟩
  · exact h1.elim
theorem ki_range2 {f : AF} {p : Pos} (hm : X.mg "range" = none) (ha : KA X W [a, b] f) (hg : Gl X "range" := by rfl) (hs : starEach [a, b] X.env = [(false, eval a X.env), (false, eval b X.env)] := by rfl) (hs2 : starEach [b] X.env = [(false, eval b X.env)] := by rfl) : KI X W tg (.Call (.Name "range" p) [a, b] [] pos) (iRng2 f) := by
  refine pi_wk (pi_range2 hg hm ha hs hs2) fun σ H R ⟨F, ρ, L, st, o, r, h⟩ => ?_
  refine RG.one (P := RepUs) o r h fun vs H1 F1 ρ1 L1 us s1 o1 r1 p1 h1 => ?_
  split at h1
  · rename_i i n
    obtain ⟨v, t, rfl, q, v2, t2, rfl, q2, e⟩ := p1
    cases e
    obtain rfl : v = .int i := q
    obtain rfl : v2 = .int n := q2
    obtain ⟨hz, h1⟩ := ge_if h1
    obtain ⟨z1, z2⟩ := Bool.and_eq_true_iff.mp hz
    exact ⟨i, n, rfl, ⟨(inRng_of z1).1, (inRng_of z1).2, (inRng_of z2).1, (inRng_of z2).2⟩, h1.fin (P := PIt) o1 (itb_rng i (n - i).toNat)⟩
  · exact h1.elim

/-! ### for -/
def forF (tf : TgF) (body : SF) : List D → SF
  | [], st, L => .nx st L
  | d :: ds, st, L => optS (tf d st) fun st1 => match body st1 L with
    | .nx st2 L2 => forF tf body ds st2 L2
    | .ct st2 L2 => forF tf body ds st2 L2
    | .bk st2 L2 => .nx st2 L2
    | r => r
def sFor (fi : IF) (tf : TgF) (body : SF) : SF := fun st L => ofR (fi st L) st fun ds L1 => forF tf body ds st L1
theorem ks_for {iter : Expr} {body : List Stmt} {fi : IF} {is : List Nat} {tf : TgF} {fb : SF} (ps : PassesOwn (model X.prog X.w) X.A X.env X.xe) (hi : KI X W tg iter fi) (hg : KG X tg is tf) (hb : KSs X W body fb) (hc : X.calm = true := by rfl)
    (hs : ∀ x, foldedSetIterable iter X.env x = pure x := by intro _; rfl) : KS X W (.For tg iter body [] pos) (sFor fi tf fb) := by
  refine ps_wk (ps_for ps hc hi hg hb hs) fun D σ H ⟨F, ρ, L, st, o, r, h⟩ => ?_
  refine RS.one (P := PIt) o r h fun J H1 F1 ρ1 L1 ds s1 o1 r1 p1 h1 => ?_
  refine ⟨fun i m σ' H' => m = ds.length - i ∧ i ≤ ds.length ∧ ∃ F' ρ' L' st', Step F1 ρ1 H1 L1 F' ρ' H' L' ∧ Ok X.K F' ρ' H' L' ∧ RepSt X.K F' ρ' H' L' σ' st' ∧ GS X.K W D F' ρ' H' L' (forF tf fb (ds.drop i) st' L'), ⟨ds.length, by simp, Nat.zero_le _, F1, ρ1, L1, st, Step.refl, o1, r1, h1⟩, ?_⟩
  rintro i m σ2 H2 ⟨rfl, hi, F2, ρ2, L2, st2, s2, o2, r2, h2⟩
  obtain ⟨g1, g2⟩ := p1 F2 ρ2 H2 L2 s2 o2 i
  by_cases hlt : i < ds.length
  · have hd : ds[i]? = some ds[i] := by simp [hlt]
    obtain ⟨go, yl⟩ := g1 _ hd
    rw [List.drop_eq_getElem_cons hlt] at h2
    refine .inr ⟨go, fun σ' H' => ∃ F' ρ' L' st', Step F1 ρ1 H1 L1 F' ρ' H' L' ∧ Ok X.K F' ρ' H' L' ∧ RepSt X.K F' ρ' H' L' σ' st' ∧ GS X.K W D F' ρ' H' L' (forF tf fb (ds.drop (i + 1)) st' L'), fun σ' H' n => ⟨ds.length - (i + 1), by omega, rfl, hlt, n⟩, fun x H3 y => ?_⟩
    obtain ⟨F3, s3, o3, rx⟩ := yl x H3 y
    obtain ⟨st3, e3, h3⟩ := (GS.on s3 (show GS X.K W D F2 ρ2 H2 L2 (optS (tf ds[i] st2) _) from h2)).optS
    refine ⟨F3, ρ2, L2, st2, ds[i], st3, o3, r2.mono s3, rx, e3, fun σ4 r4 _ => ⟨F3, ρ2, L2, st3, o3, r4, ?_⟩⟩
    have s23 := s2.trans s3
    cases e : fb st3 L2 with
    | nx st5 L5 => rw [e] at h3; exact fun F5 ρ5 H5 σ5 s5 o5 r5 => ⟨F5, ρ5, L5, st5, s23.trans s5, o5, r5, GS.on s5 h3⟩
    | ct st5 L5 => rw [e] at h3; exact fun F5 ρ5 H5 σ5 s5 o5 r5 => ⟨F5, ρ5, L5, st5, s23.trans s5, o5, r5, GS.on s5 h3⟩
    | bk st5 L5 => rw [e] at h3; exact h3
    | rt u L5 => rw [e] at h3; exact h3
    | ex C ns xs st5 L5 => rw [e] at h3; exact h3
    | no => rw [e] at h3; exact h3
  · have e : i = ds.length := by omega
    subst e
    rw [List.drop_length] at h2
    exact .inl ⟨g2 (Nat.le_refl _), GS.nxt h2 o2 r2⟩

/-! ### while -/
def whileF (t : TF) (body : SF) : Nat → SF
  | 0, _, _ => .no
  | n + 1, st, L => ofR (t st L) st fun k L1 => if k then (match body st L1 with
    | .nx st2 L2 => whileF t body n st2 L2
    | .ct st2 L2 => whileF t body n st2 L2
    | .bk st2 L2 => .nx st2 L2
    | r => r) else .nx st L1
theorem ks_while (n : Nat) {body : List Stmt} {tc : TF} {fb : SF} (ps : PassesOwn (model X.prog X.w) X.A X.env X.xe) (hc : KB X W c tc) (hb : KSs X W body fb) : KS X W (.While c body [] pos) (whileF tc fb n) := by
  refine ps_wk (ps_while ps hc hb) fun D σ H ⟨F, ρ, L, st, o, r, h⟩ => ?_
  refine ⟨fun m σ' H' => ∃ F' ρ' L' st', Ok X.K F' ρ' H' L' ∧ RepSt X.K F' ρ' H' L' σ' st' ∧ GS X.K W D F' ρ' H' L' (whileF tc fb m st' L'), ⟨n, F, ρ, L, st, o, r, h⟩, ?_⟩
  rintro m σ2 H2 ⟨F2, ρ2, L2, st2, o2, r2, h2⟩
  cases m with
  | zero => exact h2.elim
  | succ m =>
    refine RS.one (P := PB) o2 r2 h2 fun k H3 F3 ρ3 L3 kk s3 o3 r3 p3 h3 => ?_
    obtain rfl : kk = k := p3
    cases kk with
    | false => exact iteF (GS.nxt h3 o3 r3)
    | true =>
      refine iteT ⟨fun σ' H' => ∃ F' ρ' L' st', Ok X.K F' ρ' H' L' ∧ RepSt X.K F' ρ' H' L' σ' st' ∧ GS X.K W D F' ρ' H' L' (whileF tc fb m st' L'), fun σ' H' n => ⟨m, Nat.lt_succ_self m, n⟩, F3, ρ3, L3, st2, o3, r3, ?_⟩
      cases e : fb st2 L3 with
      | nx st5 L5 => simp only [e, if_true] at h3; exact fun F5 ρ5 H5 σ5 s5 o5 r5 => ⟨F5, ρ5, L5, st5, o5, r5, GS.on s5 h3⟩
      | ct st5 L5 => simp only [e, if_true] at h3; exact fun F5 ρ5 H5 σ5 s5 o5 r5 => ⟨F5, ρ5, L5, st5, o5, r5, GS.on s5 h3⟩
      | bk st5 L5 => simp only [e, if_true] at h3; exact h3
      | rt u L5 => simp only [e, if_true] at h3; exact h3
      | ex C ns xs st5 L5 => simp only [e, if_true] at h3; exact h3
      | no => simp only [e, if_true] at h3; exact h3
end
end VL

set_option Elab.async false
set_option linter.all false
set_option maxRecDepth 100000
set_option maxHeartbeats 4000000
namespace VL
open PySem PySem.Spec PyProof.Rows L2
open PySem.W (Frag)

/-! ### a list that a comprehension fills: it is none of ours meanwhile -/
section
variable {K : Frag} {F0 F F' : Addr → Prop} {ρ0 ρ ρ' : Nat → Addr} {H0 H H' : Hp} {L0 L L' : LS} {p : Addr}
/-- p is no thing of ours -/
structure Apart (F : Addr → Prop) (ρ : Nat → Addr) (H : Hp) (L : LS) (p : Addr) : Prop where
  nf : ¬ F p
  nl : ¬ Lv ρ L p
theorem Apart.on (a : Apart F ρ H L p) (s : Step F ρ H L F' ρ' H' L') {u : HO} (h : H p = some u) : Apart F' ρ' H' L' p ∧ H' p = some u := by
  have hn : H p ≠ none := by rw [h]; simp
  refine ⟨⟨fun f => ?_, fun v => ?_⟩, s.keep p u h a.nl⟩
  · rcases s.fr p f with q | q | q
    · exact a.nf q
    · exact hn q
    · exact a.nl q
  · rcases s.lv v with q | q
    · exact hn q
    · exact a.nl q
theorem bump (o0 : Ok K F0 ρ0 H0 L0) (h0 : H0 p = none) (s : Step F0 ρ0 H0 L0 F ρ H L) (o : Ok K F ρ H L) (a : Apart F ρ H L p) (u : HO) : (∀ a, F a → F a ∧ upd H p u a = H a) ∧ Step F0 ρ0 H0 L0 F ρ (upd H p u) L ∧ Ok K F ρ (upd H p u) L := by
  have k : ∀ a, F a → F a ∧ upd H p u a = H a := fun x f => ⟨f, upd_ne fun z => a.nf (z ▸ f)⟩
  refine ⟨k, ⟨fun x f => ⟨(s.fz x f).1, by rw [(k x (s.fz x f).1).2]; exact (s.fz x f).2⟩, s.len, s.same, fun x w e hv => ?_, s.new, s.off, fun x e => ?_, s.fr⟩, ⟨fun m lo q => ?_, o.inj, fun x f => by rw [(k x f).2]; exact o.stands x f⟩⟩
  · rw [upd_ne (ne_of_none e h0)]; exact s.keep x w e hv
  · by_cases z : x = p
    · subst z; exact h0
    · rw [upd_ne z] at e; exact s.trk x e
  · have h := o.at_ m lo q
    have ne : lo.on = true → ρ m ≠ p := fun t z => a.nl ⟨m, lo, q, t, z⟩
    cases lo with
    | l xs => obtain ⟨f, vs, h1, h2⟩ := h; exact ⟨f, vs, by rw [upd_ne (ne rfl)]; exact h1, RepL.mono k xs h2⟩
    | d ks xs => obtain ⟨f, vs, h1, h2, h3⟩ := h; exact ⟨f, vs, by rw [upd_ne (ne rfl)]; exact h1, h2, RepL.mono k xs h3⟩
    | t ks xs => obtain ⟨f, vs, h1, h2, h3⟩ := h; exact ⟨f, vs, by rw [upd_ne (ne rfl)]; exact h1, h2, RepL.mono k xs h3⟩
    | i C ns xs => obtain ⟨f, dx, fs, h1, oc, h2, h3⟩ := h; exact ⟨f, dx, fs, by rw [upd_ne (ne rfl)]; exact h1, oc, h2, RepL.mono k xs h3⟩
    | z d => exact Rep.mono k d h
/-- it comes to be ours, at rest -/
theorem adopt (h0 : H0 p = none) (s : Step F0 ρ0 H0 L0 F ρ H L) (o : Ok K F ρ H L) (a : Apart F ρ H L p) {u : HO} (h : H p = some u) : (∀ a, F a → F1 F p a ∧ H a = H a) ∧ Step F0 ρ0 H0 L0 (F1 F p) ρ H L ∧ Ok K (F1 F p) ρ H L := by
  have k : ∀ a, F a → F1 F p a ∧ H a = H a := fun x f => ⟨.inl f, rfl⟩
  refine ⟨k, ⟨fun x f => ⟨.inl (s.fz x f).1, (s.fz x f).2⟩, s.len, s.same, s.keep, s.new, s.off, s.trk, fun x f => f.elim (s.fr x) fun z => .inr (.inl (z ▸ h0))⟩, ⟨fun m lo q => ?_, o.inj, fun x f => f.elim (o.stands x) fun z => by rw [z, h]; simp⟩⟩
  have hh := o.at_ m lo q
  have ne : lo.on = true → ρ m ≠ p := fun t z => a.nl ⟨m, lo, q, t, z⟩
  cases lo with
  | l xs => obtain ⟨f, vs, h1, h2⟩ := hh; exact ⟨fun z => z.elim f (ne rfl), vs, h1, RepL.mono k xs h2⟩
  | d ks xs => obtain ⟨f, vs, h1, h2, h3⟩ := hh; exact ⟨fun z => z.elim f (ne rfl), vs, h1, h2, RepL.mono k xs h3⟩
  | t ks xs => obtain ⟨f, vs, h1, h2, h3⟩ := hh; exact ⟨fun z => z.elim f (ne rfl), vs, h1, h2, RepL.mono k xs h3⟩
  | i C ns xs => obtain ⟨f, dx, fs, h1, oc, h2, h3⟩ := hh; exact ⟨fun z => z.elim f (ne rfl), dx, fs, h1, oc, h2, RepL.mono k xs h3⟩
  | z d => exact Rep.mono k d hh
end

/-! ### [e for target in iter if test] -/
def wipeS (st : SS) : List Nat → SS
  | [] => st
  | v :: vs => (wipeS st vs).set v none
theorem RepSt.wipe {K : Frag} {F : Addr → Prop} {ρ : Nat → Addr} {H : Hp} {L : LS} {σ : L2.St} {st : SS} (r : RepSt K F ρ H L σ st) : ∀ vs : List Nat, RepSt K F ρ H L (L2.wipe σ vs) (wipeS st vs)
  | [] => r
  | v :: vs => by
    have q := RepSt.wipe r vs
    refine ⟨by show ((L2.wipe σ vs).set v none).length = ((wipeS st vs).set v none).length; simp [q.len], fun i u e => ?_⟩
    have e : ((wipeS st vs).set v none)[i]? = some (some u) := e
    show ∃ w, ((L2.wipe σ vs).set v none)[i]? = some (some w) ∧ _
    by_cases hv : i = v
    · subst hv
      by_cases hl : i < (wipeS st vs).length
      · rw [List.getElem?_set_self hl] at e; cases e
      · rw [List.getElem?_eq_none (by simpa using hl)] at e; cases e
    · rw [List.getElem?_set_ne (Ne.symm hv)] at e ⊢
      exact q.at_ i u e
/-- within a comprehension nothing is raised -/
abbrev Wn : WX := fun _ _ _ _ => False
def bindN {α β : Type} : Rs α → (α → LS → Rs β) → Rs β
  | .ok a L, g => g a L
  | _, _ => .no
@[simp] theorem bindN_ok {α β : Type} (a : α) (L : LS) (g : α → LS → Rs β) : bindN (.ok a L) g = g a L := rfl
def compF (tf : TgF) (tt : TF) (fe : EF) (st : SS) : List D → List D → LS → Rs (List D)
  | [], acc, L => .ok acc L
  | d :: ds, acc, L => opt (tf d st) fun st1 => bindN (tt st1 L) fun k L1 => if k then bindN (fe st1 L1) fun u L2 => opt (fzU L2 u) fun p => if acc.length < big then compF tf tt fe st ds (acc ++ [p.1]) p.2 else .no else compF tf tt fe st ds acc L1
def eComp (fi : IF) (vs : List Nat) (tf : TgF) (tt : TF) (fe : EF) : EF := fun st L => (fi st L).bind fun ds L1 => (compF tf tt fe (wipeS st vs) ds [] L1).bind fun xs L2 => .ok (.d (.lst xs)) L2
theorem ge_bindN {α γ β δ : Type} {P : PP γ δ} {K : Frag} {W : WX} {σ : L2.St} {F : Addr → Prop} {ρ : Nat → Addr} {H : Hp} {L : LS} {Q : δ → Hp → Prop} {x : Rs α} {g : α → LS → Rs β} {h : β → LS → Rs γ} (q : GE P K W σ F ρ H L Q ((bindN x g).bind h)) : ∃ a L1, x = .ok a L1 ∧ GE P K W σ F ρ H L Q ((g a L1).bind h) := by
  cases x with
  | ok a L1 => exact ⟨a, L1, rfl, q⟩
  | ex C ns xs L1 => exact q.elim
  | no => exact q.elim
theorem ge_optB {α γ β δ : Type} {P : PP γ δ} {K : Frag} {W : WX} {σ : L2.St} {F : Addr → Prop} {ρ : Nat → Addr} {H : Hp} {L : LS} {Q : δ → Hp → Prop} {x : Option α} {g : α → Rs β} {h : β → LS → Rs γ} (q : GE P K W σ F ρ H L Q ((opt x g).bind h)) : ∃ a, x = some a ∧ GE P K W σ F ρ H L Q ((g a).bind h) := by
  cases x with
  | some a => exact ⟨a, rfl, q⟩
  | none => exact q.elim
theorem ge_ifB {γ β δ : Type} {P : PP γ δ} {K : Frag} {W : WX} {σ : L2.St} {F : Addr → Prop} {ρ : Nat → Addr} {H : Hp} {L : LS} {Q : δ → Hp → Prop} {c : Prop} [Decidable c] {x : Rs β} {h : β → LS → Rs γ} (q : GE P K W σ F ρ H L Q ((if c then x else .no).bind h)) : c ∧ GE P K W σ F ρ H L Q (x.bind h) := by
  by_cases hc : c
  · rw [if_pos hc] at q; exact ⟨hc, q⟩
  · rw [if_neg hc] at q; exact q.elim
theorem comp_read {K : Frag} {W : WX} {fi : IF} {vs : List Nat} {tf : TgF} {tt : TF} {fe : EF} {σ : L2.St} {H : Hp} {Q : VK} (h : RG RepU K W (eComp fi vs tf tt fe) σ H Q) :
    tLc (RG PIt K W fi) (RT K vs tf) (RG PB K Wn tt) (RG RepU K Wn fe) vs σ H Q := by
  obtain ⟨F, ρ, L, st, o, r, h⟩ := h
  refine RG.one (P := PIt) o r h fun J H1 F1 ρ1 L1 ds s1 o1 r1 p1 h1 D hD => ?_
  refine ⟨fun i m H' => m = ds.length - i ∧ i ≤ ds.length ∧ ∃ F' ρ' L' acc va, Step F1 ρ1 H1 L1 F' ρ' H' L' ∧ Ok K F' ρ' H' L' ∧ Apart F' ρ' H' L' D ∧ H' D = some (.lst va) ∧ RepL K F' H' acc va ∧
    GE RepU K W σ F1 ρ1 H1 L1 Q ((compF tf tt fe (wipeS st vs) (ds.drop i) acc L').bind fun xs M2 => .ok (.d (.lst xs)) M2), ⟨ds.length, by simp, Nat.zero_le _, ?_⟩, ?_⟩
  · have ap : Apart F1 ρ1 H1 L1 D := by
      refine ⟨nF o1 hD, fun ⟨n, lo, e, t, z⟩ => ?_⟩
      have h := o1.at_ n lo e
      cases lo with
      | l xs => obtain ⟨_, vs, h1, _⟩ := h; rw [z, hD] at h1; cases h1
      | d ks xs => obtain ⟨_, vs, h1, _⟩ := h; rw [z, hD] at h1; cases h1
      | t ks xs => obtain ⟨_, vs, h1, _⟩ := h; rw [z, hD] at h1; cases h1
      | i C ns xs => obtain ⟨_, dx, fs, h1, _⟩ := h; rw [z, hD] at h1; cases h1
      | z d => cases t
    obtain ⟨_, s2, o2⟩ := bump o1 hD Step.refl o1 ap (.lst [])
    exact ⟨F1, ρ1, L1, [], [], s2, o2, ⟨ap.nf, ap.nl⟩, upd_same, rfl, h1⟩
  · rintro i m H2 ⟨rfl, hi, F2, ρ2, M2, acc, va, s2, o2, ap2, hd2, ra2, h2⟩
    obtain ⟨g1, g2⟩ := p1 F2 ρ2 H2 M2 s2 o2 i
    by_cases hlt : i < ds.length
    · have hdi : ds[i]? = some ds[i] := by simp [hlt]
      obtain ⟨go, yl⟩ := g1 _ hdi
      rw [List.drop_eq_getElem_cons hlt] at h2
      obtain ⟨st3, e3, h3⟩ := ge_optB h2
      refine .inr ⟨go, fun H' => ∃ F' ρ' L' acc va, Step F1 ρ1 H1 L1 F' ρ' H' L' ∧ Ok K F' ρ' H' L' ∧ Apart F' ρ' H' L' D ∧ H' D = some (.lst va) ∧ RepL K F' H' acc va ∧
        GE RepU K W σ F1 ρ1 H1 L1 Q ((compF tf tt fe (wipeS st vs) (ds.drop (i + 1)) acc L').bind fun xs M2 => .ok (.d (.lst xs)) M2), fun H' n => ⟨ds.length - (i + 1), by omega, rfl, hlt, n⟩, fun x H3 y => ?_⟩
      obtain ⟨F3, s3, o3, rx⟩ := yl x H3 y
      obtain ⟨ap3, hd3⟩ := ap2.on s3 hd2
      have r3 : RepSt K F3 ρ2 H3 M2 (L2.wipe σ vs) (wipeS st vs) := ((r1.wipe vs).mono s2).mono s3
      refine ⟨F3, ρ2, M2, wipeS st vs, ds[i], st3, o3, r3, rx, e3, fun σ4 r4 w4 => ⟨?_, F3, ρ2, M2, st3, o3, r4, ?_⟩⟩
      · have ww : ∀ (τ : L2.St) (us : List Nat), L2.wipe (L2.wipe τ us) us = L2.wipe τ us := by
          intro τ us
          induction us with
          | nil => rfl
          | cons u us ih =>
            show (L2.wipe ((L2.wipe τ us).set u none) us).set u none = (L2.wipe τ us).set u none
            rw [← wipe_set, ih]
            simp
        rw [w4, ww]
      · obtain ⟨k, L4, e4, h4⟩ := ge_bindN h3
        rw [e4]
        intro F4 ρ4 H4 b s4 o4 pb
        obtain rfl : k = b := pb
        obtain ⟨ap4, hd4⟩ := ap3.on s4 hd3
        have s14 := (s2.trans s3).trans s4
        have ra4 := RepL.mono s4.fz acc (RepL.mono s3.fz acc ra2)
        cases k with
        | false => exact iteF ⟨F4, ρ4, L4, acc, va, s14, o4, ap4, hd4, ra4, h4⟩
        | true =>
          refine iteT ⟨F4, ρ4, L4, st3, o4, r4.mono s4, ?_⟩
          obtain ⟨u, L5, e5, h5⟩ := ge_bindN h4
          rw [e5]
          intro F5 ρ5 H5 yv s5 o5 p5
          obtain ⟨ap5, hd5⟩ := ap4.on s5 hd4
          obtain ⟨⟨d6, L6⟩, e6, h6⟩ := ge_optB h5
          obtain ⟨hz, h6⟩ := ge_ifB h6
          obtain ⟨F6, s6, o6, q6⟩ := fzU_ok o5 p5 e6
          obtain ⟨ap6, hd6⟩ := ap5.on s6 hd5
          have ra6 := RepL.mono s6.fz acc (RepL.mono s5.fz acc ra4)
          refine ⟨va, hd6, by rw [big_eq, ra6.length]; exact hz, ?_⟩
          obtain ⟨k7, s7, o7⟩ := bump o1 hD ((s14.trans s5).trans s6) o6 ap6 (.lst (va ++ [yv]))
          exact ⟨F6, ρ5, L6, acc ++ [d6], va ++ [yv], s7, o7, ⟨ap6.nf, ap6.nl⟩, upd_same, RepL.mono k7 _ (ra6.append (RepL.one q6)), h6⟩
    · have e : i = ds.length := by omega
      subst e
      rw [List.drop_length] at h2
      refine .inl ⟨g2 (Nat.le_refl _), ?_⟩
      obtain ⟨k3, s3, o3⟩ := adopt hD s2 o2 ap2 hd2
      exact h2 _ _ _ _ s3 o3 (show Rep K (VL.F1 F2 D) H2 (.lst acc) (.ref D) from ⟨D, va, rfl, ⟨.inr rfl, hd2⟩, RepL.mono k3 acc ra2⟩)
abbrev KTs (X : Cx) (W : WX) (ifs : List Expr) (f : TF) : Prop := PTs X ifs (RG PB X.K W f)
theorem pts_wk {X : Cx} {ifs : List Expr} {t t' : TT} (h : PTs X ifs t) (i : ∀ σ H Q, t' σ H Q → t σ H Q) : PTs X ifs t' := ⟨fun pins s σ H Q I q => h.run pins s σ H Q I (i σ H Q q)⟩
def tYesF : TF := fun _ L => .ok true L
theorem kts_nil {X : Cx} {W : WX} : KTs X W [] tYesF := pts_wk pts_nil fun σ H Q ⟨F, ρ, L, st, o, r, h⟩ => h F ρ H true Step.refl o rfl
theorem kts_one {X : Cx} {W : WX} {c : Expr} {tc : TF} (h : KB X W c tc) : KTs X W [c] tc := pts_one h
section
variable {X : Cx} {W : WX} {elt tg iter : Expr} {ifs : List Expr} {scope : Scope} {own : List (Str × Nat)} {pos : Pos} {fi : IF} {tf : TgF} {tt : TF} {fe : EF} {is : List Nat}
theorem ke_comp (hN : X.N.Nodup) (hi : KI X W tg iter fi) (ok : BlkOk X.N X.env.scope scope own)
    (hg : ∀ (s : Shared) (H : Hp) (C : Addr) (cl : List (Str × Addr)) (fp : List Addr), KG (X.blk s H scope (compEnvC scope cl C X.env) fp) tg is tf)
    (ht : ∀ (s : Shared) (H : Hp) (C : Addr) (cl : List (Str × Addr)) (fp : List Addr), KTs (X.blk s H scope (compEnvC scope cl C X.env) fp) Wn ifs tt)
    (he : ∀ (s : Shared) (H : Hp) (C : Addr) (cl : List (Str × Addr)) (fp : List Addr), KE (X.blk s H scope (compEnvC scope cl C X.env) fp) Wn elt fe)
    (hv : own.map (·.2) = is := by rfl) (hc : X.calm = true := by rfl) (hs : ∀ x, foldedSetIterable iter X.env x = pure x := by intro _; rfl) :
    KE X W (.ListComp elt [⟨tg, iter, ifs, 0⟩] scope pos) (eComp fi is tf tt fe) := by
  subst hv
  exact pe_wk (pe_lc hc hN hi ok hg ht he hs) fun σ H Q h => comp_read h
theorem ks_setComp (i : Nat) {y : Str} {py spos : Pos} (hN : X.N.Nodup) (hi : KI X W tg iter fi) (ok : BlkOk X.N X.env.scope scope own)
    (hg : ∀ (s : Shared) (H : Hp) (C : Addr) (cl : List (Str × Addr)) (fp : List Addr), KG (X.blk s H scope (compEnvC scope cl C X.env) fp) tg is tf)
    (ht : ∀ (s : Shared) (H : Hp) (C : Addr) (cl : List (Str × Addr)) (fp : List Addr), KTs (X.blk s H scope (compEnvC scope cl C X.env) fp) Wn ifs tt)
    (he : ∀ (s : Shared) (H : Hp) (C : Addr) (cl : List (Str × Addr)) (fp : List Addr), KE (X.blk s H scope (compEnvC scope cl C X.env) fp) Wn elt fe)
    (hsw : swapsWith (.ListComp elt [⟨tg, iter, ifs, 0⟩] scope pos) (some (.Name y py)) spos.line X.env = pure true := by exact sw_true rfl rfl rfl (by decide +kernel))
    (hv : own.map (·.2) = is := by rfl) (hy : X.N[i]? = some y := by rfl) (hyl : X.env.scope.names.lookup y = some .local := by rfl) (hc : X.calm = true := by rfl) (hs : ∀ x, foldedSetIterable iter X.env x = pure x := by intro _; rfl) :
    KS X W (.Assign [.Name y py] (.ListComp elt [⟨tg, iter, ifs, 0⟩] scope pos) spos) (sSet i (eComp fi is tf tt fe)) := by
  subst hv
  refine ps_wk (ps_setLc (g := RT X.K (own.map (·.2)) tf) (tt := RG PB X.K Wn tt) (te := RG RepU X.K Wn fe) hc hN hy hyl hsw hi ok hg ht he hs) fun D σ H ⟨F, ρ, L, st, o, r, h⟩ => ?_
  refine comp_read ?_
  refine RS.one o r h fun x H1 F1 ρ1 L1 u s1 o1 r1 p1 h1 => ?_
  exact h1.nxt o1 (r1.set i p1)
end
end VL

set_option Elab.async false
set_option linter.all false
set_option maxRecDepth 100000
set_option maxHeartbeats 4000000
namespace VL
open PySem PySem.Spec PyProof.Rows L2
open PySem.W (Frag)

/-! ### instances of own classes -/
section
variable {K : Frag} {F : Addr → Prop} {ρ : Nat → Addr} {H : Hp} {L : LS}
theorem apart_none (o : Ok K F ρ H L) {p : Addr} (hp : H p = none) : Apart F ρ H L p := by
  refine ⟨nF o hp, fun ⟨n, lo, e, t, z⟩ => ?_⟩
  have h := o.at_ n lo e
  cases lo with
  | l xs => obtain ⟨_, vs, h1, _⟩ := h; rw [z, hp] at h1; cases h1
  | d ks xs => obtain ⟨_, vs, h1, _⟩ := h; rw [z, hp] at h1; cases h1
  | t ks xs => obtain ⟨_, vs, h1, _⟩ := h; rw [z, hp] at h1; cases h1
  | i C ns xs => obtain ⟨_, dx, fs, h1, _⟩ := h; rw [z, hp] at h1; cases h1
  | z d => cases t
/-- a new instance -/
theorem made_ok (o : Ok K F ρ H L) {C x dx : Addr} (oc : OwnC K C) (hx : H x = none) (hd : H dx = none) (ne : dx ≠ x) :
    ∃ ρ', ρ' L.length = x ∧ Step F ρ H L F ρ' (upd (upd H dx (.own x)) x (.ins C dx [])) (L ++ [.i C [] []]) ∧ Ok K F ρ' (upd (upd H dx (.own x)) x (.ins C dx [])) (L ++ [.i C [] []]) := by
  obtain ⟨k1, s1, o1⟩ := bump o hd Step.refl o (apart_none o hd) (.own x)
  have hx1 : upd H dx (.own x) x = none := by rw [upd_ne (Ne.symm ne)]; exact hx
  obtain ⟨s2, o2⟩ := live_ok o1 hx1 (u := .ins C dx []) (lo := .i C [] []) rfl ⟨nF o1 hx1, dx, [], upd_same, oc, rfl, rfl⟩
  exact ⟨ρ1 ρ L x, if_pos rfl, s1.trans s2, o2⟩
end
section
variable {X : Cx} {W : WX}
/-- the class is called -/
theorem run_mk {k : Nat} {C f : Addr} {fd : FuncData} {ps ks : List Str} {m : FF} {src : List Sr} {n : Nat} {pins : List (Addr × Obj)} {σ : L2.St} {H : Hp} {s : Shared} {Q : VK} {F : Addr → Prop} {ρ : Nat → Addr} {L : LS} {us ws : List U} {vs zs : List V} {uv wv : List Value}
    (M : Mk X.K C f) (oc : OwnC X.K C) (G : KFn X.prog X.w X.K X.mg X.base k f fd ps m) (hr : Rm (k + 1) X.A) (hb : Bk X.K fd ps (n + 1) ks src) (tk : Takes X W) (I : Inv X pins σ H s) (o : Ok X.K F ρ H L) (r1 : RepUs X.K F ρ H L us vs) (r2 : RepUs X.K F ρ H L ws zs) (v1 : Vals vs uv) (v2 : Vals zs wv)
    (hn : us.length = n) (hks : ws.length = ks.length) (h : GE RepU X.K W σ F ρ H L Q (opt (arrU (.l L.length :: us) ws src) fun xs => (m xs (L ++ [.i C [] []])).bind fun u L2 => (match u with
      | .d .non => .ok (.l L.length) L2
      | _ => .no))) : wpAny (model X.prog X.w) X.A (call (.ref C) uv (ks.zip wv)) (EP X pins σ Q) X.xe s := by
  have hx := I.hok.fresh (Nat.le_succ s.heap.objs.size)
  have hd := I.hok.fresh (Nat.le_refl s.heap.objs.size)
  have ne : s.heap.objs.size ≠ s.heap.objs.size + 1 := Nat.ne_of_lt (Nat.lt_succ_self _)
  have I2 := Inv.made (C := C) I
  obtain ⟨ρ', ex, s1, o1⟩ := made_ok o oc hx hd ne
  obtain ⟨xs, e1, h⟩ := h.opt
  have h := GE.on s1 h
  obtain ⟨out, bd, pr⟩ := hb.bind { s with heap := (s.heap.push PySem.W.emptyDict).push (PySem.W.instObj C s.heap.objs.size) } (.ref (s.heap.objs.size + 1) :: uv) wv I2.kIn (by rw [List.length_cons, ← v1.length, r1.length]; exact congrArg Nat.succ hn) (by rw [← v2.length, r2.length]; exact hks)
  have q0 : RepUs X.K F ρ' _ (L ++ [.i C [] []]) (.l L.length :: us) (.ref (s.heap.objs.size + 1) :: vs) := ⟨_, _, rfl, ⟨by simp, by rw [ex]⟩, r1.mono s1⟩
  obtain ⟨ys, q1, q2⟩ := arr_ok q0 (r2.mono s1) (.cons rfl v1) v2 pr e1
  have hlen : xs.length = ps.length := by
    rw [← q1.length, q2.length, ← Paired.length pr]; exact hb.len
  refine wpAny_call (make_map (f := f) I.kIn M.makes M.init (beq_iff_eq.mp M.fn) (codeAny_mono (G.run _ X.stack _ _ ⟨Value.ref (s.heap.objs.size + 1) :: uv, ks.zip wv⟩ out ys (fun v H2 => v = .non ∧ Q (.ref (s.heap.objs.size + 1)) H2) (fun c d H' => W c d σ H') (hr.make C uv (ks.zip wv)) (I2.env0.make C uv (ks.zip wv)) bd q2 ⟨F, ρ', _, xs, o1, q1, hlen, ?_⟩) fun r s' hq => ?_))
  · cases e : m xs (L ++ [.i C [] []]) with
    | ok a L' =>
      rw [e] at h
      clear e
      dsimp only [Rs.bind] at h
      intro F2 ρ2 H2 b s2 o2 p2
      split at h
      · obtain rfl : b = .non := p2
        refine ⟨rfl, h F2 ρ2 H2 _ s2 o2 ⟨by have := s2.len; simp at this; omega, ?_⟩⟩
        rw [s2.same _ (by simp), ex]
      · exact h.elim
    | ex C ns ds L' => rw [e] at h; exact h
    | no => rw [e] at h; exact h
  · cases r with
    | error x => exact tk x s' (XE.of_call I2 (fun _ _ _ z => z) hq)
    | ok fl =>
      cases fl with
      | ret u =>
        obtain ⟨v, H', I3, rv, ev, q3⟩ := I2.after hq
        subst ev
        exact ⟨rv, ⟨V.ref (s.heap.objs.size + 1), H', I3, rfl, q3⟩⟩
      | next => exact False.elim hq
      | brk => exact False.elim hq
      | cont => exact False.elim hq
/-- C(..), the instance may change further -/
def mkF (C : Addr) (m : FF) (src : List Sr) (n l : Nat) (p : List U × List U) (L1 : LS) : Rs U := if p.1.length = n ∧ p.2.length = l then opt (arrU (.l L1.length :: p.1) p.2 src) fun xs => (m xs (L1 ++ [.i C [] []])).bind fun u L2 => (match u with
      | .d .non => .ok (.l L1.length) L2
      | _ => .no) else .no
def eMake (C : Addr) (m : FF) (src : List Sr) (n l : Nat) (fa : CF) : EF := fun st L => (fa st L).bind fun p L1 => mkF C m src n l p L1
theorem ke_make {x : Str} {k : Nat} {C f : Addr} {fd : FuncData} {ps ks : List Str} {m : FF} {src : List Sr} {n : Nat} {args : List Expr} {kws : List Keyword} {fa : CF} {p pos : Pos} (tk : Takes X W) (hr : Rm (k + 1) X.A) (M : Mk X.K C f) (oc : OwnC X.K C) (G : KFn X.prog X.w X.K X.mg X.base k f fd ps m) (hb : Bk X.K fd ps (n + 1) ks src)
    (hm : X.mg x = some (.ref C)) (ha : KC X W args kws ks fa) {l : Nat} (hl : ks.length = l := by rfl) (hg : Gl X x := by rfl) (hdb : (x == ("__debug__" : Str)) = false := by decide) : KE X W (.Call (.Name x p) args kws pos) (eMake C m src n l fa) := by
  subst hl
  refine ⟨fun pins s σ H Q I ⟨F, ρ, L, st, o, r, h⟩ => ?_⟩
  refine wpAny_Call_Name_kw (ld_glob I hg hm ?_ hdb)
  refine ha pos (.ref C) [] pins s σ H _ M.kp I (RG.one (P := PUU) o r h fun b H1 F1 ρ1 L1 a s1 o1 r1 p1 h1 s2 us ws I2 v1 v2 => ?_)
  unfold mkF at h1
  obtain ⟨hc, h1⟩ := ge_if h1
  exact run_mk M oc G hr hb tk I2 o1 p1.1 p1.2 v1 v2 hc.1 hc.2 h1
/-- a value comes to rest, what was made on the way is left alone -/
def eRest (fe : EF) : EF := fun st L => (fe st L).bind fun u L1 => opt (fzU L1 u) fun p => .ok (.d p.1) (p.2.take L.length)
theorem ke_rest {e : Expr} {fe : EF} (he : KE X W e fe) : KE X W e (eRest fe) := by
  refine pe_wk he fun σ H Q ⟨F, ρ, L, st, o, r, h⟩ => ?_
  refine ⟨F, ρ, L, st, o, r, ?_⟩
  unfold eRest at h
  cases e1 : fe st L with
  | ok u L1 =>
    rw [e1] at h
    obtain ⟨⟨d, L2⟩, e2, h⟩ := GE.opt (x := fzU L1 u) h
    intro F1 ρ1 H1 b s1 o1 p1
    obtain ⟨F2, s2, o2, p2⟩ := fzU_ok o1 p1 e2
    obtain ⟨s3, o3⟩ := cut_ok (s1.trans s2) o2
    exact h F2 ρ1 H1 b s3 o3 p2
  | ex C ns xs L1 => rw [e1] at h; exact h
  | no => rw [e1] at h; exact h
end

/-! ### o.f = e, on an instance that still changes -/
def putN : Str → D → List Str → List D → List Str × List D
  | f, y, n :: ns, x :: xs => if n = f then (n :: ns, y :: xs) else ((n :: (putN f y ns xs).1), (x :: (putN f y ns xs).2))
  | f, y, _, _ => ([f], [y])
theorem putN_ok {K : Frag} {F : Addr → Prop} {H : Hp} {f : Str} {y : D} {v : V} (hy : Rep K F H y v) : ∀ (fs : List (Str × V)) {ns : List Str} {xs : List D}, fs.map (·.1) = ns → RepL K F H xs (fs.map (·.2)) →
    (putF f v fs).map (·.1) = (putN f y ns xs).1 ∧ RepL K F H (putN f y ns xs).2 ((putF f v fs).map (·.2))
  | [], _, xs, rfl, r => by
    cases xs with
    | nil => exact ⟨rfl, RepL.one hy⟩
    | cons x xs => obtain ⟨_, _, e, _⟩ := r; cases e
  | (g, w) :: fs, _, xs, rfl, r => by
    cases xs with
    | nil => cases r
    | cons x xs =>
      obtain ⟨v1, vr, e, q1, q2⟩ := r
      cases e
      obtain ⟨i1, i2⟩ := putN_ok hy fs rfl q2
      by_cases h : g = f
      · subst h
        simp only [List.map_cons, putN, if_true]
        rw [show putF g v ((g, w) :: fs) = (g, v) :: fs by simp [putF]]
        exact ⟨rfl, ⟨_, _, rfl, hy, q2⟩⟩
      · simp only [List.map_cons, putN, if_neg h]
        rw [show putF f v ((g, w) :: fs) = (g, w) :: putF f v fs by simp [putF, h]]
        exact ⟨by rw [List.map_cons, i1], ⟨_, _, rfl, q1, i2⟩⟩
def putFld (Cs : List Addr) (f : Str) (ou vu : U) (L : LS) : Option LS := match ou with
  | .l n => (fzU L vu).bind fun p => (match p.2[n]? with
    | some (.i C ns xs) => if ns.length < 1000 ∧ C ∈ Cs then some (p.2.set n (.i C (putN f p.1 ns xs).1 (putN f p.1 ns xs).2)) else none
    | _ => none)
  | _ => none
def sFld (Cs : List Addr) (f : Str) (fo fe : EF) : SF := fun st L => ofR (fe st L) st fun v L1 => ofR (fo st L1) st fun ou L2 => optS (putFld Cs f ou v L2) fun L3 => .nx st L3
section
variable {X : Cx} {W : WX} {o e : Expr} {fo fe : EF} {pos pos' : Pos} {f : Str}
theorem ks_fld {Cs : List Addr} (na : ∀ C ∈ Cs, NoAttr X.K C f) (ho : KE X W o fo) (he : KE X W e fe) (hs : swapsWith e (some (.Attribute o f pos')) pos.line X.env = pure false := by rfl) :
    KS X W (.Assign [.Attribute o f pos'] e pos) (sFld Cs f fo fe) := by
  refine ps_wk (ps_fld ho he hs) fun D σ H ⟨F, ρ, L, st, o, r, h⟩ => ?_
  refine RS.one o r h fun x H1 F1 ρ1 L1 u s1 o1 r1 p1 h1 => ?_
  refine RS.one o1 r1 h1 fun y H2 F2 ρ2 L2 u2 s2 o2 r2 p2 h2 => ?_
  obtain ⟨L3, e3, h2⟩ := h2.optS
  cases u2 with
  | d x => cases e3
  | l n =>
    unfold putFld at e3
    obtain ⟨⟨d, L4⟩, e4, e3⟩ := Option.bind_eq_some_iff.mp e3
    obtain ⟨F4, s4, o4, p4⟩ := fzU_ok o2 (p1.mono s2) e4
    split at e3
    · rename_i C ns xs hl
      split at e3
      · rename_i hz
        cases e3
        obtain ⟨nf, dx, fs, g1, oc, g2, g3⟩ := o4.at_ n _ hl
        obtain ⟨_, rfl⟩ := p2.mono s4
        refine ⟨ρ2 n, C, dx, fs, rfl, g1, oc.cl, na C hz.2, by have := hz.1; rw [← g2] at this; simpa using this, ?_⟩
        obtain ⟨s6, o6⟩ := put_live (u := .ins C dx (putF f x fs)) (lo' := .i C (putN f d ns xs).1 (putN f d ns xs).2) o4 hl rfl rfl fun kk nf => ⟨nf, dx, _, upd_same, oc, putN_ok (Rep.mono kk d p4) fs g2 (RepL.mono kk _ g3)⟩
        exact h2 F4 ρ2 _ σ (s4.trans s6) o6 ((r2.mono s4).mono s6)
      · cases e3
    · cases e3
end
end VL

set_option Elab.async false
set_option linter.all false
set_option maxRecDepth 100000
set_option maxHeartbeats 4000000
namespace VL
open PySem PySem.Spec PyProof.Rows L2
open PySem.W (Frag)

theorem Rm.in1 {k : Nat} {A : Around} (r : Rm (k + 1) A) : Rm k A.in1 := ⟨r.rm.in1, r.gd⟩
/-! ### special names of own classes -/
section
variable {K : Frag} {prog : Program} {w : World} {A : Around} {E : Value → Shared → Prop} {s : Shared} {a C f : Addr} {ox : Obj} {od : Option Obj}
theorem special_own {name : Str} {args : List Value} {Q : Option Value → Shared → Prop} (X : K.In s.heap) (I : PySem.W.InstAt s.heap a ox C od) (hf : PySem.W.findIn K (.ref C) name = some (some (.ref f))) (ht : PySem.W.isFn K (.ref f) = true)
    (hc : wpAny (model prog w) A (call (.ref f) (.ref a :: args)) (fun v s' => Q (some v) s') E s) : wpAny (model prog w) A (callSpecial? (.ref a) name args) Q E s := by
  unfold callSpecial? specialOf bindSpecial
  refine wpAny_bind (wpAny_bind (I.type.here ((PySem.W.looks_findIn X hf).here ?_)))
  refine wpAny_holding (wpAny_bind (wpAny_bind ((PySem.W.looks_typeIn X (beq_iff_eq.mp ht)).here ?_)))
  rw [if_pos (by decide)]
  refine wpAny_pure ?_
  exact wpAny_bind (wpAny_mono hc (fun v s' h => wpAny_pure h) fun _ _ z => z)
theorem special_none {name : Str} {args : List Value} {Q : Option Value → Shared → Prop} (X : K.In s.heap) (I : PySem.W.InstAt s.heap a ox C od) (hf : PySem.W.findIn K (.ref C) name = some none) (h : Q none s) : wpAny (model prog w) A (callSpecial? (.ref a) name args) Q E s := by
  unfold callSpecial? specialOf
  exact wpAny_bind (wpAny_bind (I.type.here ((PySem.W.looks_findIn X hf).here (wpAny_pure h))))
end
/-- own defs of the classes of a table, under one name, called with n values (self among them) -/
def KMt (P : Program) (w : World) (K : Frag) (mg : Str → Option Value) (base : Heap) (k : Nat) (name : Str) (n : Nat) (tb : List (Addr × FF)) : Prop :=
  ∀ C m, (C, m) ∈ tb → ∃ f fd ps src m', Meth K C name f ∧ KFn P w K mg base k f fd ps m' ∧ Bk K fd ps n [] src ∧ m = fun us L => opt (arrU us [] src) fun xs => m' xs L
theorem mem_of_lookup {β : Type} : ∀ {tb : List (Addr × β)} {C : Addr} {m : β}, tb.lookup C = some m → (C, m) ∈ tb
  | (D, b) :: tb, C, m, e => by
    by_cases h : (C == D) = true
    · rw [List.lookup_cons, h] at e
      cases e
      exact .head _ |> fun z => (beq_iff_eq.mp h) ▸ z
    · rw [List.lookup_cons, Bool.eq_false_iff.mpr h] at e
      exact .tail _ (mem_of_lookup e)
section
variable {X : Cx} {W : WX} {k : Nat}
/-- a def runs, under any surroundings -/
theorem run_ka {A : Around} {f : Addr} {fd : FuncData} {ps ks : List Str} {m : FF} {src : List Sr} {n : Nat} {pins : List (Addr × Obj)} {σ : L2.St} {H : Hp} {s : Shared} {Q : VK} {F : Addr → Prop} {ρ : Nat → Addr} {L : LS} {us ws : List U} {vs zs : List V} {uv wv : List Value}
    (G : KFn X.prog X.w X.K X.mg X.base k f fd ps m) (hr : Rm k A) (e0 : Env0 X.prog X.w X.K X.mg X.base A X.stack s H) (hb : Bk X.K fd ps n ks src) (tk : Takes X W) (I : Inv X pins σ H s) (o : Ok X.K F ρ H L) (r1 : RepUs X.K F ρ H L us vs) (r2 : RepUs X.K F ρ H L ws zs) (v1 : Vals vs uv) (v2 : Vals zs wv)
    (hn : us.length = n) (hks : ws.length = ks.length) (h : GE RepU X.K W σ F ρ H L Q (opt (arrU us ws src) fun xs => m xs L)) : wpAny (model X.prog X.w) A (call (.ref f) uv (ks.zip wv)) (EP X pins σ Q) X.xe s := by
  obtain ⟨xs, e1, h⟩ := h.opt
  obtain ⟨out, bd, pr⟩ := hb.bind s uv wv I.kIn (by rw [← v1.length, r1.length]; exact hn) (by rw [← v2.length, r2.length]; exact hks)
  obtain ⟨ys, q1, q2⟩ := arr_ok r1 r2 v1 v2 pr e1
  have hlen : xs.length = ps.length := by
    rw [← q1.length, q2.length, ← Paired.length pr]; exact hb.len
  refine wpAny_call (codeAny_mono (G.run A X.stack s H ⟨uv, ks.zip wv⟩ out ys Q (fun c d H' => W c d σ H') hr e0 bd q2 ⟨F, ρ, L, xs, o, q1, hlen, ?_⟩) fun r s' hq => ?_)
  · cases e : m xs L with
    | ok a L' => rw [e] at h; exact h
    | ex C ns ds L' => rw [e] at h; exact h
    | no => rw [e] at h; exact h
  · cases r with
    | error x => exact tk x s' (XE.of_call I (fun _ _ _ z => z) hq)
    | ok fl =>
      cases fl with
      | ret u => exact I.after hq
      | next => exact False.elim hq
      | brk => exact False.elim hq
      | cont => exact False.elim hq
/-! ### the truth of instances -/
def NoTru (K : Frag) (C : Addr) : Prop := PySem.W.findIn K (.ref C) "__bool__" = some none ∧ PySem.W.findIn K (.ref C) "__len__" = some none
def truG (no : List Addr) (tb : List (Addr × FF)) (u : U) (L : LS) : Rs Bool := opt (rdU L u) fun d => match d with
  | .ins C _ _ => if C ∈ no then .ok true L else (match tb.lookup C with
    | some m => (m [u] L).bind fun r L1 => (match r with
      | .d (.bl b) => .ok b L1
      | _ => .no)
    | none => .no)
  | d => opt (truB d) fun k => .ok k L
theorem inst_ins {pins : List (Addr × Obj)} {σ : L2.St} {H : Hp} {s : Shared} {a C dx : Addr} {fs : List (Str × V)} (I : Inv X pins σ H s) (e : H a = some (.ins C dx fs)) : ∃ od, PySem.W.InstAt s.heap a (PySem.W.instObj C dx) C (some od) := by
  obtain ⟨mA, O, _⟩ := ins_get I.hok e
  obtain ⟨od, J, _⟩ := O.look
  exact ⟨od, J⟩
theorem truthy_ins {A : Around} {no : List Addr} {tb : List (Addr × FF)} {pins : List (Addr × Obj)} {σ : L2.St} {H : Hp} {s : Shared} {Q : Bool → Hp → Prop} {F : Addr → Prop} {ρ : Nat → Addr} {L : LS} {u : U} {v : V} {C : Addr} {ns : List Str} {xs : List D} {z : Value}
    (hno : ∀ C ∈ no, NoTru X.K C) (T : KMt X.prog X.w X.K X.mg X.base k "__bool__" 1 tb) (hr : Rm k A) (e0 : Env0 X.prog X.w X.K X.mg X.base A X.stack s H) (tk : Takes X W) (I : Inv X pins σ H s) (o : Ok X.K F ρ H L) (p : RepU X.K F ρ H L u v) (rz : RelV v z) (e : rdU L u = some (.ins C ns xs))
    (h : GE PB X.K W σ F ρ H L Q (truG no tb u L)) : wpAny (model X.prog X.w) A (truthy z) (fun b s' => ∃ H', Inv X pins σ H' s' ∧ Q b H') X.xe s := by
  obtain ⟨a, dx, fs, rfl, ha, oc, hns, hxs⟩ := (show ∃ a dx fs, v = .ref a ∧ H a = some (.ins C dx fs) ∧ OwnC X.K C ∧ fs.map (·.1) = ns ∧ RepL X.K F H xs (fs.map (·.2)) from rdr_of o p e)
  obtain rfl : z = Value.ref a := rz
  obtain ⟨od, J⟩ := inst_ins I ha
  unfold truG at h
  rw [e] at h
  simp only [opt] at h
  unfold truthy
  by_cases hC : C ∈ no
  · rw [if_pos hC] at h
    obtain ⟨n1, n2⟩ := hno C hC
    first
      | refine wpAny_bind (special_none (name := Str.ofString "__bool__") I.kIn J n1 ?_)
      | refine wpAny_bind (wpAny_pure (wpAny_bind (special_none (name := Str.ofString "__bool__") I.kIn J n1 ?_)))
    have hsp : ∀ {Q' : Option Value → Shared → Prop}, Q' none s → wpAny (model X.prog X.w) A (specialOf (.ref a) "__len__") Q' X.xe s := fun q => by
      unfold specialOf
      exact wpAny_bind (J.type.here ((PySem.W.looks_findIn I.kIn n2).here q))
    have fin : Q true H := h F ρ H true Step.refl o rfl
    first
      | refine wpAny_bind (hsp ?_)
      | refine wpAny_bind (wpAny_pure (wpAny_bind (hsp ?_)))
    exact wpAny_pure ⟨H, I, fin⟩
  · rw [if_neg hC] at h
    cases el : tb.lookup C with
    | none => rw [el] at h; exact h.elim
    | some m =>
      rw [el] at h
      obtain ⟨f, fd, ps, src, m', M, G, B, rfl⟩ := T C m (mem_of_lookup el)
      have key : wpAny (model X.prog X.w) A (call (.ref f) [.ref a]) (fun v s' => ∃ b, v = .bool b ∧ ∃ H', Inv X pins σ H' s' ∧ Q b H') X.xe s := by
        refine thn (run_ka (us := [u]) (vs := [.ref a]) (uv := [.ref a]) (ws := []) (zs := []) (wv := []) (ks := []) (Q := fun v H' => ∃ b, v = .bl b ∧ Q b H') G hr e0 B tk I o ⟨_, _, rfl, p, rfl⟩ rfl (.cons rfl .nil) .nil rfl rfl ?_) fun r s' hq => ?_
        · dsimp only at h ⊢
          cases ex : (opt (arrU [u] [] src) fun xs => m' xs L) with
          | ok r L1 =>
            rw [ex] at h
            dsimp only [Rs.bind] at h
            intro F2 ρ2 H2 b s2 o2 p2
            split at h
            · rename_i b2
              obtain rfl : b = .bl b2 := p2
              exact ⟨b2, rfl, h F2 ρ2 H2 b2 s2 o2 rfl⟩
            · exact h.elim
          | ex C ns ds L' => rw [ex] at h; exact h
          | no => rw [ex] at h; exact h
        · obtain ⟨x, H', I', rx, b, rfl, q⟩ := hq
          exact ⟨b, rx, H', I', q⟩
      first
        | refine wpAny_bind (special_own (name := Str.ofString "__bool__") (args := []) I.kIn J M.at_ M.fn (thn key fun r s' hq => ?_))
        | refine wpAny_bind (wpAny_pure (wpAny_bind (special_own (name := Str.ofString "__bool__") (args := []) I.kIn J M.at_ M.fn (thn key fun r s' hq => ?_))))
      obtain ⟨b, rfl, H', I', q⟩ := hq
      exact wpAny_pure ⟨H', I', q⟩
end
section
variable {X : Cx} {W : WX} {k : Nat}
theorem call_boolI {no : List Addr} {tb : List (Addr × FF)} {pins : List (Addr × Obj)} {σ : L2.St} {H : Hp} {s : Shared} {Q : VK} {F : Addr → Prop} {ρ : Nat → Addr} {L : LS} {u : U} {v : V} {C : Addr} {ns : List Str} {xs : List D} {z : Value}
    (hno : ∀ C ∈ no, NoTru X.K C) (T : KMt X.prog X.w X.K X.mg X.base k "__bool__" 1 tb) (hr : Rm (k + 2) X.A) (tk : Takes X W) (I : Inv X pins σ H s) (o : Ok X.K F ρ H L) (p : RepU X.K F ρ H L u v) (rz : RelV v z) (e : rdU L u = some (.ins C ns xs))
    (h : GE PB X.K W σ F ρ H L (fun b H' => Q (.bl b) H') (truG no tb u L)) : wpAny (model X.prog X.w) X.A (call (.type "bool") [z]) (EP X pins σ Q) X.xe s := by
  have key := truthy_ins hno T hr.in1.in1 I.env0.in1.in1 tk I o p rz e h
  refine callType_codes (Q₁ := fun obj s' => ∃ b, obj = .bool b ∧ ∃ H', Inv X pins σ H' s' ∧ Q (.bl b) H') PySem.F.called_bool (PySem.F.typeCall_bool_1 z) PySem.F.entry_object_init ?_ fun obj s1 hq => ?_
  · refine codeAny_call_builtin (by decide +kernel) PySem.F.entry_bool_new (wpAny_of_eq (PySem.F.newCall_bool_1 z) ?_)
    have f1 := PySem.F.conv_sub_bool
    unfold Builtin.«bool.__new__»
    repeat (any_goals (first | assumption | (with_reducible refine wpAny_bind (thn key ?_)) | wp_step))
    exact fun b s1 ⟨H', I', q⟩ => wpAny_pure ⟨b, rfl, H', I', q⟩
  · obtain ⟨b, rfl, H', I', q⟩ := hq
    exact ⟨rfl, PySem.F.args_object_init_2 _ _, object_init_meets PySem.F.called_bool.init.lookup PySem.F.called_bool.made PySem.F.newNe_bool X.prog X.w X.A.in1 _ s1 ⟨rfl, rfl, ⟨.bl b, H', I', rfl, q⟩⟩⟩
/-- a built-in function or type, by what it is called with -/
def CallU (X : Cx) (W : WX) (fv : Value) (g : List U → LS → Rs U) : Prop := ∀ (pins : List (Addr × Obj)) (s : Shared) (σ : L2.St) (H : Hp) (vs : List V) (us : List Value) (Q : VK) (F : Addr → Prop) (ρ : Nat → Addr) (L : LS) (uu : List U),
  Inv X pins σ H s → Ok X.K F ρ H L → RepUs X.K F ρ H L uu vs → Vals vs us → GE RepU X.K W σ F ρ H L Q (g uu L) → wpAny (model X.prog X.w) X.A (call fv us) (EP X pins σ Q) X.xe s
theorem CallU.ofD {fv : Value} {g : List D → Option D} (h : CallR X fv (rDn X.K g)) : CallU X W fv (opn g) := fun pins s σ H vs us Q F ρ L uu I o r rv q => h pins s σ H vs us Q I rv (opn_ok o r q)
def eFnU (g : List U → LS → Rs U) (f : AF) : EF := fun st L => (f st L).bind fun us L1 => g us L1
section
variable {x : Str} {T id : String} {p pos : Pos} {g : List U → LS → Rs U} {e : Expr} {es : List Expr} {f : AF}
theorem ke_callTU (hc : CallU X W (.type T) g) (hm : X.mg x = none) (hv : bootBuiltins x = some (.type T)) (ha : KA X W (e :: es) f) (hg : Gl X x := by rfl) (hn : x ≠ "__name__" := by decide) (hdb : (x == ("__debug__" : Str)) = false := by decide)
    (he : starEach (e :: es) X.env = (false, eval e X.env) :: starEach es X.env := by rfl) (hpl : (backTo pos (starEach es X.env)).any (·.1) = false := by rfl) : KE X W (.Call (.Name x p) (e :: es) [] pos) (eFnU g f) := by
  refine ⟨fun pins s σ H Q I ⟨F, ρ, L, st, o, r, h⟩ => ?_⟩
  refine wpAny_Call_Name_kw (ld_blt I hg hm hv ?_ hn hdb)
  refine PyProof.Rows.callWith_type1 (thn (PA.run ha pos pins s σ H (fun vs H1 => ∃ F1 ρ1 L1 us, Ok X.K F1 ρ1 H1 L1 ∧ RepUs X.K F1 ρ1 H1 L1 us vs ∧ GE RepU X.K W σ F1 ρ1 H1 L1 Q (g us L1)) I (RG.one (P := RepUs) o r h fun vs H1 F1 ρ1 L1 us s1 o1 r1 p1 h1 => ⟨F1, ρ1, L1, us, o1, p1, h1⟩)) fun us s1 ⟨vs, H1, I1, rv, F1, ρ1, L1, uu, o1, p1, h1⟩ => ?_) he hpl
  exact hc pins s1 σ H1 vs us Q F1 ρ1 L1 uu I1 o1 p1 rv h1
end
def boolU (no : List Addr) (tb : List (Addr × FF)) : List U → LS → Rs U
  | [u], L => (match rdU L u with
    | some (.ins _ _ _) => (truG no tb u L).bind fun b L1 => .ok (.d (.bl b)) L1
    | _ => .no)
  | _, _ => .no
theorem cu_bool {no : List Addr} {tb : List (Addr × FF)} (hno : ∀ C ∈ no, NoTru X.K C) (T : KMt X.prog X.w X.K X.mg X.base k "__bool__" 1 tb) (hr : Rm (k + 2) X.A) (tk : Takes X W) : CallU X W (.type "bool") (boolU no tb) := by
  intro pins s σ H vs us Q F ρ L uu I o r rv h
  match uu, r, h with
  | [u], r, h =>
    obtain ⟨v, t, rfl, p, q⟩ := r
    cases q
    obtain ⟨z, rfl, rz⟩ := vals1 rv
    dsimp only [boolU] at h
    cases e : rdU L u with
    | none => rw [e] at h; exact h.elim
    | some d =>
      rw [e] at h
      cases d with
      | ins C ns xs =>
        refine call_boolI hno T hr tk I o p rz e ?_
        dsimp only at h
        cases ex : truG no tb u L with
        | ok b L1 => rw [ex] at h; exact fun F2 ρ2 H2 b2 s2 o2 p2 => h F2 ρ2 H2 (.bl b2) s2 o2 (by rw [← show b = b2 from p2]; rfl)
        | ex C ns ds L' => rw [ex] at h; exact h
        | no => rw [ex] at h; exact h
      | _ => exact h.elim
  | [], _, h => exact h.elim
  | _ :: _ :: _, _, h => exact h.elim
end
end VL

set_option Elab.async false
set_option linter.all false
set_option maxRecDepth 100000
set_option maxHeartbeats 4000000
namespace VL
open PySem PySem.Spec PyProof.Rows L2
open PySem.W (Frag)

/-! ### int of long texts -/
def NoDig (h : Heap) : Prop := ∃ mc, h.Ns cStatics mc ∧ mc "sys.int_max_str_digits" = none
theorem wp_textL {M : Model} {A : Around} {E : Value → Shared → Prop} {s : Shared} {Q : Value → Shared → Prop} {v : Value} {text : List Nat} {n : Int}
    (nd : NoDig s.heap) (hs : ¬ (text.takeWhile (· != 0)).length ≤ 640) (hr : (int_private% "readNumeral") 4300 10 (text.takeWhile (· != 0)) = (int_private% "Numeral.value") n)
    (ha : ((text.takeWhile (· != 0)).length == text.length) = true) (h : Q (.int n s.toks) { s with toks := s.toks + 1 }) :
    wpAny M A ((int_private% "intFromText") v text 10) Q E s := by
  obtain ⟨mc, h1, h2⟩ := nd
  have hm : wpAny M A Builtin.intMaxStrDigits (fun k s' => k = 4300 ∧ s' = s) E s := by
    unfold Builtin.intMaxStrDigits
    refine wpAny_bind (wpAny_nsGet h1 ?_)
    rw [h2]
    exact wpAny_pure ⟨rfl, rfl⟩
  obtain ⟨hp, g, d, tk, os⟩ := s
  have hs' : decide ((text.takeWhile (· != 0)).length ≤ 640) = false := decide_eq_false hs
  repeat (any_goals (first
    | assumption
    | (with_reducible refine wpAny_ite_false hs ?_)
    | (with_reducible refine wpAny_ite_true (decide_eq_true ha) ?_)
    | (with_reducible refine wpAny_bind (wpAny_mono hm (fun k s' hk => ?_) fun _ _ z => z))
    | wp_step))
  obtain ⟨rfl, rfl⟩ := hk
  rw [hr]
  dsimp only
  repeat (any_goals (first
    | assumption
    | (with_reducible refine wpAny_ite_true (decide_eq_true ha) ?_)
    | wp_step))
theorem meets_textL {x : PySem.Str} {u : Tok} {n : Int} (hl : x.length ≤ sizeLine) (hn : PySem.intText? x = some n) :
    Meets (Builtin.«int.__new__» ⟨[.type "int", .str x u], []⟩) (fun _ R s => NoDig s.heap ∧ R (.ok (.ret (.int n s.toks))) { s with toks := s.toks + 1 }) :=
  Meets.of_wp fun prog w A R s hs => by
    obtain ⟨nd, h⟩ := hs
    obtain ⟨hp, g, d, tk, os⟩ := s
    have f1 := F.conv_sub_int
    have f2 := F.madeHere_int
    have f3 := PySem.W.KIN.str_int
    have f4 := PySem.W.KIN.str_idx
    have f5 := PySem.W.KIN.str_trunc
    have f6 : typeOf (.str x u) = pure (.type "str") := rfl
    by_cases hs : (PySem.numSeenOf x).length ≤ 640
    · have hr : (int_private% "readNumeral") 0 10 (PySem.numSeenOf x) = (int_private% "Numeral.value") n ∧ ((PySem.numSeenOf x).length == (PySem.numTextOf x).length) = true := by
        rcases PySem.read0 x hs with ⟨m, h1, h2, h3⟩ | ⟨h1, _⟩
        · rw [hn] at h1
          injection h1 with h1
          subst h1
          exact ⟨h3, h2⟩
        · rw [hn] at h1
          cases h1
      have hk := PySem.W.KIN.Hid.mk (And.intro hs hr)
      clear hs hr hl hn
      repeat (any_goals (first
        | assumption
        | ((with_reducible show wpAny _ _ ((int_private% "intFromText") _ _ _) _ _ _); refine PySem.W.KIN.wp_text hk.out.1 hk.out.2.1 hk.out.2.2 ?_)
        | wp_step))
      all_goals first | exact ⟨_, rfl, h⟩ | skip
    · have hr : (int_private% "readNumeral") 4300 10 (PySem.numSeenOf x) = (int_private% "Numeral.value") n ∧ ((PySem.numSeenOf x).length == (PySem.numTextOf x).length) = true := by
        rcases PySem.read4300 x hl with ⟨m, h1, h2, h3⟩ | ⟨h1, _⟩
        · rw [hn] at h1
          injection h1 with h1
          subst h1
          exact ⟨h3, h2⟩
        · rw [hn] at h1
          cases h1
      have hk := PySem.W.KIN.Hid.mk (And.intro nd (And.intro hs hr))
      clear hs hr hl hn nd
      repeat (any_goals (first
        | assumption
        | ((with_reducible show wpAny _ _ ((int_private% "intFromText") _ _ _) _ _ _); refine wp_textL hk.out.1 hk.out.2.1 hk.out.2.2.1 hk.out.2.2.2 ?_)
        | wp_step))
      all_goals first | exact ⟨_, rfl, h⟩ | skip
end VL

set_option Elab.async false
set_option linter.all false
set_option maxRecDepth 100000
set_option maxHeartbeats 4000000
namespace VL
open PySem PySem.Spec PyProof.Rows L2
open PySem.W (Frag)

section
variable {X : Cx} {W : WX}
def intL : List D → Option D
  | [.int i] => some (.int i)
  | [.bl b] => some (.int (if b then 1 else 0))
  | [.str x] => if x.length ≤ big then (PySem.intText? x).map .int else none
  | _ => none
theorem NoDig.keeps {h h' : Heap} (n : NoDig h) (k : ∀ b o, h.get? b = some o → h'.get? b = some o) : NoDig h' := let ⟨mc, a, b⟩ := n; ⟨mc, a.keeps k, b⟩
theorem cd_intL (nd : NoDig X.base) : CallR X (.type "int") (rDn X.K intL) := by
  intro pins s σ H xs us Q I rs ⟨F, ρ, L, ds, d, o, r, e, k⟩
  unfold intL at e
  split at e <;> try cases e
  · obtain ⟨v, rfl, h⟩ := one_of r
    cases h
    exact call_int1 pins s σ H _ us Q I rs (.inl ⟨_, rfl, k F H _ Step.refl o rfl⟩)
  · obtain ⟨v, rfl, h⟩ := one_of r
    cases h
    exact call_int1 pins s σ H _ us Q I rs (.inr ⟨_, rfl, k F H _ Step.refl o rfl⟩)
  · obtain ⟨v, rfl, h⟩ := one_of r
    cases h
    split at e
    · rename_i hz
      obtain ⟨n, e2, rfl⟩ := Option.map_eq_some_iff.mp e
      obtain ⟨u, rfl, ru⟩ := vals1 rs
      obtain ⟨t, rfl⟩ := ru
      refine call_int_1 (meets_textL (by rw [big_eq]; exact hz) e2) ⟨nd.keeps I.bk, rfl, ?_⟩
      exact ⟨.int n, H, I.tok _, ⟨_, rfl⟩, k F H _ Step.refl o rfl⟩
    · cases e

/-! ### text * n -/
def repS (x : Str) (n : Int) : Str := ⟨(List.replicate n.toNat x.cps).foldl (· ++ ·) #[]⟩
def smulD : D → D → Option D
  | .str x, .int n => if 2 ≤ n ∧ 0 < x.length ∧ x.length * n.toNat ≤ big then some (.str (repS x n)) else none
  | _, _ => none
theorem od_smul : OpR X (binaryOp .Mult) (rD2 X.K smulD) := by
  intro pins s σ H x y v u Q I rx ry ⟨F, ρ, L, dx, dy, d, o, r1, r2, e, k⟩
  unfold smulD at e
  split at e
  · rename_i a n
    split at e
    · rename_i hz
      obtain ⟨h2, hx, hb⟩ := hz
      cases e
      cases r1; cases r2
      obtain ⟨t, rfl⟩ := rx
      obtain ⟨t2, rfl⟩ := ry
      have hn1 : ¬ n < 1 := by omega
      have hnn : (n == 1 || a.length == 0) = false := by
        rw [Bool.or_eq_false_iff]
        exact ⟨beq_eq_false_iff_ne.mpr (by omega), beq_eq_false_iff_ne.mpr (by omega)⟩
      have hB : (n.toNat : Int) = n := Int.toNat_of_nonneg (by omega)
      have hmul : n.toNat ≤ a.length * n.toNat := Nat.le_mul_of_pos_left _ hx
      have hbig : n.toNat ≤ big := Nat.le_trans hmul hb
      have hbn : big < 2 ^ 40 := by decide
      have lenR : (repS a n).length = a.length * n.toNat := by
        unfold repS
        have : ∀ (m : Nat) (acc : Array Nat), ((List.replicate m a.cps).foldl (· ++ ·) acc).size = acc.size + a.cps.size * m := by
          intro m
          induction m with
          | zero => intro acc; simp
          | succ m ih => intro acc; rw [List.replicate_succ, List.foldl_cons, ih]; simp [Nat.mul_succ]; omega
        have := this n.toNat #[]
        simpa [Str.length] using this
      refine P.mul_str ?_ (fun _ _ => ?_) (fun _ _ => ?_) ?_
      · rw [Bool.or_eq_false_iff]
        exact ⟨decide_eq_false (by omega), decide_eq_false (by omega)⟩
      · intro hc
        have : (a.length : Int) * n ≤ 2 ^ 40 := by rw [← hB]; exact_mod_cast (by omega : a.length * n.toNat ≤ 2 ^ 40)
        have h3 := Int.lt_iff_add_one_le.mp hc
        have h4 : ((2 ^ 63 - 1) / n + 1) * n ≤ (a.length : Int) * n := Int.mul_le_mul_of_nonneg_right h3 (by omega)
        have h5 := Int.mul_ediv_add_emod (2 ^ 63 - 1) n
        have h6 := Int.emod_lt_of_pos (2 ^ 63 - 1) (show (0 : Int) < n by omega)
        have h7 : ((2 ^ 63 - 1) / n + 1) * n = n * ((2 ^ 63 - 1) / n) + n := by rw [Int.add_mul, Int.one_mul, Int.mul_comm]
        omega
      · unfold Builtin.Str.tooLong
        simp only [decide_eq_false_iff_not]
        have := hb
        first | omega | (rw [big_eq]; omega)
      · rw [if_neg hn1, if_neg (by rw [hnn]; exact Bool.false_ne_true)]
        exact ⟨by rw [big_eq]; show (repS a n).length ≤ big; rw [lenR]; exact hb, ⟨.str (repS a n), H, I.tok _, ⟨_, rfl⟩, k F H _ Step.refl o rfl⟩⟩
    · cases e
  · cases e

/-! ### repr of lists and tuples of plain data -/
def reprD : List D → Option D
  | [.lst xs] => (toPyL xs).bind fun ps => if PyData.showable (.list ps) ∧ PyData.hasDict (.list ps) = false ∧ PyData.depth (.list ps) ≤ 60 ∧ (PyData.shown (.list ps)).length ≤ big then some (.str (PyData.shown (.list ps))) else none
  | [.tup xs] => (toPyL xs).bind fun ps => if PyData.showable (.tuple ps) ∧ PyData.hasDict (.tuple ps) = false ∧ PyData.depth (.tuple ps) ≤ 60 ∧ (PyData.shown (.tuple ps)).length ≤ big then some (.str (PyData.shown (.tuple ps))) else none
  | _ => none
theorem Inv.more {pins : List (Addr × Obj)} {σ : L2.St} {H : Hp} {s : Shared} {h' : Heap} {t' : Nat} (I : Inv X pins σ H s) (k : ∀ b o, s.heap.get? b = some o → h'.get? b = some o) : Inv X pins σ H { s with heap := h', toks := t' } :=
  Inv.turnedL (ch := []) I (fun b o _ e => k b o e) fun b hb => absurd hb (by simp)
theorem cd_repr {j : Nat} (hr : Rm j X.A) : CallR X (.builtin "repr") (rDn X.K reprD) := by
  intro pins s σ H xs us Q I rs ⟨F, ρ, L, ds, d, o, r, e, k⟩
  have hu := hr.u
  unfold reprD at e
  split at e
  · rename_i ys
    obtain ⟨v, rfl, h⟩ := one_of r
    obtain ⟨ps, e1, e2⟩ := Option.bind_eq_some_iff.mp e
    split at e2
    · rename_i hz
      cases e2
      obtain ⟨u, rfl, ru⟩ := vals1 rs
      have hp : toPy (.lst ys) = some (.list ps) := by simp [toPy, e1]
      obtain ⟨as, R⟩ := Dp.reads I _ _ _ (toPy_dp (.lst ys) h hp) ru
      obtain ⟨a, vs, rfl, _⟩ := h
      obtain rfl : u = Value.ref a := ru
      exact repr_of_reads' R hz.1 (fun z => by rw [hz.2.1] at z; cases z) hr.gd (by have := hz.2.2.1; omega) (fun _ _ z => z) (fun h' t tk hk => ⟨.str _, H, Inv.more I hk, ⟨_, rfl⟩, k F H _ Step.refl o rfl⟩) (by rw [big_eq]; exact hz.2.2.2)
    · cases e2
  · rename_i ys
    obtain ⟨v, rfl, h⟩ := one_of r
    obtain ⟨ps, e1, e2⟩ := Option.bind_eq_some_iff.mp e
    split at e2
    · rename_i hz
      cases e2
      obtain ⟨u, rfl, ru⟩ := vals1 rs
      have hp : toPy (.tup ys) = some (.tuple ps) := by simp [toPy, e1]
      obtain ⟨as, R⟩ := Dp.reads I _ _ _ (toPy_dp (.tup ys) h hp) ru
      obtain ⟨a, vs, rfl, _⟩ := h
      obtain rfl : u = Value.ref a := ru
      exact repr_of_reads' R hz.1 (fun z => by rw [hz.2.1] at z; cases z) hr.gd (by have := hz.2.2.1; omega) (fun _ _ z => z) (fun h' t tk hk => ⟨.str _, H, Inv.more I hk, ⟨_, rfl⟩, k F H _ Step.refl o rfl⟩) (by rw [big_eq]; exact hz.2.2.2)
    · cases e2
  · cases e
end
end VL

set_option Elab.async false
set_option linter.all false
set_option maxRecDepth 100000
set_option maxHeartbeats 4000000
namespace VL
open PySem PySem.Spec PyProof.Rows L2
open PySem.W (Frag)

/-! ### {k: v, ..} -/
def keyD : D → Option Key
  | .int i => some (.inl i)
  | .str x => some (.inr x)
  | _ => none
def keyU : U → Option Key
  | .d d => keyD d
  | .l _ => none
theorem keyD_ok {K : Frag} {F : Addr → Prop} {H : Hp} {d : D} {k : Key} {v : V} (e : keyD d = some k) (r : Rep K F H d v) : v = kV k := by
  cases d <;> simp only [keyD] at e <;> cases e <;> cases r <;> rfl
def putKD (kvs : List (Key × D)) (k : Key) (v : D) : List (Key × D) :=
  if (kvs.any fun kv => decide (kv.1 = k)) = true then kvs.map (fun kv => if kv.1 = k then (kv.1, v) else kv) else kvs ++ [(k, v)]
def mergeKD (kvs more : List (Key × D)) : List (Key × D) := more.foldl (fun acc kv => putKD acc kv.1 kv.2) kvs
abbrev RepKV (K : Frag) (F : Addr → Prop) (H : Hp) : List (Key × D) → List (Key × V) → Prop := Paired fun p q => p.1 = q.1 ∧ Rep K F H p.2 q.2
section
variable {K : Frag} {F : Addr → Prop} {H : Hp}
theorem RepKV.put {k : Key} {d : D} {v : V} (hv : Rep K F H d v) {a : List (Key × D)} {b : List (Key × V)} (h : RepKV K F H a b) : RepKV K F H (putKD a k d) (putK b k v) := by
  have e : ∀ {a : List (Key × D)} {b : List (Key × V)}, RepKV K F H a b → (a.any fun kv => decide (kv.1 = k)) = (b.any fun kv => decide (kv.1 = k)) := by
    intro a b h
    induction h with
    | nil => rfl
    | cons q _ ih => simp only [List.any_cons, ih, q.1]
  unfold putKD putK
  rw [e h]
  split
  · clear e
    rename_i hh; clear hh
    induction h with
    | nil => exact .nil
    | cons q _ ih =>
      simp only [List.map_cons]
      refine .cons ?_ ih
      rw [q.1]
      split
      · exact ⟨rfl, hv⟩
      · exact q
  · clear e
    rename_i hh; clear hh
    induction h with
    | nil => exact .cons ⟨rfl, hv⟩ .nil
    | cons q _ ih => exact .cons q ih
theorem RepKV.merge {more : List (Key × D)} {ms : List (Key × V)} (h : RepKV K F H more ms) : ∀ {a : List (Key × D)} {b : List (Key × V)}, RepKV K F H a b → RepKV K F H (mergeKD a more) (mergeK b ms) := by
  induction h with
  | nil => intro a b q; exact q
  | cons q _ ih =>
    intro a b r
    unfold mergeKD mergeK at ih ⊢
    simp only [List.foldl_cons]
    rw [← q.1]
    exact ih (RepKV.put q.2 r)
theorem RepKV.keys {a : List (Key × D)} {b : List (Key × V)} (h : RepKV K F H a b) : b.map (·.1) = a.map (·.1) := by
  induction h with
  | nil => rfl
  | cons q _ ih => simp only [List.map_cons, ih, q.1]
theorem RepKV.vals {a : List (Key × D)} {b : List (Key × V)} (h : RepKV K F H a b) : RepL K F H (a.map (·.2)) (b.map (·.2)) := by
  induction h with
  | nil => rfl
  | cons q _ ih => exact ⟨_, _, rfl, q.2, ih⟩
theorem RepKV.mono {F' : Addr → Prop} {H' : Hp} (k : ∀ a, F a → F' a ∧ H' a = H a) {a : List (Key × D)} {b : List (Key × V)} (h : RepKV K F H a b) : RepKV K F' H' a b := by
  induction h with
  | nil => exact .nil
  | cons q _ ih => exact .cons ⟨q.1, Rep.mono k _ q.2⟩ ih
end
def PKV : PP (List (Key × D)) (List (V × V)) := fun K F ρ H L a b => ∃ kvs : List (Key × V), b = kvs.map (fun kv => (kV kv.1, kv.2)) ∧ RepKV K F H a kvs
def dPairs : List (EF × EF) → SS → LS → Rs (List (Key × D))
  | [], _, L => .ok [] L
  | (fk, fv) :: r, st, L => (fk st L).bind fun uk L1 => (fv st L1).bind fun uv L2 => opt (keyU uk) fun k => opt (fzU L2 uv) fun p => (dPairs r st p.2).bind fun ps L3 => .ok ((k, p.1) :: ps) L3
section
variable {K : Frag} {W : WX}
/-- as RG.one, what is wanted told from an earlier state on -/
theorem RG.base {α β γ δ : Type} {P : PP α β} {P' : PP γ δ} {f : SS → LS → Rs α} {g : α → LS → Rs γ} {σ : L2.St} {F F1 : Addr → Prop} {ρ ρ1 : Nat → Addr} {H H1 : Hp} {L L1 : LS} {st : SS} {Q : δ → Hp → Prop} {Q' : β → Hp → Prop} (s1 : Step F ρ H L F1 ρ1 H1 L1) (o1 : Ok K F1 ρ1 H1 L1) (r1 : RepSt K F1 ρ1 H1 L1 σ st)
    (h : GE P' K W σ F ρ H L Q ((f st L1).bind g)) (q : ∀ b H2 F2 ρ2 L2 a, Step F1 ρ1 H1 L1 F2 ρ2 H2 L2 → Ok K F2 ρ2 H2 L2 → RepSt K F2 ρ2 H2 L2 σ st → P K F2 ρ2 H2 L2 a b → GE P' K W σ F ρ H L Q (g a L2) → Q' b H2) : RG P K W f σ H1 Q' := by
  refine ⟨F1, ρ1, L1, st, o1, r1, ?_⟩
  cases e : f st L1 with
  | ok a L2 => rw [e] at h; exact fun F2 ρ2 H2 b s2 o2 p2 => q b H2 F2 ρ2 L2 a s2 o2 (r1.mono s2) p2 h
  | ex C ns xs L2 => rw [e] at h; exact fun F2 ρ2 H2 d s2 o2 t => h F2 ρ2 H2 d (s1.trans s2) o2 t
  | no => rw [e] at h; exact h
theorem pairs_read : ∀ (ps : List (EF × EF)) {σ : L2.St} {H : Hp} {Q : List (V × V) → Hp → Prop}, RG PKV K W (dPairs ps) σ H Q → tPairs (ps.map fun q => (RG RepU K W q.1, RG RepU K W q.2)) σ H Q
  | [], σ, H, Q, ⟨F, ρ, L, st, o, r, h⟩ => h.fin (b := []) o ⟨[], rfl, .nil⟩
  | (fk, fv) :: ps, σ, H, Q, ⟨F, ρ, L, st, o, r, h⟩ => by
    refine RG.one o r h fun x H1 F1 ρ1 L1 u s1 o1 r1 p1 h1 => ?_
    refine RG.one o1 r1 h1 fun y H2 F2 ρ2 L2 u2 s2 o2 r2 p2 h2 => ?_
    obtain ⟨k, e1, h2⟩ := h2.opt
    obtain ⟨⟨d, L3⟩, e2, h2⟩ := h2.opt
    obtain ⟨F3, s3, o3, p3⟩ := fzU_ok o2 p2 e2
    have h3 := GE.on s3 h2
    refine pairs_read ps (RG.one (P := PKV) o3 (r2.mono s3) h3 fun z H4 F4 ρ4 L4 a s4 o4 r4 p4 h4 => ?_)
    obtain ⟨kvs, rfl, q⟩ := p4
    have ek : x = kV k := by
      cases u with
      | d dk => exact keyD_ok e1 p1
      | l n => cases e1
    exact h4.fin o4 ⟨(k, y) :: kvs, by rw [ek]; rfl, .cons ⟨rfl, Rep.mono s4.fz _ p3⟩ q⟩
end
section
variable {X : Cx} {W : WX} {pos : Pos}
structure KPs (X : Cx) (W : WX) (pos : Pos) (keys : List (Option Expr)) (values : List Expr) (ps : List (EF × EF)) : Prop where
  run : PPs X pos keys values (ps.map fun q => (RG RepU X.K W q.1, RG RepU X.K W q.2))
theorem kps_nil : KPs X W pos [] [] [] := ⟨pps_nil⟩
theorem kps_cons {k v : Expr} {ks : List (Option Expr)} {vs : List Expr} {fk fv : EF} {ps : List (EF × EF)} (hk : KE X W k fk) (hv : KE X W v fv) (hr : KPs X W pos ks vs ps) : KPs X W pos (some k :: ks) (v :: vs) ((fk, fv) :: ps) := ⟨pps_cons hk hv hr.run⟩
/-- a dict display, at rest -/
def eDic (ps : List (EF × EF)) : EF := fun st L => (dPairs ps st L).bind fun kvs L1 => if kvs.length ≤ 15 then .ok (.d (.dic ((mergeKD [] kvs).map (·.1)) ((mergeKD [] kvs).map (·.2)))) L1 else .no
theorem ke_dict {keys : List (Option Expr)} {values : List Expr} {ps : List (EF × EF)} (h : KPs X W pos keys values ps) (hall : keys.all (·.isSome) = true := by rfl) (hl : keys.length = values.length := by rfl) (h0 : keys ≠ [] := by simp) (h15 : keys.length ≤ 15 := by decide) : KE X W (.Dict keys values pos) (eDic ps) := by
  refine pe_wk (pe_disp h.run hall hl h0 h15) fun σ H Q ⟨F, ρ, L, st, o, r, h⟩ p hp => ?_
  have ap := apart_none o hp
  obtain ⟨_, s1, o1⟩ := bump o hp Step.refl o ap (.dK [])
  have ap1 : Apart F ρ (upd H p (.dK [])) L p := ⟨ap.nf, ap.nl⟩
  refine pairs_read ps (RG.base (P := PKV) s1 o1 (r.mono s1) h fun z H2 F2 ρ2 L2 a s2 o2 r2 p2 h2 => ?_)
  obtain ⟨kvs, rfl, q⟩ := p2
  obtain ⟨hz, h2⟩ := ge_if h2
  obtain ⟨ap2, e2⟩ := ap1.on s2 upd_same
  have hlen : kvs.length = a.length := by rw [← List.length_map (·.1), RepKV.keys q, List.length_map]
  refine ⟨e2, kvs, rfl, by rw [hlen]; exact hz, ?_⟩
  obtain ⟨k3, s3, o3⟩ := bump o hp (s1.trans s2) o2 ap2 (.dK (mergeK [] kvs))
  obtain ⟨k4, s4, o4⟩ := adopt hp s3 o3 ⟨ap2.nf, ap2.nl⟩ upd_same
  have q4 := RepKV.merge (RepKV.mono k4 (RepKV.mono k3 q)) .nil
  exact h2 _ _ _ _ s4 o4 (show Rep X.K (F1 F2 p) _ (.dic _ _) (.ref p) from ⟨p, _, rfl, .inr rfl, upd_same, RepKV.keys q4, RepKV.vals q4⟩)
theorem ke_dict0 : KE X W (.Dict [] [] pos) (fun st L => .ok (.d (.dic [] [])) L) := by
  refine pe_wk pe_dnewK fun σ H Q ⟨F, ρ, L, st, o, r, h⟩ p hp => ?_
  obtain ⟨s1, o1⟩ := new_ok o hp (.dK [])
  exact h _ _ _ _ s1 o1 (show Rep X.K (F1 F p) _ (.dic [] []) (.ref p) from ⟨p, [], rfl, .inr rfl, upd_same, rfl, rfl⟩)
end
end VL

set_option Elab.async false
set_option linter.all false
set_option maxRecDepth 100000
set_option maxHeartbeats 4000000
namespace VL
open PySem PySem.Spec PyProof.Rows L2
open PySem.W (Frag)

/-- a law's def, called with the script at the heap behind the top -/
theorem vl_call {P : Program} {w : World} {K : Frag} {mg mb : Str → Option Value} {k : Nat} {fa a : Addr} {fd : FuncData} {x : Str} {m : FF} {s₁ : Shared} {vs : List Value} {ns : List Int}
    (KX : K.In s₁.heap) (hns : s₁.heap.Ns mainGlobals mg) (hb : s₁.heap.Ns builtinsNs mb) (hbb : ∀ x : Str, x ≠ "__name__" → mb x = bootBuiltins x) (hlim : s₁.heap.NoLimit) (hdg : NoDig s₁.heap) (hg : s₁.gens = #[])
    (ha : s₁.heap.get? a = some { cls := .type "list", data := .seq vs.toArray }) (hi : IntsAre vs ns) (hl : ns.length ≤ sizeLine) (hr : Rm k callerA)
    (G : ∀ base : Heap, K.In base → base.Ns mainGlobals mg → NoDig base → KFn P w K mg base k fa fd [x] m) (hbind : ∀ (s : Shared) (u : Value), BindsTo s fd ⟨[u], []⟩ [(x, u)])
    (hm : ∃ L', m [.d (.scr ns)] [] = .ok (.d (.bl true)) L') :
    codeAny (model P w) callerA (.call (.ref fa) ⟨[.ref a], []⟩) (fun r s' => r = .ok (.ret (.bool true)) ∧ OldK s₁.heap s'.heap ∧ s'.os = s₁.os ∧ AllBare s'.gens) s₁ := by
  have rv := vals_ints hi
  have lenV := hi.length
  have core : ∀ H : Hp, Only H → Rep K (fun b => H b ≠ none) H (.scr ns) (.ref a) → HOk P w H s₁.heap → (∀ b, H b ≠ none → b = a) → (H a ≠ none → K.lookup a = none) →
      codeAny (model P w) callerA (.call (.ref fa) ⟨[.ref a], []⟩) (fun r s' => r = .ok (.ret (.bool true)) ∧ OldK s₁.heap s'.heap ∧ s'.os = s₁.os ∧ AllBare s'.gens) s₁ := by
    intro H hO hS hok hA hK
    have noA : ∀ {b : Addr} {o : Obj} {es : Array DictEntry} {ep : Nat}, s₁.heap.get? b = some o → o.data = .dict es ep → H b = none := fun {b o es ep} e d => by
      cases q : H b with
      | none => rfl
      | some u =>
        have e' : b = a := hA b (by rw [q]; simp)
        subst e'
        rw [ha] at e; cases e
        have d' : Data.seq vs.toArray _ = Data.dict es ep := d
        cases d'
    have nsK : ∀ {b : Addr} {m : Str → Option Value}, s₁.heap.Ns b m → (hidT s₁.heap H).Ns b m := fun {b m} ⟨o, es, ep, e, d, r⟩ => ⟨o, es, ep, hidT_get e (noA e d), d, r⟩
    have hKb : K.In (hidT s₁.heap H) := fun b o e => hidT_get (KX b o e) (by
      cases q : H b with
      | none => rfl
      | some u =>
        have e' : b = a := hA b (by rw [q]; simp)
        subst e'
        rw [hK (by rw [q]; simp)] at e; cases e)
    have hM : Mod K mg (hidT s₁.heap H) := ⟨hKb, nsK hns, ⟨mb, nsK hb, hbb⟩, let ⟨mc, h1, h2⟩ := hlim; ⟨mc, nsK h1, h2⟩⟩
    have hD : NoDig (hidT s₁.heap H) := let ⟨mc, h1, h2⟩ := hdg; ⟨mc, nsK h1, h2⟩
    have e0 : Env0 P w K mg (hidT s₁.heap H) callerA [] s₁ H := ⟨rfl, hM, fun b o e => of_hidT e, Nat.le_of_eq (hidT_size _ _), trivial, fun b hb => absurd (show b ∈ ([] : List Addr) from hb) (by simp), hok, .of_eq hg⟩
    obtain ⟨L', hm⟩ := hm
    refine codeAny_mono ((G _ hKb (nsK hns) hD).run callerA [] s₁ H ⟨[.ref a], []⟩ [.ref a] [.ref a] (fun v _ => v = .bl true) (fun _ _ _ => False) hr e0 (hbind s₁ (.ref a)) (.cons rfl .nil) ⟨fun b => H b ≠ none, fun _ => 0, [], [.d (.scr ns)], ⟨fun n lo e => by simp at e, fun i j _ _ e => by simp at e, fun _ f => f⟩, ⟨_, _, rfl, hS, rfl⟩, rfl, ?_⟩) fun r s' h => ?_
    · rw [hm]
      intro F' ρ' H' b _ _ p
      exact p
    cases r with
    | error e => obtain ⟨_, _, _, _, _, _, _, _, _, _, _, _, z⟩ := h; exact z.elim
    | ok fl =>
      cases fl with
      | next => exact False.elim h
      | brk => exact False.elim h
      | cont => exact False.elim h
      | ret u =>
        obtain ⟨v, H', os, bare, un, hok', r', q⟩ := h
        have q' : v = .bl true := q
        subst q'
        obtain rfl : u = Value.bool true := r'
        refine ⟨rfl, OldK.of_keep fun b o e => ?_, os, bare⟩
        cases q : H b with
        | none => exact un.keep b o e q (by intro z; exact absurd (show b ∈ ([] : List Addr) from z) (by simp)) (by simp)
        | some u =>
          rcases hO b with z | ⟨ob, xs, z⟩
          · rw [q] at z; cases z
          · have z2 := un.frzs b ob _ z
            obtain ⟨e1, _⟩ := hok b _ z
            obtain ⟨e2, _⟩ := hok' b _ z2
            rw [e] at e1; cases e1
            exact e2
  cases hk : K.lookup a with
  | some o =>
    have e := KX a o hk
    rw [ha] at e
    cases e
    exact core (fun _ => none) (fun _ => .inl rfl) ⟨a, rfl, .inr ⟨_, vs.toArray, _, hk, rfl, rfl, rfl, by rw [List.size_toArray, lenV]; exact hl, by simpa using rv⟩⟩ (fun b u z => by have z' : (none : Option HO) = some u := z; cases z') (fun b z => absurd rfl z) fun z => absurd rfl z
  | none =>
    refine core (fun b => if b = a then some (.frz { cls := .type "list", data := .seq vs.toArray } (.lst (ns.map V.int))) else none) (fun b => ?_) ⟨a, rfl, .inl ⟨by simp, { cls := .type "list", data := .seq vs.toArray }, if_pos rfl⟩⟩ (fun b u z => ?_) (fun b z => ?_) fun _ => hk
    · by_cases hb : b = a
      · exact .inr ⟨_, _, if_pos hb⟩
      · exact .inl (if_neg hb)
    · by_cases hb : b = a
      · have z' := (if_pos hb).symm.trans z
        cases z'
        subst hb
        exact ⟨ha, by rw [List.length_map]; exact hl, vs, _, rv, ha⟩
      · have z' := (if_neg hb).symm.trans z
        cases z'
    · by_cases hb : b = a
      · exact hb
      · exact absurd (if_neg hb) z
theorem walk_vl {l : PySem.W.OpenLaw} {n k : Nat} {q : Program} {loose : List Str} {XP : (Str → Option Value) → Heap → Prop} {YP : World → Heap → Prop} {d : DefRec} {K : Params → Frag} {x : Str}
    (hn : l.most = some n) (hn2 : n ≤ sizeLine) (hdf : d.params.defaults = []) (hr : Rm k callerA) (hY : ∀ (w : World) (h : Heap), YP w h → (K w.params).In h)
    (G : ∀ (w : World) (mg : Str → Option Value) (fa : Addr) (h : Heap), (K w.params).In h → h.Ns mainGlobals mg → mg d.name = some (.ref fa) →
      ∃ (fd : FuncData) (m : FF), (∀ (s : Shared) (u : Value), BindsTo s fd ⟨[u], []⟩ [(x, u)]) ∧
        (∀ base : Heap, (K w.params).In base → base.Ns mainGlobals mg → NoDig base → KFn l.prog w (K w.params) mg base k fa fd [x] m) ∧ ∀ ns : List Int, ns.length ≤ n → ∃ L', m [.d (.scr ns)] [] = .ok (.d (.bl true)) L') :
    PySem.W.WalkO q loose XP YP l.row.toRowW d [] (fun f vs => PySem.call f vs) := by
  refine Att.attach_call hn hdf fun w s₀ s₁ mg mb fa o pm cd doc a vs ns G' Y ho hd hcd hmg hobj hints hlen hg => ?_
  have KX := hY w _ Y
  obtain ⟨fd, m, hb, hF, hm⟩ := G w mg fa _ KX G'.T.g hmg
  exact vl_call KX G'.T.g G'.T.b G'.T.builtins G'.T.nolimit G'.T.nodigits hg hobj hints (Nat.le_trans hlen hn2) hr hF hb (hm ns hlen)
end VL

set_option Elab.async false
set_option linter.all false
set_option maxRecDepth 100000
set_option maxHeartbeats 4000000
namespace VL
open PySem PySem.Spec PyProof.Rows L2
open PySem.W (Frag)
/-! ### words for the printed texts -/
theorem tk_of {P : Program} {w : World} {K : Frag} {mg : Str → Option Value} {base : Heap} {N : List Str} {qual : Str} {scope : Scope} {f : Addr} {cdv : Value} {A : Around} {outer : List Env} {s : Shared} {H : Hp} {E : XK} :
    Takes (cxOf (L2.CX P w) P w K mg base N qual scope f cdv A outer s H E) (fun c d _ H' => E c d H') := takes_of rfl rfl rfl rfl
theorem bk_of {K : Frag} {x qual : Str} {st : Stmt} {f : Addr} {fd : FuncData} {ps ks : List Str} {n : Nat} {src : List Sr} (T : Fun K x qual st f fd) (hl : src.length = ps.length)
    (h : ∀ (kV doc pm : Value) (an : Option Addr) (cdv ct : Value) (us ws : List Value), us.length = n → ws.length = ks.length → ∃ zs, bindArgs (PySem.W.fnOf x qual (defArgs st) (defBody st) (defScope st) .none kV doc pm an cdv ct) ⟨us, ks.zip ws⟩ = pure (ps.zip zs) ∧ Paired (SrOk us ws) src zs) : Bk K fd ps n ks src := by
  obtain ⟨oc, od, kV, doc, pm, an, cdv, ct, osl, rfl, lk, hcd⟩ := T.ex
  refine ⟨fun s us ws _ h1 h2 => ?_, hl⟩
  obtain ⟨zs, e, p⟩ := h kV doc pm an cdv ct us ws h1 h2
  exact ⟨zs, .of_eq e, p⟩
def sBrk : SF := fun st L => .bk st L
def sCnt : SF := fun st L => .ct st L
def sRetN : SF := fun _ L => .rt (.d .non) L
def eDic0 : EF := fun _ L => .ok (.d (.dic [] [])) L
theorem ke_dic0 {X : Cx} {W : WX} {pos : Pos} : KE X W (.Dict [] [] pos) eDic0 := ke_dict0
theorem tk0 {X : Cx} : Takes X Wn := fun u s' x => by
  obtain ⟨a, B, sI, pins, σ, H, cls, d, e, I, nb, up, sky, na, os, ag, w⟩ := x
  exact w.elim
theorem bt_int : bootBuiltins "int" = some (.type "int") := by decide +kernel
theorem bt_str : bootBuiltins "str" = some (.type "str") := by decide +kernel
theorem bt_bool : bootBuiltins "bool" = some (.type "bool") := by decide +kernel
theorem bt_list : bootBuiltins "list" = some (.type "list") := by decide +kernel
theorem bt_tuple : bootBuiltins "tuple" = some (.type "tuple") := by decide +kernel
theorem bt_dict : bootBuiltins "dict" = some (.type "dict") := by decide +kernel
theorem bt_len : bootBuiltins "len" = some (.builtin "len") := by decide +kernel
theorem bt_abs : bootBuiltins "abs" = some (.builtin "abs") := by decide +kernel
theorem bt_all : bootBuiltins "all" = some (.builtin "all") := by decide +kernel
theorem bt_any : bootBuiltins "any" = some (.builtin "any") := by decide +kernel
theorem bt_sum : bootBuiltins "sum" = some (.builtin "sum") := by decide +kernel
theorem bt_isinstance : bootBuiltins "isinstance" = some (.builtin "isinstance") := by decide +kernel
theorem bt_repr : bootBuiltins "repr" = some (.builtin "repr") := by decide +kernel
theorem bt_min : bootBuiltins "min" = some (.builtin "min") := by decide +kernel
theorem bt_max : bootBuiltins "max" = some (.builtin "max") := by decide +kernel
theorem bt_sorted : bootBuiltins "sorted" = some (.builtin "sorted") := by decide +kernel
theorem bt_hasattr : bootBuiltins "hasattr" = some (.builtin "hasattr") := by decide +kernel
theorem bt_getattr : bootBuiltins "getattr" = some (.builtin "getattr") := by decide +kernel
end VL

set_option Elab.async false
set_option linter.all false
set_option maxRecDepth 100000
set_option maxHeartbeats 4000000
namespace VL
open PySem PySem.Spec PyProof.Rows L2
open PySem.W (Frag)

/-! ### plain data -/
theorem toPyL_ints : ∀ cs : List Int, toPyL (cs.map .int) = some (cs.map .int)
  | [] => rfl
  | c :: cs => by simp [toPyL, toPy, toPyL_ints cs]
theorem depth_ints : ∀ cs : List Int, PyData.depthAll (cs.map .int) = 0
  | [] => rfl
  | c :: cs => by simp [PyData.depthAll, PyData.depth, depth_ints cs]
theorem ne_nil (cs : List Int) : neB (.lst (cs.map .int)) (.lst []) = some (!cs.isEmpty) := by
  have h : eqB (.lst (cs.map .int)) (.lst []) = some cs.isEmpty := by
    unfold eqB
    simp only [toPy, toPyL_ints, Option.map_some, Option.bind_some, toPyL, PyData.depth, depth_ints]
    cases cs <;> simp [PyData.eqv, PyData.eqvAll]
  unfold neB
  rw [h]; rfl

/-! ### the pen of a law: the script, how many draws, what is left of a great number -/
def penL (cs : List Int) (spot rest : Int) : LS := [.l [.lst (cs.map .int), .int spot, .int rest]]
structure Pen (n : Nat) (L : LS) : Prop where
  ex : ∃ cs spot rest, L = penL cs spot rest ∧ 0 ≤ spot ∧ spot ≤ (n : Int) ∧ 0 ≤ rest
theorem Pen.mono {m n : Nat} {L : LS} (p : Pen m L) (h : m ≤ n) : Pen n L := let ⟨cs, s, r, e, h1, h2, h3⟩ := p.ex; ⟨cs, s, r, e, h1, by omega, h3⟩
theorem Pen.len {n : Nat} {L : LS} (p : Pen n L) : L.length = 1 := by obtain ⟨cs, s, r, rfl, _⟩ := p.ex; rfl
def drawB (a1 b1 m1 a2 b2 m2 b3 a4 b4 m3 : Int) : SF := sSeq (sIf (bCmp gtB (eBin ixD (eVar 0) (eC (.int 2))) (eC (.int 0))) (sSeq (sSet 2 (eBin modD (eFn intL (aCons (eBin ixD (eVar 0) (eC (.int 2))) aNil)) (eVar 1))) (sSeq (sSub (eVar 0) (eC (.int 2)) (eBin divD (eFn intL (aCons (eBin ixD (eVar 0) (eC (.int 2))) aNil)) (eVar 1))) (sRet (eVar 2)))) sNil)
  (sSeq (sSet 3 (eBin ixD (eVar 0) (eC (.int 1)))) (sSeq (sSub (eVar 0) (eC (.int 1)) (eBin addD (eVar 3) (eC (.int 1)))) (sSeq (sSet 4 (eBin addD (eBin mulD (eC (.int a1)) (eVar 3)) (eC (.int b1))))
  (sSeq (sIf (bCmp neB (eBin ixD (eVar 0) (eC (.int 0))) (eLst aNil)) (sSet 4 (eBin ixD (eBin ixD (eVar 0) (eC (.int 0))) (eBin modD (eFn intL (aCons (eVar 3) aNil)) (eFn lenD (aCons (eBin ixD (eVar 0) (eC (.int 0))) aNil))))) sNil)
  (sSeq (sIf (bAnd (bCmp ltB (eVar 3) (eFn lenD (aCons (eBin ixD (eVar 0) (eC (.int 0))) aNil))) (bCmp geB (eFn absD (aCons (eVar 4) aNil)) (eBin powD (eC (.int 10)) (eC (.int 18)))))
    (sSeq (sSet 5 (eBin addD (eBin mulD (eC (.int 2)) (eBin subD (eFn absD (aCons (eVar 4) aNil)) (eBin powD (eC (.int 10)) (eC (.int 18))))) (eFn intL (aCons (eCmp ltB (eVar 4) (eC (.int 0))) aNil)))) (sSeq (sSub (eVar 0) (eC (.int 2)) (eBin divD (eFn intL (aCons (eVar 5) aNil)) (eVar 1))) (sRet (eBin modD (eFn intL (aCons (eVar 5) aNil)) (eVar 1))))) sNil)
  (sSeq (sSet 6 (eBin modD (eFn intL (aCons (eBin powD (eBin addD (eBin addD (eBin modD (eFn intL (aCons (eVar 4) aNil)) (eC (.int m1))) (eBin mulD (eC (.int a2)) (eVar 3))) (eC (.int b2))) (eC (.int 5))) aNil)) (eC (.int m2))))
  (sSeq (sSet 6 (eBin modD (eFn intL (aCons (eBin powD (eBin addD (eBin addD (eBin mulD (eVar 6) (eBin addD (eBin mulD (eC (.int 2)) (eVar 3)) (eC (.int b3)))) (eBin mulD (eBin mulD (eC (.int a4)) (eVar 3)) (eVar 3))) (eC (.int b4))) (eC (.int 3))) aNil)) (eC (.int m3))))
  (sRet (eBin modD (eFn intL (aCons (eBin divD (eVar 6) (eC (.int 32))) aNil)) (eVar 1)))))))))) 
theorem ints_at (cs : List Int) {i : Int} (h0 : 0 ≤ i) (h1 : i < cs.length) : ∃ c, atI (cs.map D.int) i = some (.int c) := by
  have : i.toNat < cs.length := by omega
  exact ⟨cs[i.toNat], by simp [atI, ixN, h0, h1, this]⟩
theorem ix_0 (x y z : D) : ixD (.lst [x, y, z]) (.int 0) = some x := rfl
theorem ix_1 (x y z : D) : ixD (.lst [x, y, z]) (.int 1) = some y := rfl
theorem ix_2 (x y z : D) : ixD (.lst [x, y, z]) (.int 2) = some z := rfl
theorem add_i (i j : Int) : addD (.int i) (.int j) = some (.int (i + j)) := rfl
theorem ixD_lst (xs : List D) (i : Int) : ixD (.lst xs) (.int i) = atI xs i := rfl
/-- the constants of a draw are as they should be -/
def Cs (a1 b1 m1 a2 b2 m2 b3 a4 b4 m3 : Int) : Prop := (0 ≤ a1 ∧ a1 < 2 ^ 32) ∧ (0 ≤ b1 ∧ b1 < 2 ^ 32) ∧ (0 < m1 ∧ m1 < 2 ^ 32) ∧ (0 ≤ a2 ∧ a2 < 2 ^ 32) ∧ (0 ≤ b2 ∧ b2 < 2 ^ 32) ∧ (0 < m2 ∧ m2 < 2 ^ 32) ∧ (0 ≤ b3 ∧ b3 < 2 ^ 20) ∧ (0 ≤ a4 ∧ a4 < 2 ^ 20) ∧ (0 ≤ b4 ∧ b4 < 2 ^ 20) ∧ (0 < m3 ∧ m3 < 2 ^ 32)
theorem small_of {i : Int} (h : 0 ≤ i) (h2 : i < 2 ^ 64) : smallI i = true := by
  unfold smallI
  simp only [Bool.and_eq_true, decide_eq_true_eq]
  omega
theorem draw_ok {a1 b1 m1 a2 b2 m2 b3 a4 b4 m3 : Int} (hc : Cs a1 b1 m1 a2 b2 m2 b3 a4 b4 m3) {n : Nat} (hn : n < 2 ^ 20) {L : LS} (p : Pen n L) {many : Int} (h0 : 0 < many) (h1 : many < 2 ^ 30) :
    ∃ r L', fnF 2 7 (drawB a1 b1 m1 a2 b2 m2 b3 a4 b4 m3) [.l 0, .d (.int many)] L = .ok (.d (.int r)) L' ∧ 0 ≤ r ∧ r < many ∧ Pen (n + 1) L' := by
  obtain ⟨cs, spot, rest, rfl, hs0, hs1, hr⟩ := p.ex
  obtain ⟨ha1, hb1, hm1, ha2, hb2, hm2, hb3, ha4, hb4, hm3⟩ := hc
  have hspot : spot < 2 ^ 20 := by omega
  have h1' : many < 1073741824 := h1
  by_cases hrest : 0 < rest
  · refine ⟨rest % many, penL cs spot (rest / many), ?_, Int.emod_nonneg _ (by omega), Int.emod_lt_of_pos _ h0, ⟨cs, spot, rest / many, rfl, hs0, by omega, Int.ediv_nonneg hr (by omega)⟩⟩
    simp [Rs.bind, opt, LO.rd, rdU, fzU, eVar, eC, op2, op1, eBin, eUn, eCmp, bop2, bCmp, eChain, bChain, trU, bTru, eAnd, eOr, eNot, bAnd, bOr, bNot, eIf, rdUs, fzUs, aNil, aCons, eLst, eTup, eLstL, opn, eFn, oNone, oSome, eSl, eJoin, Rt.andThen, ofR, optS, sNil, sSeq, sDrop, sRet, sIf, sSet, sPar, tfName, tfNil, tfCons, tfTup, sAsg, sSub, outR, fnF, cPos, cBoth, Sr.get, arrU, eCall, iSeq, iRng1, iRng2, sFor, eComp, tYesF, eMake, mkF, eRest, sFld, eFnU, boolU, truG, sBrk, sCnt, sRetN, eDic0, eDic, dPairs, keyU, bD, drawB, penL, gtB, hrest, ixD, atI, ixN, modD, intL, divD, h0, h1', putAt]
  · have hr0 : rest = 0 := by omega
    subst hr0
    -- what the cell is
    have cell : ∃ c : Int, (cs = [] ∧ c = a1 * spot + b1) ∨ (cs ≠ [] ∧ atI (cs.map D.int) (spot % (cs.length : Int)) = some (.int c)) := by
      cases hcs : cs with
      | nil => exact ⟨_, .inl ⟨rfl, rfl⟩⟩
      | cons x xs =>
        have hl : (0 : Int) < ((x :: xs).length : Int) := by rw [List.length_cons]; omega
        obtain ⟨c, hc⟩ := ints_at (x :: xs) (Int.emod_nonneg spot (by omega)) (Int.emod_lt_of_pos spot hl)
        exact ⟨c, .inr ⟨by simp, hc⟩⟩
    obtain ⟨c, hcell⟩ := cell
    have sm : smallI spot = true := small_of hs0 (by omega)
    have e1 : mulD (.int a1) (.int spot) = some (.int (a1 * spot)) := by simp [mulD, sm]
    have e2 : mulD (.int a2) (.int spot) = some (.int (a2 * spot)) := by simp [mulD, sm]
    have e3 : mulD (.int 2) (.int spot) = some (.int (2 * spot)) := by simp [mulD, sm]
    have e4 : mulD (.int a4) (.int spot) = some (.int (a4 * spot)) := by simp [mulD, sm]
    have e5 : mulD (.int (a4 * spot)) (.int spot) = some (.int (a4 * spot * spot)) := by simp [mulD, sm]
    have hB1 : 0 ≤ c % m1 + a2 * spot + b2 ∧ c % m1 + a2 * spot + b2 < 2 ^ 64 := by
      have := Int.emod_nonneg c (show m1 ≠ 0 by omega)
      have := Int.emod_lt_of_pos c hm1.1
      have : 0 ≤ a2 * spot := Int.mul_nonneg ha2.1 hs0
      have : a2 * spot ≤ 2 ^ 32 * 2 ^ 20 := Int.mul_le_mul (by omega) (by omega) hs0 (by omega)
      omega
    have p1 : powD (.int (c % m1 + a2 * spot + b2)) (.int 5) = some (.int ((c % m1 + a2 * spot + b2) ^ 5)) := by
      have : (c % m1 + a2 * spot + b2).natAbs < 2 ^ 64 := by omega
      simp only [powD]
      rw [if_pos ⟨by decide, by decide, this⟩]
      rfl
    generalize hs1' : (c % m1 + a2 * spot + b2) ^ 5 % m2 = s1
    have hs1a : 0 ≤ s1 ∧ s1 < m2 := by
      subst hs1'
      exact ⟨Int.emod_nonneg _ (by omega), Int.emod_lt_of_pos _ hm2.1⟩
    have sm1 : smallI s1 = true := small_of hs1a.1 (by omega)
    have e6 : mulD (.int s1) (.int (2 * spot + b3)) = some (.int (s1 * (2 * spot + b3))) := by simp [mulD, sm1]
    have hB2 : 0 ≤ s1 * (2 * spot + b3) + a4 * spot * spot + b4 ∧ s1 * (2 * spot + b3) + a4 * spot * spot + b4 < 2 ^ 64 := by
      have : 0 ≤ s1 * (2 * spot + b3) := Int.mul_nonneg hs1a.1 (by omega)
      have : s1 * (2 * spot + b3) ≤ 2 ^ 32 * 2 ^ 22 := Int.mul_le_mul (by omega) (by omega) (by omega) (by omega)
      have h3 : 0 ≤ a4 * spot := Int.mul_nonneg ha4.1 hs0
      have h4 : a4 * spot ≤ 2 ^ 20 * 2 ^ 20 := Int.mul_le_mul (by omega) (by omega) hs0 (by omega)
      have : 0 ≤ a4 * spot * spot := Int.mul_nonneg h3 hs0
      have : a4 * spot * spot ≤ 2 ^ 40 * 2 ^ 20 := Int.mul_le_mul (by omega) (by omega) hs0 (by omega)
      omega
    have p2 : powD (.int (s1 * (2 * spot + b3) + a4 * spot * spot + b4)) (.int 3) = some (.int ((s1 * (2 * spot + b3) + a4 * spot * spot + b4) ^ 3)) := by
      have : (s1 * (2 * spot + b3) + a4 * spot * spot + b4).natAbs < 2 ^ 64 := by omega
      simp only [powD]
      rw [if_pos ⟨by decide, by decide, this⟩]
      rfl
    have p3 : powD (.int 10) (.int 18) = some (.int (10 ^ 18)) := by
      simp only [powD]
      rw [if_pos ⟨by decide, by decide, by decide⟩]
      rfl
    generalize hs2' : (s1 * (2 * spot + b3) + a4 * spot * spot + b4) ^ 3 % m3 = s2
    have hlen : ((cs.map D.int).length : Int) = (cs.length : Int) := by simp
    have nn := ne_nil cs
    by_cases hg : spot < (cs.length : Int) ∧ 10 ^ 18 ≤ (if c < 0 then -c else c)
    · -- a great number
      have hne : cs ≠ [] := by
        intro z; rw [z] at hg; simp at hg; omega
      have hat : atI (cs.map D.int) (spot % (cs.length : Int)) = some (.int c) := by
        rcases hcell with ⟨z, _⟩ | ⟨_, z⟩
        · exact absurd z hne
        · exact z
      have hce : cs.isEmpty = false := by cases cs <;> simp_all
      generalize hac : (if c < 0 then -c else c) = ac
      rw [hac] at hg
      have e7 : mulD (.int 2) (.int (ac - 1000000000000000000)) = some (.int (2 * (ac - 1000000000000000000))) := by
        have : smallI 2 = true := by decide
        simp only [mulD, this, Bool.true_or, if_true]
      have hg0 : 0 ≤ 2 * (ac - 10 ^ 18) + (if c < 0 then 1 else 0) := by split <;> omega
      refine ⟨(2 * (ac - 10 ^ 18) + (if c < 0 then 1 else 0)) % many, penL cs (spot + 1) ((2 * (ac - 10 ^ 18) + (if c < 0 then 1 else 0)) / many), ?_, Int.emod_nonneg _ (by omega), Int.emod_lt_of_pos _ h0, ⟨cs, spot + 1, _, rfl, by omega, by omega, Int.ediv_nonneg hg0 (by omega)⟩⟩
      have hl0 : (0 : Int) < (cs.length : Int) := by omega
      have hlN : 0 < cs.length := by omega
      have hg2 : (1000000000000000000 : Int) ≤ ac := by have := hg.2; omega
      have hat' : ixD (.lst (cs.map D.int)) (.int (spot % (cs.length : Int))) = some (.int c) := hat
      simp [Rs.bind, opt, LO.rd, rdU, fzU, eVar, eC, op2, op1, eBin, eUn, eCmp, bop2, bCmp, eChain, bChain, trU, bTru, eAnd, eOr, eNot, bAnd, bOr, bNot, eIf, rdUs, fzUs, aNil, aCons, eLst, eTup, eLstL, opn, eFn, oNone, oSome, eSl, eJoin, Rt.andThen, ofR, optS, sNil, sSeq, sDrop, sRet, sIf, sSet, sPar, tfName, tfNil, tfCons, tfTup, sAsg, sSub, outR, fnF, cPos, cBoth, Sr.get, arrU, eCall, iSeq, iRng1, iRng2, sFor, eComp, tYesF, eMake, mkF, eRest, sFld, eFnU, boolU, truG, sBrk, sCnt, sRetN, eDic0, eDic, dPairs, keyU, bD, drawB, penL, gtB, ltB, geB, ix_0, ix_1, ix_2, add_i, ixN, modD, intL, divD, absD, lenD, subD, h0, h1', putAt, e1, nn, hce, hl0, hlN, hat', hac, hg.1, hg2, p3, e7]
    · have hs2a : 0 ≤ s2 := by subst hs2'; exact Int.emod_nonneg _ (by omega)
      refine ⟨(s2 / 32) % many, penL cs (spot + 1) 0, ?_, Int.emod_nonneg _ (by omega), Int.emod_lt_of_pos _ h0, ⟨cs, spot + 1, 0, rfl, by omega, by omega, by omega⟩⟩
      rcases hcell with ⟨rfl, rfl⟩ | ⟨hne, hat⟩
      · have nn' : neB (.lst []) (.lst []) = some false := ne_nil []
        have hsn : ¬ spot < 0 := by omega
        simp [Rs.bind, opt, LO.rd, rdU, fzU, eVar, eC, op2, op1, eBin, eUn, eCmp, bop2, bCmp, eChain, bChain, trU, bTru, eAnd, eOr, eNot, bAnd, bOr, bNot, eIf, rdUs, fzUs, aNil, aCons, eLst, eTup, eLstL, opn, eFn, oNone, oSome, eSl, eJoin, Rt.andThen, ofR, optS, sNil, sSeq, sDrop, sRet, sIf, sSet, sPar, tfName, tfNil, tfCons, tfTup, sAsg, sSub, outR, fnF, cPos, cBoth, Sr.get, arrU, eCall, iSeq, iRng1, iRng2, sFor, eComp, tYesF, eMake, mkF, eRest, sFld, eFnU, boolU, truG, sBrk, sCnt, sRetN, eDic0, eDic, dPairs, keyU, bD, drawB, penL, gtB, ltB, geB, ix_0, ix_1, ix_2, add_i, ixN, modD, intL, divD, absD, lenD, subD, h0, h1', putAt, e1, e2, e3, e4, e5, e6, nn', hsn, hm1.1, hm2.1, hm3.1, p1, p2, hs1', hs2']
      · have hlN : 0 < cs.length := by cases cs <;> simp_all
        have hl0 : (0 : Int) < (cs.length : Int) := by omega
        have hce : cs.isEmpty = false := by cases cs <;> simp_all
        have hat' : ixD (.lst (cs.map D.int)) (.int (spot % (cs.length : Int))) = some (.int c) := hat
        by_cases hsn : spot < (cs.length : Int)
        · have hgg : ¬ (1000000000000000000 : Int) ≤ (if c < 0 then -c else c) := fun z => hg ⟨hsn, z⟩
          simp [Rs.bind, opt, LO.rd, rdU, fzU, eVar, eC, op2, op1, eBin, eUn, eCmp, bop2, bCmp, eChain, bChain, trU, bTru, eAnd, eOr, eNot, bAnd, bOr, bNot, eIf, rdUs, fzUs, aNil, aCons, eLst, eTup, eLstL, opn, eFn, oNone, oSome, eSl, eJoin, Rt.andThen, ofR, optS, sNil, sSeq, sDrop, sRet, sIf, sSet, sPar, tfName, tfNil, tfCons, tfTup, sAsg, sSub, outR, fnF, cPos, cBoth, Sr.get, arrU, eCall, iSeq, iRng1, iRng2, sFor, eComp, tYesF, eMake, mkF, eRest, sFld, eFnU, boolU, truG, sBrk, sCnt, sRetN, eDic0, eDic, dPairs, keyU, bD, drawB, penL, gtB, ltB, geB, ix_0, ix_1, ix_2, add_i, ixN, modD, intL, divD, absD, lenD, subD, h0, h1', putAt, e1, e2, e3, e4, e5, e6, nn, hce, hl0, hlN, hat', hsn, p3, hgg, hm1.1, hm2.1, hm3.1, p1, p2, hs1', hs2']
        · simp [Rs.bind, opt, LO.rd, rdU, fzU, eVar, eC, op2, op1, eBin, eUn, eCmp, bop2, bCmp, eChain, bChain, trU, bTru, eAnd, eOr, eNot, bAnd, bOr, bNot, eIf, rdUs, fzUs, aNil, aCons, eLst, eTup, eLstL, opn, eFn, oNone, oSome, eSl, eJoin, Rt.andThen, ofR, optS, sNil, sSeq, sDrop, sRet, sIf, sSet, sPar, tfName, tfNil, tfCons, tfTup, sAsg, sSub, outR, fnF, cPos, cBoth, Sr.get, arrU, eCall, iSeq, iRng1, iRng2, sFor, eComp, tYesF, eMake, mkF, eRest, sFld, eFnU, boolU, truG, sBrk, sCnt, sRetN, eDic0, eDic, dPairs, keyU, bD, drawB, penL, gtB, ltB, geB, ix_0, ix_1, ix_2, add_i, ixN, modD, intL, divD, absD, lenD, subD, h0, h1', putAt, e1, e2, e3, e4, e5, e6, nn, hce, hl0, hlN, hat', hsn, hm1.1, hm2.1, hm3.1, p1, p2, hs1', hs2']
end VL

set_option Elab.async false
set_option linter.all false
set_option maxRecDepth 100000
set_option maxHeartbeats 4000000
namespace VL
open PySem PySem.Spec PyProof.Rows L2
open PySem.W (Frag)

/-! ### loops over mirrors -/
theorem compF_fm {tf : TgF} {tt : TF} {fe : EF} {st : SS} {L : LS} (g : D → Option D) : ∀ (xs acc : List D),
    (∀ d ∈ xs, ∃ st1, tf d st = some st1 ∧ ((∃ y, tt st1 L = .ok true L ∧ fe st1 L = .ok (.d y) L ∧ g d = some y) ∨ (tt st1 L = .ok false L ∧ g d = none))) → acc.length + xs.length ≤ big →
    compF tf tt fe st xs acc L = .ok (acc ++ xs.filterMap g) L
  | [], acc, _, _ => by simp [compF]
  | d :: xs, acc, h, hl => by
    obtain ⟨st1, e1, h1⟩ := h d (.head _)
    have hl' : acc.length < big := by simp at hl; omega
    rcases h1 with ⟨y, e2, e3, e4⟩ | ⟨e2, e4⟩
    · have ih := compF_fm g xs (acc ++ [y]) (fun d hd => h d (.tail _ hd)) (by simp at hl ⊢; omega)
      simp only [compF, e1, opt, e2, bindN_ok, if_true, e3, fzU, hl', ih, List.filterMap_cons, e4, List.append_assoc, List.singleton_append]
    · have ih := compF_fm g xs acc (fun d hd => h d (.tail _ hd)) (by simp at hl ⊢; omega)
      simp [compF, e1, opt, e2, ih, List.filterMap_cons, e4]
/-- with a state: P by the turn, R of each item -/
theorem compF_inv {tf : TgF} {fe : EF} {st : SS} (P : Nat → LS → Prop) (R : D → Prop) : ∀ (xs acc : List D) (i : Nat) (L : LS), P i L →
    (∀ j L, i ≤ j → j < i + xs.length → P j L → ∀ d ∈ xs, ∃ st1 y L', tf d st = some st1 ∧ fe st1 L = .ok (.d y) L' ∧ R y ∧ P (j + 1) L') → acc.length + xs.length ≤ big →
    ∃ ys L', compF tf tYesF fe st xs acc L = .ok (acc ++ ys) L' ∧ ys.length = xs.length ∧ (∀ y ∈ ys, R y) ∧ P (i + xs.length) L'
  | [], acc, i, L, p, _, _ => ⟨[], L, by simp [compF], rfl, by simp, p⟩
  | d :: xs, acc, i, L, p, h, hl => by
    obtain ⟨st1, y, L1, e1, e2, r, p1⟩ := h i L (Nat.le_refl _) (by simp) p d (.head _)
    have hl' : acc.length < big := by simp at hl; omega
    obtain ⟨ys, L', e3, hn, hr, p2⟩ := compF_inv P R xs (acc ++ [y]) (i + 1) L1 p1 (fun j L h1 h2 pj d hd => h j L (by omega) (by simp; omega) pj d (.tail _ hd)) (by simp at hl ⊢; omega)
    refine ⟨y :: ys, L', ?_, by simp [hn], ?_, ?_⟩
    · simp only [compF, e1, opt, tYesF, bindN_ok, if_true, e2, fzU, hl', e3, List.append_assoc, List.singleton_append]
    · intro z hz
      rcases List.mem_cons.mp hz with rfl | hz
      · exact r
      · exact hr z hz
    · rw [List.length_cons, show i + (xs.length + 1) = i + 1 + xs.length by omega]; exact p2
theorem forF_inv {tf : TgF} {body : SF} (P : Nat → SS → LS → Prop) : ∀ (ds : List D) (i : Nat) (st : SS) (L : LS), P i st L →
    (∀ j st L, i ≤ j → j < i + ds.length → P j st L → ∀ d, ds[j - i]? = some d → ∃ st1 st2 L2, tf d st = some st1 ∧ (body st1 L = .nx st2 L2 ∨ body st1 L = .ct st2 L2) ∧ P (j + 1) st2 L2) →
    ∃ st' L', forF tf body ds st L = .nx st' L' ∧ P (i + ds.length) st' L'
  | [], i, st, L, p, _ => ⟨st, L, rfl, p⟩
  | d :: ds, i, st, L, p, h => by
    obtain ⟨st1, st2, L2, e1, e2, p2⟩ := h i st L (Nat.le_refl _) (by simp) p d (by simp)
    obtain ⟨st', L', e3, p3⟩ := forF_inv P ds (i + 1) st2 L2 p2 fun j st L h1 h2 pj d hd => h j st L (by omega) (by simp; omega) pj d (by
      rw [show j - i = (j - (i + 1)) + 1 by omega]; simpa using hd)
    refine ⟨st', L', ?_, by rw [List.length_cons, show i + (ds.length + 1) = i + 1 + ds.length by omega]; exact p3⟩
    rcases e2 with e2 | e2 <;> simp only [forF, e1, optS, e2, e3]

/-! ### draws and picks -/
def Dr (d : FF) : Prop := ∀ {n : Nat} {L : LS} {many : Int}, n < 2 ^ 20 → Pen n L → 0 < many → many < 2 ^ 30 → ∃ r L', d [.l 0, .d (.int many)] L = .ok (.d (.int r)) L' ∧ 0 ≤ r ∧ r < many ∧ Pen (n + 1) L'
def pickB (d : FF) : SF := sRet (eBin ixD (eVar 1) (eCall d [.p 0, .p 1] 2 0 (cPos (aCons (eVar 0) (aCons (eFn lenD (aCons (eVar 1) aNil)) aNil)))))
def Pk (p : FF) : Prop := ∀ {n : Nat} {L : LS} {xs : List D}, n < 2 ^ 20 → Pen n L → xs ≠ [] → xs.length < 2 ^ 30 → ∃ x L', p [.l 0, .d (.lst xs)] L = .ok (.d x) L' ∧ x ∈ xs ∧ Pen (n + 1) L'
theorem pick_ok {d : FF} (h : Dr d) : Pk (fnF 2 2 (pickB d)) := by
  intro n L xs hn p h0 h1
  have hl : (0 : Int) < (xs.length : Int) := by
    cases xs with
    | nil => exact absurd rfl h0
    | cons x xs => rw [List.length_cons]; omega
  obtain ⟨r, L', e, r0, r1, p'⟩ := h hn p hl (by omega)
  have hr : r.toNat < xs.length := by omega
  have hx : ixD (.lst xs) (.int r) = some xs[r.toNat] := by
    simp [ixD, atI, ixN, r0, r1, hr]
  have e1 := p.len
  have e2 := p'.len
  have ht : List.take 1 L' = L' := by rw [← e2]; exact List.take_length
  refine ⟨xs[r.toNat], L', ?_, List.getElem_mem _, p'⟩
  simp [Rs.bind, opt, LO.rd, rdU, fzU, eVar, eC, op2, op1, eBin, eUn, eCmp, bop2, bCmp, eChain, bChain, trU, bTru, eAnd, eOr, eNot, bAnd, bOr, bNot, eIf, rdUs, fzUs, aNil, aCons, eLst, eTup, eLstL, opn, eFn, oNone, oSome, eSl, eJoin, Rt.andThen, ofR, optS, sNil, sSeq, sDrop, sRet, sIf, sSet, sPar, tfName, tfNil, tfCons, tfTup, sAsg, sSub, outR, fnF, cPos, cBoth, Sr.get, arrU, eCall, iSeq, iRng1, iRng2, sFor, eComp, tYesF, eMake, mkF, eRest, sFld, eFnU, boolU, truG, sBrk, sCnt, sRetN, eDic0, eDic, dPairs, keyU, bD, pickB, lenD, e, hx, e1, ht]

/-! ### is it of a type -/
theorem isi_b {K : Frag} {s t : String} {b : Bool} (h : kitB s t = some b) : PySem.W.kitOne K (.type s) (.type t) = some b := L2.kit_ty h
def tyS : D → Option String
  | .non => some "NoneType"
  | .bl _ => some "bool"
  | .int _ => some "int"
  | .str _ => some "str"
  | .lst _ => some "list"
  | .tup _ => some "tuple"
  | .dic _ _ => some "dict"
  | .dit _ _ => some "dict"
  | _ => none
/-- plain data: neither an instance nor the like -/
def Pn (d : D) : Prop := (tyS d).isSome = true
theorem isi_s {K : Frag} {x : D} {s t : String} {b : Bool} (h1 : tyD x = some (.type s)) (h : kitB s t = some b) : isiD K [x, .ty t] = some (.bl b) := by
  simp only [isiD, h1, clsD, Option.bind_some, isi_b h, Option.map_some]
def isI : D → Bool
  | .int _ => true
  | _ => false
def isB : D → Bool
  | .bl _ => true
  | _ => false
def isS : D → Bool
  | .str _ => true
  | _ => false
theorem isi_int {K : Frag} : ∀ {x : D}, Pn x → isiD K [x, .ty "int"] = some (.bl (isI x || isB x))
  | .non, _ | .bl _, _ | .int _, _ | .str _, _ | .lst _, _ | .tup _, _ | .dic _ _, _ | .dit _ _, _ => isi_s rfl (by dsimp only [isI, isB, isS, Bool.or_false, Bool.or_true, Bool.false_or]; decide)
theorem isi_bool {K : Frag} : ∀ {x : D}, Pn x → isiD K [x, .ty "bool"] = some (.bl (isB x))
  | .non, _ | .bl _, _ | .int _, _ | .str _, _ | .lst _, _ | .tup _, _ | .dic _ _, _ | .dit _ _, _ => isi_s rfl (by dsimp only [isI, isB, isS, Bool.or_false, Bool.or_true, Bool.false_or]; decide)
theorem isi_str {K : Frag} : ∀ {x : D}, Pn x → isiD K [x, .ty "str"] = some (.bl (isS x))
  | .non, _ | .bl _, _ | .int _, _ | .str _, _ | .lst _, _ | .tup _, _ | .dic _ _, _ | .dit _ _, _ => isi_s rfl (by dsimp only [isI, isB, isS, Bool.or_false, Bool.or_true, Bool.false_or]; decide)
end VL

set_option Elab.async false
set_option linter.all false
set_option maxRecDepth 100000
set_option maxHeartbeats 4000000
namespace VL
open PySem PySem.Spec PyProof.Rows L2
open PySem.W (Frag)

/-! ### signs of texts -/
def sgn (c : Nat) : D := .str ⟨#[c]⟩
theorem signs_eq (x : Str) : signsD x = x.cps.toList.map sgn := rfl
theorem in_sgn (c : Nat) (t : Str) : inB (sgn c) (.str t) = some (decide (c ∈ t.cps.toList)) := by simp [inB, sgn, inSign]
theorem notIn_sgn (c : Nat) (t : Str) : notInB (sgn c) (.str t) = some (!decide (c ∈ t.cps.toList)) := by
  unfold notInB
  rw [in_sgn]; rfl
theorem set_get {st : SS} {j : Nat} (h : j < st.length) (u : U) : (st.set j (some u))[j]? = some (some u) := by simp [h]
theorem comp_in {st : SS} {j : Nat} (h : j < st.length) (s t : Str) (hs : s.length ≤ 16777216) (L : LS) :
    compF (tfName j) tYesF (eCmp inB (eVar j) (eC (.str t))) st (signsD s) [] L = .ok (s.cps.toList.map fun c => .bl (decide (c ∈ t.cps.toList))) L := by
  rw [compF_fm (fun d => (inB d (.str t)).map .bl) (signsD s) []]
  · congr 1
    rw [signs_eq, List.nil_append, List.filterMap_map]
    rw [← List.filterMap_eq_map]
    have e : ((fun d => (inB d (.str t)).map D.bl) ∘ sgn) = (some ∘ fun c => D.bl (decide (c ∈ t.cps.toList))) := by
      funext c
      show (inB (sgn c) (.str t)).map D.bl = some _
      rw [in_sgn]; rfl
    rw [e]
  · intro d hd
    rw [signs_eq, List.mem_map] at hd
    obtain ⟨c, _, rfl⟩ := hd
    refine ⟨st.set j (some (.d (sgn c))), rfl, .inl ⟨.bl (decide (c ∈ t.cps.toList)), rfl, ?_, by rw [in_sgn]; rfl⟩⟩
    simp [Rs.bind, opt, LO.rd, rdU, fzU, eVar, eC, op2, op1, eBin, eUn, eCmp, bop2, bCmp, eChain, bChain, trU, bTru, eAnd, eOr, eNot, bAnd, bOr, bNot, eIf, rdUs, fzUs, aNil, aCons, eLst, eTup, eLstL, opn, eFn, oNone, oSome, eSl, eJoin, Rt.andThen, ofR, optS, sNil, sSeq, sDrop, sRet, sIf, sSet, sPar, tfName, tfNil, tfCons, tfTup, sAsg, sSub, outR, fnF, cPos, cBoth, Sr.get, arrU, eCall, iSeq, iRng1, iRng2, sFor, eComp, tYesF, eMake, mkF, eRest, sFld, eFnU, boolU, truG, sBrk, sCnt, sRetN, eDic0, eDic, dPairs, keyU, bD, big, set_get h, in_sgn, h]
  · rw [signs_eq]; simp; exact hs
theorem comp_notIn {st : SS} {j : Nat} (h : j < st.length) (s t : Str) (hs : s.length ≤ 16777216) (L : LS) :
    compF (tfName j) (bCmp notInB (eVar j) (eC (.str t))) (eVar j) st (signsD s) [] L = .ok ((s.cps.toList.filter fun c => !decide (c ∈ t.cps.toList)).map sgn) L := by
  rw [compF_fm (fun d => match notInB d (.str t) with
    | some true => some d
    | _ => none) (signsD s) []]
  · congr 1
    rw [signs_eq, List.nil_append, List.filterMap_map]
    induction s.cps.toList with
    | nil => rfl
    | cons c cs ih =>
      have e : ((fun d => match notInB d (.str t) with
        | some true => some d
        | _ => none) ∘ sgn) c = if (!decide (c ∈ t.cps.toList)) = true then some (sgn c) else none := by
        show (match notInB (sgn c) (.str t) with
        | some true => some (sgn c)
        | _ => none) = _
        rw [notIn_sgn]
        cases decide (c ∈ t.cps.toList) <;> rfl
      rw [List.filterMap_cons, e, List.filter_cons]
      cases hb : decide (c ∈ t.cps.toList) <;> simp [ih]
  · intro d hd
    rw [signs_eq, List.mem_map] at hd
    obtain ⟨c, _, rfl⟩ := hd
    refine ⟨st.set j (some (.d (sgn c))), rfl, ?_⟩
    have e : bCmp notInB (eVar j) (eC (.str t)) (st.set j (some (.d (sgn c)))) L = .ok (!decide (c ∈ t.cps.toList)) L := by
      simp [Rs.bind, opt, LO.rd, rdU, fzU, eVar, eC, op2, op1, eBin, eUn, eCmp, bop2, bCmp, eChain, bChain, trU, bTru, eAnd, eOr, eNot, bAnd, bOr, bNot, eIf, rdUs, fzUs, aNil, aCons, eLst, eTup, eLstL, opn, eFn, oNone, oSome, eSl, eJoin, Rt.andThen, ofR, optS, sNil, sSeq, sDrop, sRet, sIf, sSet, sPar, tfName, tfNil, tfCons, tfTup, sAsg, sSub, outR, fnF, cPos, cBoth, Sr.get, arrU, eCall, iSeq, iRng1, iRng2, sFor, eComp, tYesF, eMake, mkF, eRest, sFld, eFnU, boolU, truG, sBrk, sCnt, sRetN, eDic0, eDic, dPairs, keyU, bD, big, set_get h, notIn_sgn, h]
    rw [e, notIn_sgn]
    cases decide (c ∈ t.cps.toList) with
    | true => exact .inr ⟨rfl, rfl⟩
    | false => exact .inl ⟨sgn c, rfl, by simp [eVar, h], rfl⟩
  · rw [signs_eq]; simp; exact hs
theorem bls_map (f : Nat → Bool) : ∀ cs : List Nat, blsD (cs.map fun c => .bl (f c)) = some (cs.map f)
  | [] => rfl
  | c :: cs => by simp [blsD, bls_map f cs]
theorem all_map (f : Nat → Bool) (cs : List Nat) : allD [.lst (cs.map fun c => .bl (f c))] = some (.bl (cs.all f)) := by
  simp only [allD, bls_map, Option.map_some, List.all_map]
  rfl
theorem py_sgn : ∀ cs : List Nat, toPyL (cs.map sgn) = some (cs.map fun c => .str ⟨#[c]⟩)
  | [] => rfl
  | c :: cs => by simp [toPyL, toPy, sgn, py_sgn cs]
theorem depth_strs : ∀ cs : List Nat, PyData.depthAll (cs.map fun c => .str ⟨#[c]⟩) = 0
  | [] => rfl
  | c :: cs => by simp [PyData.depthAll, PyData.depth, depth_strs cs]
theorem eq_sgn (cs : List Nat) : eqB (.lst (cs.map sgn)) (.lst []) = some cs.isEmpty := by
  unfold eqB
  simp only [toPy, py_sgn, Option.map_some, Option.bind_some, toPyL, PyData.depth, depth_strs]
  cases cs <;> simp [PyData.eqv, PyData.eqvAll]
theorem ne_sgn (cs : List Nat) : neB (.lst (cs.map sgn)) (.lst []) = some (!cs.isEmpty) := by
  unfold neB
  rw [eq_sgn]; rfl
theorem eq_strs (x y : Str) : eqB (.str x) (.str y) = some (x == y) := by simp [eqB, toPy, PyData.depth, PyData.eqv]
theorem ne_strs (x y : Str) : neB (.str x) (.str y) = some (!(x == y)) := by unfold neB; rw [eq_strs]; rfl
theorem len_str (x : Str) (h : x.length ≤ 16777216) : lenD [.str x] = some (.int x.length) := by simp [lenD, big, h]
end VL

set_option Elab.async false
set_option linter.all false
set_option maxRecDepth 100000
set_option maxHeartbeats 4000000
namespace VL
open PySem PySem.Spec PyProof.Rows L2
open PySem.W (Frag)
open PySem.NumText (AllDigits digitsVal)

/-! ### whole numbers written in figures -/
abbrev lt (x : Str) : List Nat := x.cps.toList
theorem str_ext {x y : Str} (h : lt x = lt y) : x = y := by
  obtain ⟨a⟩ := x
  obtain ⟨b⟩ := y
  have : a = b := Array.ext' h
  rw [this]
theorem beq_lt (x y : Str) : (x == y) = decide (lt x = lt y) := by
  by_cases h : lt x = lt y
  · rw [decide_eq_true h, str_ext h]; simp
  · rw [decide_eq_false h]
    exact beq_eq_false_iff_ne.mpr fun z => h (by rw [z])
theorem lt_cut1 (z : Str) : lt (cutS z (some 1) none) = (lt z).drop 1 := by
  unfold cutS
  have e0 : z.length = (lt z).length := by simp [Str.length]
  have e1 : HT.sIx z.length 0 (some 1) = min 1 z.length := HT.sIx_nat z.length 0 1
  rw [HT.sIx_none, e1, e0]
  show ((List.drop _ (lt z)).take _).toArray.toList = _
  generalize lt z = l
  cases l with
  | nil => rfl
  | cons x r =>
    have : min 1 (x :: r).length = 1 := by simp
    rw [this]
    simp
theorem lt_cut0 (z : Str) : lt (cutS z none (some 1)) = (lt z).take 1 := by
  unfold cutS
  have e0 : z.length = (lt z).length := by simp [Str.length]
  have e1 : HT.sIx z.length z.length (some 1) = min 1 z.length := HT.sIx_nat z.length z.length 1
  rw [HT.sIx_none, e1, e0]
  show ((List.drop _ (lt z)).take _).toArray.toList = _
  generalize lt z = l
  cases l with
  | nil => rfl
  | cons x r =>
    have : min 1 (x :: r).length = 1 := by simp
    rw [this]
    simp
/-- a text without its minus -/
def figS (s : Str) : Str := if cutS s none (some 1) == "-" then cutS s (some 1) none else s
theorem lt_minus : lt "-" = [45] := by decide +kernel
theorem figS_lt (s : Str) : lt (figS s) = (match lt s with
    | 45 :: r => r
    | l => l) := by
  unfold figS
  rw [beq_lt, lt_cut0, lt_minus]
  split
  · rename_i h
    have h := of_decide_eq_true h
    rw [lt_cut1]
    split
    · rename_i r e; rw [e]; rfl
    · rename_i e
      cases hl : lt s with
      | nil => rw [hl] at h; simp at h
      | cons c r =>
        rw [hl] at h
        simp at h
        subst h
        exact absurd hl (e r)
  · rename_i h
    split
    · rename_i r e
      rw [e] at h
      exact absurd (decide_eq_true rfl) h
    · rfl
theorem signs_neg (m : Nat) (h : 0 < m) : lt (Str.ofString (toString (-(m : Int)))) = 45 :: (Nat.toDigits 10 m).map Char.toNat := by
  show (Str.ofString (toString (-(m : Int)))).cps.toList = _
  rw [signs_ofString]
  obtain ⟨k, rfl⟩ : ∃ k, m = k + 1 := ⟨m - 1, by omega⟩
  have e : toString (-((k + 1 : Nat) : Int)) = "-" ++ Nat.repr (k + 1) := rfl
  rw [e, String.toList_append, List.map_append, Nat.toList_repr]
  rfl
theorem back_map : ∀ cs : List Nat, AllDigits cs → (cs.map Char.ofNat).map Char.toNat = cs
  | [], _ => rfl
  | c :: cs, h => by
    have hc := h c (.head _)
    have ih := back_map cs fun d hd => h d (.tail _ hd)
    simp only [List.map_cons, ih]
    congr 1
    have : ∀ n : Nat, n < 58 → (Char.ofNat n).toNat = n := by decide
    exact this c (by omega)
theorem AllDigits.drop {cs : List Nat} (h : AllDigits cs) (p : Nat → Bool) : AllDigits (cs.dropWhile p) := fun c hc => h c ((List.dropWhile_suffix p).subset hc)
/-- what str writes of a number read from figures -/
theorem canon {cs : List Nat} (h : AllDigits cs) (h0 : cs ≠ []) : (Nat.toDigits 10 (digitsVal cs)).map Char.toNat = cs ↔ cs = [48] ∨ cs.head? ≠ some 48 := by
  rw [PySem.NumText.toDigits_all cs h]
  have hd := AllDigits.drop h (· == 48)
  cases e : cs.dropWhile (· == 48) with
  | nil =>
    constructor
    · intro z; exact .inl z.symm
    · intro z
      rcases z with z | z
      · rw [z]; rfl
      · cases cs with
        | nil => exact absurd rfl h0
        | cons c r =>
          rw [List.dropWhile_cons] at e
          by_cases hc : (c == 48) = true
          · exact absurd (by rw [List.head?_cons, beq_iff_eq.mp hc]) z
          · rw [if_neg hc] at e; cases e
  | cons c r =>
    have hm : ((c :: r).map Char.ofNat).map Char.toNat = c :: r := back_map _ (by rw [← e]; exact hd)
    show ((c :: r).map Char.ofNat).map Char.toNat = cs ↔ _
    rw [hm]
    have hne : c ≠ 48 := by
      intro z
      have := List.head?_dropWhile_not (p := fun x : Nat => x == 48) cs
      rw [e] at this
      simp [z] at this
    constructor
    · intro z
      rw [← z]
      exact .inr (by rw [List.head?_cons]; simp [hne])
    · intro z
      cases cs with
      | nil => exact absurd rfl h0
      | cons d s =>
        rcases z with z | z
        · rw [z] at e; simp at e
        · rw [List.head?_cons] at z
          have hd : ¬ (d == 48) = true := fun q => z (by rw [beq_iff_eq.mp q])
          rw [List.dropWhile_cons, if_neg hd] at e
          exact e.symm
theorem val_zero {cs : List Nat} (h : AllDigits cs) (h0 : cs ≠ []) (hv : digitsVal cs = 0) : cs.head? = some 48 := by
  cases cs with
  | nil => exact absurd rfl h0
  | cons c r =>
    have hc := h c (.head _)
    by_cases e : c = 48
    · rw [e]; rfl
    · have := PySem.NumText.digitsVal_pos (c := c) (cs := r) (by omega)
      omega
/-- the number that a text in figures writes, and when str writes it back -/
theorem num_text (s : Str) (hs : s.length ≤ 4300) (h : AllDigits (lt (figS s))) (h0 : lt (figS s) ≠ []) :
    ∃ n : Int, intText? s = some n ∧ n.natAbs = digitsVal (lt (figS s)) ∧ (Str.ofString (toString n) == s) = (s == "0" || !((lt (figS s)).head? == some 48)) := by
  have hf := figS_lt s
  have e0 : lt "0" = [48] := by decide +kernel
  by_cases hm : ∃ r, lt s = 45 :: r
  · obtain ⟨r, e⟩ := hm
    have hr : lt (figS s) = r := by rw [hf, e]; rfl
    rw [hr] at h h0 ⊢
    refine ⟨_, PySem.intText_neg e h h0 hs, by simp, ?_⟩
    rw [beq_lt, beq_lt, e0, e]
    have d0 : decide (45 :: r = [48]) = false := decide_eq_false (by simp)
    rw [d0, Bool.false_or]
    by_cases hv : digitsVal r = 0
    · rw [hv, val_zero h h0 hv]
      have : lt (Str.ofString (toString (-((0 : Nat) : Int)))) = [48] := by decide +kernel
      rw [this]
      have : decide ([48] = 45 :: r) = false := decide_eq_false (by simp)
      rw [this]; rfl
    · rw [signs_neg _ (by omega)]
      have hc := canon h h0
      by_cases q : r.head? = some 48
      · have n1 : ¬ (Nat.toDigits 10 (digitsVal r)).map Char.toNat = r := by
          rw [hc]
          rintro (z | z)
          · rw [z] at hv; exact hv (by decide)
          · exact z q
        rw [decide_eq_false (by simpa using n1), q]; rfl
      · have n1 := hc.mpr (.inr q)
        rw [decide_eq_true (by rw [n1])]
        have : (r.head? == some 48) = false := beq_eq_false_iff_ne.mpr q
        rw [this]; rfl
  · have hr : lt (figS s) = lt s := by
      rw [hf]
      split
      · rename_i r e; exact absurd ⟨r, e⟩ hm
      · rfl
    rw [hr] at h h0 ⊢
    refine ⟨_, PySem.intText_digits h h0 hs, by simp, ?_⟩
    have e1 : lt (Str.ofString (toString ((digitsVal (lt s) : Nat) : Int))) = (Nat.toDigits 10 (digitsVal (lt s))).map Char.toNat := PySem.W.KIN.signs_num _
    rw [beq_lt, beq_lt, e0, e1]
    have hc := canon h h0
    by_cases q : lt s = [48] ∨ (lt s).head? ≠ some 48
    · rw [decide_eq_true (hc.mpr q)]
      rcases q with q | q
      · rw [decide_eq_true q]; rfl
      · have : ((lt s).head? == some 48) = false := beq_eq_false_iff_ne.mpr q
        rw [this]; simp
    · rw [decide_eq_false fun z => q (hc.mp z)]
      have q1 : ¬ lt s = [48] := fun z => q (.inl z)
      have q2 : (lt s).head? = some 48 := Classical.not_not.mp fun z => q (.inr z)
      rw [decide_eq_false q1, q2]; rfl
end VL

set_option Elab.async false
set_option linter.all false
set_option maxRecDepth 100000
set_option maxHeartbeats 4000000
set_option exponentiation.threshold 5000
namespace VL
open PySem PySem.Spec PyProof.Rows L2
open PySem.W (Frag)
open PySem.NumText (AllDigits digitsVal)

/-! ### repr of small lists is written -/
theorem textFrom_le (m : Nat) : ∀ (ts : List Str) (k : Nat) (acc : Str), (∀ t ∈ ts, t.length ≤ m) → (textFrom k acc ts).length ≤ acc.length + ts.length * (m + 2)
  | [], k, acc, _ => by simp [textFrom]
  | t :: ts, k, acc, h => by
    have h1 := h t (.head _)
    have c2 : Str.length ", " = 2 := by decide +kernel
    have c0 : Str.length "" = 0 := by decide +kernel
    unfold textFrom
    refine Nat.le_trans (textFrom_le m ts _ _ fun t ht => h t (.tail _ ht)) ?_
    rw [List.length_cons, Nat.succ_mul]
    split <;> simp only [Str.length_append, c2, c0] <;> omega
def Sm : PyData → Prop
  | .none => True
  | .bool _ => True
  | .int i => i.natAbs.log2 < 1920
  | _ => False
theorem sm_shown {p : PyData} (h : Sm p) : p.shown.length ≤ 1921 ∧ p.showable = true ∧ p.hasDict = false ∧ p.depth = 0 := by
  cases p with
  | none => exact ⟨by decide +kernel, rfl, rfl, rfl⟩
  | bool b => cases b <;> exact ⟨by decide +kernel, rfl, rfl, rfl⟩
  | int i =>
    have h : i.natAbs.log2 < 1920 := h
    refine ⟨?_, by simp [PyData.showable, h], rfl, rfl⟩
    have e := int_text_length_le (k := 1920) (by decide) h
    simp only [PyData.shown]
    show (Str.ofString (toString i)).length ≤ 1921
    rw [PySem.ofString_length]; exact e
  | _ => exact h.elim
theorem sm_all : ∀ {ps : List PyData}, (∀ p ∈ ps, Sm p) → (∀ t ∈ PyData.shownAll ps, t.length ≤ 1921) ∧ (PyData.shownAll ps).length = ps.length ∧ PyData.showableAll ps = true ∧ PyData.hasDictAll ps = false ∧ PyData.depthAll ps = 0
  | [], _ => ⟨by simp [PyData.shownAll], rfl, rfl, rfl, rfl⟩
  | p :: ps, h => by
    obtain ⟨a1, a2, a3, a4⟩ := sm_shown (h p (.head _))
    obtain ⟨b1, b2, b3, b4, b5⟩ := sm_all (ps := ps) fun q hq => h q (.tail _ hq)
    refine ⟨?_, by simp [PyData.shownAll, b2], by simp [PyData.showableAll, a2, b3], by simp [PyData.hasDictAll, a3, b4], by simp [PyData.depthAll, a4, b5]⟩
    intro t ht
    simp only [PyData.shownAll, List.mem_cons] at ht
    rcases ht with rfl | ht
    · exact a1
    · exact b1 t ht
theorem repr_sm {xs : List D} {ps : List PyData} (e : toPyL xs = some ps) (h : ∀ p ∈ ps, Sm p) (hl : ps.length ≤ 1000) : ∃ z, reprD [.lst xs] = some (.str z) := by
  obtain ⟨b1, b2, b3, b4, b5⟩ := sm_all h
  have c1 : (PyData.shown (.list ps)).length ≤ big := by
    have e1 : Str.length "[" = 1 := by decide +kernel
    have e2 : Str.length "]" = 1 := by decide +kernel
    have := textFrom_le 1921 (PyData.shownAll ps) 0 "[" b1
    simp only [PyData.shown, listText, Str.length_append, e2]
    have hb : ps.length * 1923 ≤ 1000 * 1923 := Nat.mul_le_mul_right _ hl
    rw [b2, e1] at this
    show _ ≤ 16777216
    omega
  refine ⟨PyData.shown (.list ps), ?_⟩
  show ((toPyL xs).bind fun ps => if PyData.showable (.list ps) ∧ PyData.hasDict (.list ps) = false ∧ PyData.depth (.list ps) ≤ 60 ∧ (PyData.shown (.list ps)).length ≤ big then some (D.str (PyData.shown (.list ps))) else none) = _
  rw [e, Option.bind_some, if_pos ⟨by simpa [PyData.showable] using b3, by simpa [PyData.hasDict] using b4, by simp [PyData.depth, b5], c1⟩]
theorem digits_lt : ∀ (cs : List Nat), AllDigits cs → digitsVal cs < 10 ^ cs.length := by
  have gen : ∀ (cs : List Nat) (a : Nat), AllDigits cs → cs.foldl (fun acc c => acc * 10 + (c - 48)) a < (a + 1) * 10 ^ cs.length := by
    intro cs
    induction cs with
    | nil => intro a _; simp
    | cons c cs ih =>
      intro a h
      have hc := h c (.head _)
      have := ih (a * 10 + (c - 48)) fun d hd => h d (.tail _ hd)
      rw [List.foldl_cons]
      refine Nat.lt_of_lt_of_le this ?_
      rw [List.length_cons, Nat.pow_succ, Nat.mul_comm (10 ^ cs.length) 10, ← Nat.mul_assoc]
      exact Nat.mul_le_mul_right _ (by omega)
  intro cs h
  have := gen cs 0 h
  simpa [digitsVal] using this
theorem log_small {n : Int} {k : Nat} (h : n.natAbs < 10 ^ k) (hk : k ≤ 500) : n.natAbs.log2 < 1920 := by
  have h1 : n.natAbs < 10 ^ 500 := Nat.lt_of_lt_of_le h (Nat.pow_le_pow_right (by decide) hk)
  have h2 : 10 ^ 500 < 2 ^ 1920 := by decide +kernel
  by_cases h0 : n.natAbs = 0
  · rw [h0]; decide
  · exact (Nat.log2_lt h0).mpr (Nat.lt_trans h1 h2)
end VL

set_option Elab.async false
set_option linter.all false
set_option maxRecDepth 100000
set_option maxHeartbeats 4000000
namespace VL.P
open PySem PySem.Spec PyProof.Rows L2 VL
open PySem.W (Frag)
def topS (i : Nat) : Stmt := PySem.Challenge.pw_stayhouse_k01_looks_at_any_values.main.body.getD i (.Pass ⟨0, 0, 0, 0⟩)
abbrev s_l_draw : Stmt := topS 19
theorem sc_l_draw : FnScope ["_law_pen_here", "_law_many", "_law_digit", "_law_spot", "_law_cell", "_law_great", "_law_stirred"] ["_law_pen_here", "_law_many"] (defScope s_l_draw) := ⟨rfl, rfl, rfl, by decide +kernel, rfl, by decide +kernel, by decide +kernel⟩
abbrev s_l_pick : Stmt := topS 20
theorem sc_l_pick : FnScope ["_law_pen_here", "_law_some"] ["_law_pen_here", "_law_some"] (defScope s_l_pick) := ⟨rfl, rfl, rfl, by decide +kernel, rfl, by decide +kernel, by decide +kernel⟩
abbrev s_l_figures : Stmt := topS 23
theorem sc_l_figures : FnScope ["_law_pen_here", "_law_found", "_law_spot"] ["_law_pen_here"] (defScope s_l_figures) := ⟨rfl, rfl, rfl, by decide +kernel, rfl, by decide +kernel, by decide +kernel⟩
abbrev s_l_letters : Stmt := topS 22
theorem sc_l_letters : FnScope ["_law_pen_here", "_law_found", "_law_spot", "_law_lap"] ["_law_pen_here"] (defScope s_l_letters) := ⟨rfl, rfl, rfl, by decide +kernel, rfl, by decide +kernel, by decide +kernel⟩
abbrev s_l_written : Stmt := topS 25
theorem sc_l_written : FnScope ["_law_page", "_law_plain", "_law_sign"] ["_law_page"] (defScope s_l_written) := ⟨rfl, rfl, rfl, by decide +kernel, rfl, by decide +kernel, by decide +kernel⟩
abbrev s_is_integer : Stmt := topS 7
theorem sc_is_integer : FnScope ["value"] ["value"] (defScope s_is_integer) := ⟨rfl, rfl, rfl, by decide +kernel, rfl, by decide +kernel, by decide +kernel⟩
abbrev s_is_amount : Stmt := topS 9
theorem sc_is_amount : FnScope ["value"] ["value"] (defScope s_is_amount) := ⟨rfl, rfl, rfl, by decide +kernel, rfl, by decide +kernel, by decide +kernel⟩
abbrev s_is_name : Stmt := topS 10
theorem sc_is_name : FnScope ["value", "letter"] ["value"] (defScope s_is_name) := ⟨rfl, rfl, rfl, by decide +kernel, rfl, by decide +kernel, by decide +kernel⟩
abbrev s_is_figures : Stmt := topS 2
theorem sc_is_figures : FnScope ["word", "figures", "figure"] ["word"] (defScope s_is_figures) := ⟨rfl, rfl, rfl, by decide +kernel, rfl, by decide +kernel, by decide +kernel⟩
abbrev s_number_of : Stmt := topS 3
theorem sc_number_of : FnScope ["word", "least", "most", "found"] ["word", "least", "most"] (defScope s_number_of) := ⟨rfl, rfl, rfl, by decide +kernel, rfl, by decide +kernel, by decide +kernel⟩
abbrev s_l_page_right : Stmt := topS 27
theorem sc_l_page_right : FnScope ["_law_page", "_law_low", "_law_high", "_law_found", "_law_strange", "_law_told_so", "_law_inside", "_law_is_fine", "_law_sign"] ["_law_page", "_law_low", "_law_high"] (defScope s_l_page_right) := ⟨rfl, rfl, rfl, by decide +kernel, rfl, by decide +kernel, by decide +kernel⟩
abbrev s_Denial_bool : Stmt := inClass (topS 13) 0
theorem sc_Denial_bool : FnScope ["self"] ["self"] (defScope s_Denial_bool) := ⟨rfl, rfl, rfl, by decide +kernel, rfl, by decide +kernel, by decide +kernel⟩
abbrev s_Lacking_init : Stmt := inClass (topS 16) 0
theorem sc_Lacking_init : FnScope ["self", "i", "j"] ["self", "i", "j"] (defScope s_Lacking_init) := ⟨rfl, rfl, rfl, by decide +kernel, rfl, by decide +kernel, by decide +kernel⟩
abbrev s_Moved_init : Stmt := inClass (topS 15) 0
theorem sc_Moved_init : FnScope ["self", "moves"] ["self", "moves"] (defScope s_Moved_init) := ⟨rfl, rfl, rfl, by decide +kernel, rfl, by decide +kernel, by decide +kernel⟩
abbrev s_l_papers_right : Stmt := topS 28
theorem sc_l_papers_right : FnScope ["_law_thing_here", "_law_other", "_law_fine", "_law_wrong", "_law_told_so"] ["_law_thing_here", "_law_other"] (defScope s_l_papers_right) := ⟨rfl, rfl, rfl, by decide +kernel, rfl, by decide +kernel, by decide +kernel⟩
abbrev s_l_pen : Stmt := topS 18
theorem sc_l_pen : FnScope ["_law_script"] ["_law_script"] (defScope s_l_pen) := ⟨rfl, rfl, rfl, by decide +kernel, rfl, by decide +kernel, by decide +kernel⟩
abbrev s_l_is_plain : Stmt := topS 24
theorem sc_l_is_plain : FnScope ["_law_thing_here"] ["_law_thing_here"] (defScope s_l_is_plain) := ⟨rfl, rfl, rfl, by decide +kernel, rfl, by decide +kernel, by decide +kernel⟩
abbrev s_is_within : Stmt := topS 8
theorem sc_is_within : FnScope ["value", "least", "most"] ["value", "least", "most"] (defScope s_is_within) := ⟨rfl, rfl, rfl, by decide +kernel, rfl, by decide +kernel, by decide +kernel⟩
abbrev s_l_right : Stmt := topS 26
theorem sc_l_right : FnScope ["_law_thing_here", "_law_low", "_law_high", "_law_told_so", "_law_is_plain_here"] ["_law_thing_here", "_law_low", "_law_high"] (defScope s_l_right) := ⟨rfl, rfl, rfl, by decide +kernel, rfl, by decide +kernel, by decide +kernel⟩
abbrev s_l_thing : Stmt := topS 21
theorem sc_l_thing : FnScope ["_law_pen_here", "_law_some"] ["_law_pen_here"] (defScope s_l_thing) := ⟨rfl, rfl, rfl, by decide +kernel, rfl, by decide +kernel, by decide +kernel⟩
abbrev s_law : Stmt := topS 29
theorem sc_law : FnScope ["_law_script", "_law_pen_here", "_law_lap", "_law_low", "_law_high", "_law_thing_here", "_law_told_so"] ["_law_script"] (defScope s_law) := ⟨rfl, rfl, rfl, by decide +kernel, rfl, by decide +kernel, by decide +kernel⟩
/-- where the top has put the defs and classes -/
structure Ad where
  f_l_draw : Addr
  d_l_draw : FuncData
  f_l_pick : Addr
  d_l_pick : FuncData
  f_l_figures : Addr
  d_l_figures : FuncData
  f_l_letters : Addr
  d_l_letters : FuncData
  f_l_written : Addr
  d_l_written : FuncData
  f_is_integer : Addr
  d_is_integer : FuncData
  f_is_amount : Addr
  d_is_amount : FuncData
  f_is_name : Addr
  d_is_name : FuncData
  f_is_figures : Addr
  d_is_figures : FuncData
  f_number_of : Addr
  d_number_of : FuncData
  f_l_page_right : Addr
  d_l_page_right : FuncData
  f_Denial_bool : Addr
  d_Denial_bool : FuncData
  f_Lacking_init : Addr
  d_Lacking_init : FuncData
  f_Moved_init : Addr
  d_Moved_init : FuncData
  f_l_papers_right : Addr
  d_l_papers_right : FuncData
  f_l_pen : Addr
  d_l_pen : FuncData
  f_l_is_plain : Addr
  d_l_is_plain : FuncData
  f_is_within : Addr
  d_is_within : FuncData
  f_l_right : Addr
  d_l_right : FuncData
  f_l_thing : Addr
  d_l_thing : FuncData
  f_law : Addr
  d_law : FuncData
  c_Paper : Addr
  c_Denial : Addr
  c_Moved : Addr
  c_Lacking : Addr
/-- what the top has left -/
structure Tp (K : Frag) (mg : Str → Option Value) (a : Ad) : Prop where
  fun_l_draw : Fun K "_law_draw" "_law_draw" s_l_draw a.f_l_draw a.d_l_draw
  mg__law_draw : mg "_law_draw" = some (.ref a.f_l_draw)
  fun_l_pick : Fun K "_law_pick" "_law_pick" s_l_pick a.f_l_pick a.d_l_pick
  mg__law_pick : mg "_law_pick" = some (.ref a.f_l_pick)
  fun_l_figures : Fun K "_law_figures" "_law_figures" s_l_figures a.f_l_figures a.d_l_figures
  mg__law_figures : mg "_law_figures" = some (.ref a.f_l_figures)
  fun_l_letters : Fun K "_law_letters" "_law_letters" s_l_letters a.f_l_letters a.d_l_letters
  mg__law_letters : mg "_law_letters" = some (.ref a.f_l_letters)
  fun_l_written : Fun K "_law_written" "_law_written" s_l_written a.f_l_written a.d_l_written
  mg__law_written : mg "_law_written" = some (.ref a.f_l_written)
  fun_is_integer : Fun K "is_integer" "is_integer" s_is_integer a.f_is_integer a.d_is_integer
  mg_is_integer : mg "is_integer" = some (.ref a.f_is_integer)
  fun_is_amount : Fun K "is_amount" "is_amount" s_is_amount a.f_is_amount a.d_is_amount
  mg_is_amount : mg "is_amount" = some (.ref a.f_is_amount)
  fun_is_name : Fun K "is_name" "is_name" s_is_name a.f_is_name a.d_is_name
  mg_is_name : mg "is_name" = some (.ref a.f_is_name)
  fun_is_figures : Fun K "is_figures" "is_figures" s_is_figures a.f_is_figures a.d_is_figures
  mg_is_figures : mg "is_figures" = some (.ref a.f_is_figures)
  fun_number_of : Fun K "number_of" "number_of" s_number_of a.f_number_of a.d_number_of
  mg_number_of : mg "number_of" = some (.ref a.f_number_of)
  fun_l_page_right : Fun K "_law_page_right" "_law_page_right" s_l_page_right a.f_l_page_right a.d_l_page_right
  mg__law_page_right : mg "_law_page_right" = some (.ref a.f_l_page_right)
  fun_Denial_bool : Fun K "__bool__" "Denial.__bool__" s_Denial_bool a.f_Denial_bool a.d_Denial_bool
  fun_Lacking_init : Fun K "__init__" "Lacking.__init__" s_Lacking_init a.f_Lacking_init a.d_Lacking_init
  fun_Moved_init : Fun K "__init__" "Moved.__init__" s_Moved_init a.f_Moved_init a.d_Moved_init
  fun_l_papers_right : Fun K "_law_papers_right" "_law_papers_right" s_l_papers_right a.f_l_papers_right a.d_l_papers_right
  mg__law_papers_right : mg "_law_papers_right" = some (.ref a.f_l_papers_right)
  fun_l_pen : Fun K "_law_pen" "_law_pen" s_l_pen a.f_l_pen a.d_l_pen
  mg__law_pen : mg "_law_pen" = some (.ref a.f_l_pen)
  fun_l_is_plain : Fun K "_law_is_plain" "_law_is_plain" s_l_is_plain a.f_l_is_plain a.d_l_is_plain
  mg__law_is_plain : mg "_law_is_plain" = some (.ref a.f_l_is_plain)
  fun_is_within : Fun K "is_within" "is_within" s_is_within a.f_is_within a.d_is_within
  mg_is_within : mg "is_within" = some (.ref a.f_is_within)
  fun_l_right : Fun K "_law_right" "_law_right" s_l_right a.f_l_right a.d_l_right
  mg__law_right : mg "_law_right" = some (.ref a.f_l_right)
  fun_l_thing : Fun K "_law_thing" "_law_thing" s_l_thing a.f_l_thing a.d_l_thing
  mg__law_thing : mg "_law_thing" = some (.ref a.f_l_thing)
  fun_law : Fun K "law" "law" s_law a.f_law a.d_law
  mg_law : mg "law" = some (.ref a.f_law)
  mg_Paper : mg "Paper" = some (.ref a.c_Paper)
  mg_Denial : mg "Denial" = some (.ref a.c_Denial)
  mg_Moved : mg "Moved" = some (.ref a.c_Moved)
  own_Moved : OwnC K a.c_Moved
  mk_Moved : Mk K a.c_Moved a.f_Moved_init
  na_Moved_moves : NoAttr K a.c_Moved "moves"
  mg_Lacking : mg "Lacking" = some (.ref a.c_Lacking)
  own_Lacking : OwnC K a.c_Lacking
  mk_Lacking : Mk K a.c_Lacking a.f_Lacking_init
  na_Lacking_i : NoAttr K a.c_Lacking "i"
  na_Lacking_j : NoAttr K a.c_Lacking "j"
  isi_Moved_Denial : PySem.W.kitOne K (.ref a.c_Moved) (.ref a.c_Denial) = some false
  isi_Moved_Lacking : PySem.W.kitOne K (.ref a.c_Moved) (.ref a.c_Lacking) = some false
  isi_Moved_Moved : PySem.W.kitOne K (.ref a.c_Moved) (.ref a.c_Moved) = some true
  isi_Moved_Paper : PySem.W.kitOne K (.ref a.c_Moved) (.ref a.c_Paper) = some true
  isi_Lacking_Denial : PySem.W.kitOne K (.ref a.c_Lacking) (.ref a.c_Denial) = some true
  isi_Lacking_Lacking : PySem.W.kitOne K (.ref a.c_Lacking) (.ref a.c_Lacking) = some true
  isi_Lacking_Moved : PySem.W.kitOne K (.ref a.c_Lacking) (.ref a.c_Moved) = some false
  isi_Lacking_Paper : PySem.W.kitOne K (.ref a.c_Lacking) (.ref a.c_Paper) = some true
  nb_Moved : NoTru K a.c_Moved
  nb_Paper : NoTru K a.c_Paper
  mb_Denial : Meth K a.c_Denial "__bool__" a.f_Denial_bool
  mb_Lacking : Meth K a.c_Lacking "__bool__" a.f_Denial_bool
  c_LETTERS : ∃ t, mg "LETTERS" = some (.str "abcdefghijklmnopqrstuvwxyz" t)
  c_MOST_FIGURES : ∃ t, mg "MOST_FIGURES" = some (.int 1000 t)
  c_MOST_LETTERS : ∃ t, mg "MOST_LETTERS" = some (.int 8 t)
  no_abs : mg "abs" = none
  no_all : mg "all" = none
  no_bool : mg "bool" = none
  no_int : mg "int" = none
  no_isinstance : mg "isinstance" = none
  no_len : mg "len" = none
  no_list : mg "list" = none
  no_range : mg "range" = none
  no_repr : mg "repr" = none
  no_str : mg "str" = none
section
variable {P : Program} {w : World} {K : Frag} {mg : Str → Option Value} {base : Heap} {a : Ad}
theorem b_l_pen_1 (T : Tp K mg a) : Bk K a.d_l_pen ["_law_script"] 1 [] [.p 0] := bk_of T.fun_l_pen rfl fun _ _ _ _ _ _ us ws h1 h2 => match us, ws, h1, h2 with
  | [u0], [], _, _ => ⟨[u0], rfl, (.cons rfl .nil)⟩
theorem b_l_pick_2 (T : Tp K mg a) : Bk K a.d_l_pick ["_law_pen_here", "_law_some"] 2 [] [.p 0, .p 1] := bk_of T.fun_l_pick rfl fun _ _ _ _ _ _ us ws h1 h2 => match us, ws, h1, h2 with
  | [u0, u1], [], _, _ => ⟨[u0, u1], rfl, (.cons rfl (.cons rfl .nil))⟩
theorem b_l_thing_1 (T : Tp K mg a) : Bk K a.d_l_thing ["_law_pen_here"] 1 [] [.p 0] := bk_of T.fun_l_thing rfl fun _ _ _ _ _ _ us ws h1 h2 => match us, ws, h1, h2 with
  | [u0], [], _, _ => ⟨[u0], rfl, (.cons rfl .nil)⟩
theorem b_l_right_3 (T : Tp K mg a) : Bk K a.d_l_right ["_law_thing_here", "_law_low", "_law_high"] 3 [] [.p 0, .p 1, .p 2] := bk_of T.fun_l_right rfl fun _ _ _ _ _ _ us ws h1 h2 => match us, ws, h1, h2 with
  | [u0, u1, u2], [], _, _ => ⟨[u0, u1, u2], rfl, (.cons rfl (.cons rfl (.cons rfl .nil)))⟩
theorem b_l_figures_1 (T : Tp K mg a) : Bk K a.d_l_figures ["_law_pen_here"] 1 [] [.p 0] := bk_of T.fun_l_figures rfl fun _ _ _ _ _ _ us ws h1 h2 => match us, ws, h1, h2 with
  | [u0], [], _, _ => ⟨[u0], rfl, (.cons rfl .nil)⟩
theorem b_l_page_right_3 (T : Tp K mg a) : Bk K a.d_l_page_right ["_law_page", "_law_low", "_law_high"] 3 [] [.p 0, .p 1, .p 2] := bk_of T.fun_l_page_right rfl fun _ _ _ _ _ _ us ws h1 h2 => match us, ws, h1, h2 with
  | [u0, u1, u2], [], _, _ => ⟨[u0, u1, u2], rfl, (.cons rfl (.cons rfl (.cons rfl .nil)))⟩
theorem b_l_letters_1 (T : Tp K mg a) : Bk K a.d_l_letters ["_law_pen_here"] 1 [] [.p 0] := bk_of T.fun_l_letters rfl fun _ _ _ _ _ _ us ws h1 h2 => match us, ws, h1, h2 with
  | [u0], [], _, _ => ⟨[u0], rfl, (.cons rfl .nil)⟩
theorem b_l_papers_right_2 (T : Tp K mg a) : Bk K a.d_l_papers_right ["_law_thing_here", "_law_other"] 2 [] [.p 0, .p 1] := bk_of T.fun_l_papers_right rfl fun _ _ _ _ _ _ us ws h1 h2 => match us, ws, h1, h2 with
  | [u0, u1], [], _, _ => ⟨[u0, u1], rfl, (.cons rfl (.cons rfl .nil))⟩
theorem b_number_of_3 (T : Tp K mg a) : Bk K a.d_number_of ["word", "least", "most"] 3 [] [.p 0, .p 1, .p 2] := bk_of T.fun_number_of rfl fun _ _ _ _ _ _ us ws h1 h2 => match us, ws, h1, h2 with
  | [u0, u1, u2], [], _, _ => ⟨[u0, u1, u2], rfl, (.cons rfl (.cons rfl (.cons rfl .nil)))⟩
theorem b_is_name_1 (T : Tp K mg a) : Bk K a.d_is_name ["value"] 1 [] [.p 0] := bk_of T.fun_is_name rfl fun _ _ _ _ _ _ us ws h1 h2 => match us, ws, h1, h2 with
  | [u0], [], _, _ => ⟨[u0], rfl, (.cons rfl .nil)⟩
theorem b_is_amount_0_value (T : Tp K mg a) : Bk K a.d_is_amount ["value"] 0 ["value"] [.k 0] := bk_of T.fun_is_amount rfl fun _ _ _ _ _ _ us ws h1 h2 => match us, ws, h1, h2 with
  | [], [w0], _, _ => ⟨[w0], rfl, (.cons rfl .nil)⟩
theorem b_is_within_0_value_least_most (T : Tp K mg a) : Bk K a.d_is_within ["value", "least", "most"] 0 ["value", "least", "most"] [.k 0, .k 1, .k 2] := bk_of T.fun_is_within rfl fun _ _ _ _ _ _ us ws h1 h2 => match us, ws, h1, h2 with
  | [], [w0, w1, w2], _, _ => ⟨[w0, w1, w2], rfl, (.cons rfl (.cons rfl (.cons rfl .nil)))⟩
theorem b_is_name_0_value (T : Tp K mg a) : Bk K a.d_is_name ["value"] 0 ["value"] [.k 0] := bk_of T.fun_is_name rfl fun _ _ _ _ _ _ us ws h1 h2 => match us, ws, h1, h2 with
  | [], [w0], _, _ => ⟨[w0], rfl, (.cons rfl .nil)⟩
theorem b_is_integer_0_value (T : Tp K mg a) : Bk K a.d_is_integer ["value"] 0 ["value"] [.k 0] := bk_of T.fun_is_integer rfl fun _ _ _ _ _ _ us ws h1 h2 => match us, ws, h1, h2 with
  | [], [w0], _, _ => ⟨[w0], rfl, (.cons rfl .nil)⟩
theorem b_number_of_0_word_least_most (T : Tp K mg a) : Bk K a.d_number_of ["word", "least", "most"] 0 ["word", "least", "most"] [.k 0, .k 1, .k 2] := bk_of T.fun_number_of rfl fun _ _ _ _ _ _ us ws h1 h2 => match us, ws, h1, h2 with
  | [], [w0, w1, w2], _, _ => ⟨[w0, w1, w2], rfl, (.cons rfl (.cons rfl (.cons rfl .nil)))⟩
theorem b_l_draw_2 (T : Tp K mg a) : Bk K a.d_l_draw ["_law_pen_here", "_law_many"] 2 [] [.p 0, .p 1] := bk_of T.fun_l_draw rfl fun _ _ _ _ _ _ us ws h1 h2 => match us, ws, h1, h2 with
  | [u0, u1], [], _, _ => ⟨[u0, u1], rfl, (.cons rfl (.cons rfl .nil))⟩
theorem b_l_written_1 (T : Tp K mg a) : Bk K a.d_l_written ["_law_page"] 1 [] [.p 0] := bk_of T.fun_l_written rfl fun _ _ _ _ _ _ us ws h1 h2 => match us, ws, h1, h2 with
  | [u0], [], _, _ => ⟨[u0], rfl, (.cons rfl .nil)⟩
theorem b_is_amount_1 (T : Tp K mg a) : Bk K a.d_is_amount ["value"] 1 [] [.p 0] := bk_of T.fun_is_amount rfl fun _ _ _ _ _ _ us ws h1 h2 => match us, ws, h1, h2 with
  | [u0], [], _, _ => ⟨[u0], rfl, (.cons rfl .nil)⟩
theorem b_is_integer_1 (T : Tp K mg a) : Bk K a.d_is_integer ["value"] 1 [] [.p 0] := bk_of T.fun_is_integer rfl fun _ _ _ _ _ _ us ws h1 h2 => match us, ws, h1, h2 with
  | [u0], [], _, _ => ⟨[u0], rfl, (.cons rfl .nil)⟩
theorem b_is_figures_1 (T : Tp K mg a) : Bk K a.d_is_figures ["word"] 1 [] [.p 0] := bk_of T.fun_is_figures rfl fun _ _ _ _ _ _ us ws h1 h2 => match us, ws, h1, h2 with
  | [u0], [], _, _ => ⟨[u0], rfl, (.cons rfl .nil)⟩
theorem b_Lacking_init_3 (T : Tp K mg a) : Bk K a.d_Lacking_init ["self", "i", "j"] 3 [] [.p 0, .p 1, .p 2] := bk_of T.fun_Lacking_init rfl fun _ _ _ _ _ _ us ws h1 h2 => match us, ws, h1, h2 with
  | [u0, u1, u2], [], _, _ => ⟨[u0, u1, u2], rfl, (.cons rfl (.cons rfl (.cons rfl .nil)))⟩
theorem b_Moved_init_2 (T : Tp K mg a) : Bk K a.d_Moved_init ["self", "moves"] 2 [] [.p 0, .p 1] := bk_of T.fun_Moved_init rfl fun _ _ _ _ _ _ us ws h1 h2 => match us, ws, h1, h2 with
  | [u0, u1], [], _, _ => ⟨[u0, u1], rfl, (.cons rfl (.cons rfl .nil))⟩
theorem b_Denial_bool_1 (T : Tp K mg a) : Bk K a.d_Denial_bool ["self"] 1 [] [.p 0] := bk_of T.fun_Denial_bool rfl fun _ _ _ _ _ _ us ws h1 h2 => match us, ws, h1, h2 with
  | [u0], [], _, _ => ⟨[u0], rfl, (.cons rfl .nil)⟩
theorem b_is_within_3 (T : Tp K mg a) : Bk K a.d_is_within ["value", "least", "most"] 3 [] [.p 0, .p 1, .p 2] := bk_of T.fun_is_within rfl fun _ _ _ _ _ _ us ws h1 h2 => match us, ws, h1, h2 with
  | [u0, u1, u2], [], _, _ => ⟨[u0, u1, u2], rfl, (.cons rfl (.cons rfl (.cons rfl .nil)))⟩
theorem b_l_is_plain_1 (T : Tp K mg a) : Bk K a.d_l_is_plain ["_law_thing_here"] 1 [] [.p 0] := bk_of T.fun_l_is_plain rfl fun _ _ _ _ _ _ us ws h1 h2 => match us, ws, h1, h2 with
  | [u0], [], _, _ => ⟨[u0], rfl, (.cons rfl .nil)⟩
def m_l_draw (K : Frag) (a : Ad) : FF := fnF 2 7 (sSeq (sIf (bCmp gtB (eBin ixD (eVar 0) (eC (.int 2))) (eC (.int 0))) (sSeq (sSet 2 (eBin modD (eFn intL (aCons (eBin ixD (eVar 0) (eC (.int 2))) aNil)) (eVar 1))) (sSeq (sSub (eVar 0) (eC (.int 2)) (eBin divD (eFn intL (aCons (eBin ixD (eVar 0) (eC (.int 2))) aNil)) (eVar 1))) (sRet (eVar 2)))) sNil) (sSeq (sSet 3 (eBin ixD (eVar 0) (eC (.int 1)))) (sSeq (sSub (eVar 0) (eC (.int 1)) (eBin addD (eVar 3) (eC (.int 1)))) (sSeq (sSet 4 (eBin addD (eBin mulD (eC (.int 97019)) (eVar 3)) (eC (.int 867)))) (sSeq (sIf (bCmp neB (eBin ixD (eVar 0) (eC (.int 0))) (eLst aNil)) (sSet 4 (eBin ixD (eBin ixD (eVar 0) (eC (.int 0))) (eBin modD (eFn intL (aCons (eVar 3) aNil)) (eFn lenD (aCons (eBin ixD (eVar 0) (eC (.int 0))) aNil))))) sNil) (sSeq (sIf (bAnd (bCmp ltB (eVar 3) (eFn lenD (aCons (eBin ixD (eVar 0) (eC (.int 0))) aNil))) (bCmp geB (eFn absD (aCons (eVar 4) aNil)) (eBin powD (eC (.int 10)) (eC (.int 18))))) (sSeq (sSet 5 (eBin addD (eBin mulD (eC (.int 2)) (eBin subD (eFn absD (aCons (eVar 4) aNil)) (eBin powD (eC (.int 10)) (eC (.int 18))))) (eFn intL (aCons (eCmp ltB (eVar 4) (eC (.int 0))) aNil)))) (sSeq (sSub (eVar 0) (eC (.int 2)) (eBin divD (eFn intL (aCons (eVar 5) aNil)) (eVar 1))) (sRet (eBin modD (eFn intL (aCons (eVar 5) aNil)) (eVar 1))))) sNil) (sSeq (sSet 6 (eBin modD (eFn intL (aCons (eBin powD (eBin addD (eBin addD (eBin modD (eFn intL (aCons (eVar 4) aNil)) (eC (.int 2147441989))) (eBin mulD (eC (.int 88017)) (eVar 3))) (eC (.int 471))) (eC (.int 5))) aNil)) (eC (.int 2147431987)))) (sSeq (sSet 6 (eBin modD (eFn intL (aCons (eBin powD (eBin addD (eBin addD (eBin mulD (eVar 6) (eBin addD (eBin mulD (eC (.int 2)) (eVar 3)) (eC (.int 153)))) (eBin mulD (eBin mulD (eC (.int 75027)) (eVar 3)) (eVar 3))) (eC (.int 135))) (eC (.int 3))) aNil)) (eC (.int 2147422011)))) (sRet (eBin modD (eFn intL (aCons (eBin divD (eVar 6) (eC (.int 32))) aNil)) (eVar 1)))))))))))
theorem k_l_draw (T : Tp K mg a) (nd : NoDig base) : KFn P w K mg base 1 a.f_l_draw a.d_l_draw ["_law_pen_here", "_law_many"] (m_l_draw K a) :=
  kfn_of (k := 0) T.fun_l_draw sc_l_draw fun cdv A outer s H E hr =>
    (kss_cons (ks_if (kb_cmp (od_gt) (ke_ix xd_seq (ke_var 0) ke_int) ke_int (by first | exact nomark _ | rfl)) (kss_cons (ks_set 2 sc_l_draw.nd (ke_bin od_mod (ke_callT (cd_intL nd) T.no_int bt_int (ka_cons (ke_ix xd_seq (ke_var 0) ke_int) ka_nil)) (ke_var 1)))
      (kss_cons (ks_sub (ke_var 0) ke_int (ke_bin od_div (ke_callT (cd_intL nd) T.no_int bt_int (ka_cons (ke_ix xd_seq (ke_var 0) ke_int) ka_nil)) (ke_var 1)))
      (kss_one (ks_ret (ke_var 2))))) kss_nil)
      (kss_cons (ks_set 3 sc_l_draw.nd (ke_ix xd_seq (ke_var 0) ke_int))
      (kss_cons (ks_sub (ke_var 0) ke_int (ke_bin od_add (ke_var 3) ke_int))
      (kss_cons (ks_set 4 sc_l_draw.nd (ke_bin od_add (ke_bin od_mul ke_int (ke_var 3)) ke_int))
      (kss_cons (ks_if (kb_cmp (od_ne hr.u) (ke_ix xd_seq (ke_var 0) ke_int) (ke_lst ka_nil) (by first | exact nomark _ | rfl)) (kss_one (ks_set 4 sc_l_draw.nd (ke_ix xd_seq (ke_ix xd_seq (ke_var 0) ke_int) (ke_bin od_mod (ke_callT (cd_intL nd) T.no_int bt_int (ka_cons (ke_var 3) ka_nil)) (ke_callB cd_len T.no_len bt_len (ka_cons (ke_ix xd_seq (ke_var 0) ke_int) ka_nil)))))) kss_nil)
      (kss_cons (ks_if (kb_w (kw_and (kb_cmp (od_lt) (ke_var 3) (ke_callB cd_len T.no_len bt_len (ka_cons (ke_ix xd_seq (ke_var 0) ke_int) ka_nil)) (by first | exact nomark _ | rfl)) (kw_and1 (kb_cmp (od_ge) (ke_callB cd_abs T.no_abs bt_abs (ka_cons (ke_var 4) ka_nil)) (ke_bin od_pow ke_int ke_int) (by first | exact nomark _ | rfl))))) (kss_cons (ks_set 5 sc_l_draw.nd (ke_bin od_add (ke_bin od_mul ke_int (ke_bin od_sub (ke_callB cd_abs T.no_abs bt_abs (ka_cons (ke_var 4) ka_nil)) (ke_bin od_pow ke_int ke_int))) (ke_callT (cd_intL nd) T.no_int bt_int (ka_cons (ke_cmp (od_lt) (ke_var 4) ke_int (by first | exact nomark _ | rfl)) ka_nil))))
      (kss_cons (ks_sub (ke_var 0) ke_int (ke_bin od_div (ke_callT (cd_intL nd) T.no_int bt_int (ka_cons (ke_var 5) ka_nil)) (ke_var 1)))
      (kss_one (ks_ret (ke_bin od_mod (ke_callT (cd_intL nd) T.no_int bt_int (ka_cons (ke_var 5) ka_nil)) (ke_var 1)))))) kss_nil)
      (kss_cons (ks_set 6 sc_l_draw.nd (ke_bin od_mod (ke_callT (cd_intL nd) T.no_int bt_int (ka_cons (ke_bin od_pow (ke_bin od_add (ke_bin od_add (ke_bin od_mod (ke_callT (cd_intL nd) T.no_int bt_int (ka_cons (ke_var 4) ka_nil)) ke_int) (ke_bin od_mul ke_int (ke_var 3))) ke_int) ke_int) ka_nil)) ke_int))
      (kss_cons (ks_set 6 sc_l_draw.nd (ke_bin od_mod (ke_callT (cd_intL nd) T.no_int bt_int (ka_cons (ke_bin od_pow (ke_bin od_add (ke_bin od_add (ke_bin od_mul (ke_var 6) (ke_bin od_add (ke_bin od_mul ke_int (ke_var 3)) ke_int)) (ke_bin od_mul (ke_bin od_mul ke_int (ke_var 3)) (ke_var 3))) ke_int) ke_int) ka_nil)) ke_int))
      (kss_one (ks_ret (ke_bin od_mod (ke_callT (cd_intL nd) T.no_int bt_int (ka_cons (ke_bin od_div (ke_var 6) ke_int) ka_nil)) (ke_var 1))))))))))))
def m_l_pick (K : Frag) (a : Ad) : FF := fnF 2 2 (sRet (eBin ixD (eVar 1) (eCall (m_l_draw K a) [.p 0, .p 1] 2 0 (cPos (aCons (eVar 0) (aCons (eFn lenD (aCons (eVar 1) aNil)) aNil))))))
theorem k_l_pick (T : Tp K mg a) (nd : NoDig base) : KFn P w K mg base 2 a.f_l_pick a.d_l_pick ["_law_pen_here", "_law_some"] (m_l_pick K a) :=
  kfn_of (k := 1) T.fun_l_pick sc_l_pick fun cdv A outer s H E hr =>
    (kss_one (ks_ret (ke_ix xd_seq (ke_var 1) (ke_call tk_of hr ((k_l_draw T nd).mono (by decide)) (b_l_draw_2 T) T.mg__law_draw T.fun_l_draw.kp (kc_pos (ka_cons (ke_var 0) (ka_cons (ke_callB cd_len T.no_len bt_len (ka_cons (ke_var 1) ka_nil)) ka_nil)))))))
def m_l_figures (K : Frag) (a : Ad) : FF := fnF 1 3 (sSeq (sSet 1 (eFn strD (aCons (eCall (m_l_pick K a) [.p 0, .p 1] 2 0 (cPos (aCons (eVar 0) (aCons (eLst (aCons (eC (.int 0)) (aCons (eC (.int 7)) (aCons (eUn negD (eC (.int 7))) (aCons (eC (.int 10)) (aCons (eC (.int 999)) (aCons (eBin powD (eC (.int 10)) (eC (.int 29))) (aCons (eUn negD (eBin powD (eC (.int 10)) (eC (.int 29)))) (aCons (eCall (m_l_draw K a) [.p 0, .p 1] 2 0 (cPos (aCons (eVar 0) (aCons (eC (.int 5000)) aNil)))) aNil))))))))) aNil)))) aNil))) (sSeq (sSet 2 (eCall (m_l_draw K a) [.p 0, .p 1] 2 0 (cPos (aCons (eVar 0) (aCons (eBin addD (eFn lenD (aCons (eVar 1) aNil)) (eC (.int 1))) aNil))))) (sRet (eBin addD (eBin addD (eSl (eVar 1) oNone (oSome (eVar 2))) (eCall (m_l_pick K a) [.p 0, .p 1] 2 0 (cPos (aCons (eVar 0) (aCons (eLst (aCons (eC (.str "")) (aCons (eC (.str "")) (aCons (eC (.str "")) (aCons (eC (.str "0")) (aCons (eC (.str "-")) (aCons (eC (.str "+")) (aCons (eC (.str " ")) (aCons (eC (.str ".")) (aCons (eC (.str "/")) (aCons (eC (.str "a")) (aCons (eC (.str "_")) aNil)))))))))))) aNil))))) (eSl (eVar 1) (oSome (eVar 2)) oNone)))))
theorem k_l_figures (T : Tp K mg a) (nd : NoDig base) : KFn P w K mg base 3 a.f_l_figures a.d_l_figures ["_law_pen_here"] (m_l_figures K a) :=
  kfn_of (k := 2) T.fun_l_figures sc_l_figures fun cdv A outer s H E hr =>
    (kss_cons (ks_set 1 sc_l_figures.nd (ke_callT cd_str T.no_str bt_str (ka_cons (ke_call tk_of hr ((k_l_pick T nd).mono (by decide)) (b_l_pick_2 T) T.mg__law_pick T.fun_l_pick.kp (kc_pos (ka_cons (ke_var 0) (ka_cons (ke_lst (ka_cons ke_int (ka_cons ke_int (ka_cons (ke_un od_neg ke_int) (ka_cons ke_int (ka_cons ke_int (ka_cons (ke_bin od_pow ke_int ke_int) (ka_cons (ke_un od_neg (ke_bin od_pow ke_int ke_int)) (ka_cons (ke_call tk_of hr ((k_l_draw T nd).mono (by decide)) (b_l_draw_2 T) T.mg__law_draw T.fun_l_draw.kp (kc_pos (ka_cons (ke_var 0) (ka_cons ke_int ka_nil)))) ka_nil))))))))) ka_nil)))) ka_nil)))
      (kss_cons (ks_set 2 sc_l_figures.nd (ke_call tk_of hr ((k_l_draw T nd).mono (by decide)) (b_l_draw_2 T) T.mg__law_draw T.fun_l_draw.kp (kc_pos (ka_cons (ke_var 0) (ka_cons (ke_bin od_add (ke_callB cd_len T.no_len bt_len (ka_cons (ke_var 1) ka_nil)) ke_int) ka_nil)))))
      (kss_one (ks_ret (ke_bin od_add (ke_bin od_add (ke_slice (ke_var 1) ko_none (ko_some (ke_var 2))) (ke_call tk_of hr ((k_l_pick T nd).mono (by decide)) (b_l_pick_2 T) T.mg__law_pick T.fun_l_pick.kp (kc_pos (ka_cons (ke_var 0) (ka_cons (ke_lst (ka_cons ke_str (ka_cons ke_str (ka_cons ke_str (ka_cons ke_str (ka_cons ke_str (ka_cons ke_str (ka_cons ke_str (ka_cons ke_str (ka_cons ke_str (ka_cons ke_str (ka_cons ke_str ka_nil)))))))))))) ka_nil))))) (ke_slice (ke_var 1) (ko_some (ke_var 2)) ko_none))))))
def m_l_letters (K : Frag) (a : Ad) : FF := fnF 1 4 (sSeq (sIf (bCmp eqB (eCall (m_l_draw K a) [.p 0, .p 1] 2 0 (cPos (aCons (eVar 0) (aCons (eC (.int 8)) aNil)))) (eC (.int 0))) (sRet (eCall (m_l_pick K a) [.p 0, .p 1] 2 0 (cPos (aCons (eVar 0) (aCons (eLst (aCons (eC (.str "self")) (aCons (eC (.str "none")) (aCons (eC (.str "in")) (aCons (eC (.str "abcdefgh")) (aCons (eC (.str "abcdefghi")) (aCons (eC (.str "Self")) (aCons (eC (.str "selfs")) aNil)))))))) aNil))))) sNil) (sSeq (sSet 1 (eJoin (eC (.str "")) (eComp (iRng1 (aCons (eCall (m_l_draw K a) [.p 0, .p 1] 2 0 (cPos (aCons (eVar 0) (aCons (eC (.int 10)) aNil)))) aNil)) [3] (tfName 3) tYesF (eCall (m_l_pick K a) [.p 0, .p 1] 2 0 (cPos (aCons (eVar 0) (aCons (eLst (aCons (eC (.str "a")) (aCons (eC (.str "e")) (aCons (eC (.str "k")) (aCons (eC (.str "q")) (aCons (eC (.str "z")) aNil)))))) aNil))))))) (sSeq (sSet 2 (eCall (m_l_draw K a) [.p 0, .p 1] 2 0 (cPos (aCons (eVar 0) (aCons (eBin addD (eFn lenD (aCons (eVar 1) aNil)) (eC (.int 1))) aNil))))) (sRet (eBin addD (eBin addD (eSl (eVar 1) oNone (oSome (eVar 2))) (eCall (m_l_pick K a) [.p 0, .p 1] 2 0 (cPos (aCons (eVar 0) (aCons (eLst (aCons (eC (.str "")) (aCons (eC (.str "")) (aCons (eC (.str "")) (aCons (eC (.str "A")) (aCons (eC (.str "1")) (aCons (eC (.str " ")) (aCons (eC (.str "-")) (aCons (eC (.str "_")) (aCons (eC (.str "~")) (aCons (eC (.str "\n")) aNil))))))))))) aNil))))) (eSl (eVar 1) (oSome (eVar 2)) oNone))))))
theorem k_l_letters (T : Tp K mg a) (nd : NoDig base) : KFn P w K mg base 3 a.f_l_letters a.d_l_letters ["_law_pen_here"] (m_l_letters K a) :=
  kfn_of (k := 2) T.fun_l_letters sc_l_letters fun cdv A outer s H E hr =>
    (kss_cons (ks_if (kb_cmp (od_eq hr.u) (ke_call tk_of hr ((k_l_draw T nd).mono (by decide)) (b_l_draw_2 T) T.mg__law_draw T.fun_l_draw.kp (kc_pos (ka_cons (ke_var 0) (ka_cons ke_int ka_nil)))) ke_int (by first | exact nomark _ | rfl)) (kss_one (ks_ret (ke_call tk_of hr ((k_l_pick T nd).mono (by decide)) (b_l_pick_2 T) T.mg__law_pick T.fun_l_pick.kp (kc_pos (ka_cons (ke_var 0) (ka_cons (ke_lst (ka_cons ke_str (ka_cons ke_str (ka_cons ke_str (ka_cons ke_str (ka_cons ke_str (ka_cons ke_str (ka_cons ke_str ka_nil)))))))) ka_nil)))))) kss_nil)
      (kss_cons (ks_set 1 sc_l_letters.nd (ke_join ke_str (ke_comp (own := [("_law_lap", 3)]) sc_l_letters.nd (ki_range1 T.no_range (ka_cons (ke_call tk_of hr ((k_l_draw T nd).mono (by decide)) (b_l_draw_2 T) T.mg__law_draw T.fun_l_draw.kp (kc_pos (ka_cons (ke_var 0) (ka_cons ke_int ka_nil)))) ka_nil)) (blkOk_by (N := ["_law_pen_here", "_law_found", "_law_spot", "_law_lap"]) (sc := defScope s_l_letters) (by decide +kernel)) (fun _ _ _ _ _ => (kg_name 3 sc_l_letters.nd)) (fun _ _ _ _ _ => kts_nil) (fun _ _ _ _ _ => (ke_call tk0 hr ((k_l_pick T nd).mono (by decide)) (b_l_pick_2 T) T.mg__law_pick T.fun_l_pick.kp (kc_pos (ka_cons (ke_var 0) (ka_cons (ke_lst (ka_cons ke_str (ka_cons ke_str (ka_cons ke_str (ka_cons ke_str (ka_cons ke_str ka_nil)))))) ka_nil))))))))
      (kss_cons (ks_set 2 sc_l_letters.nd (ke_call tk_of hr ((k_l_draw T nd).mono (by decide)) (b_l_draw_2 T) T.mg__law_draw T.fun_l_draw.kp (kc_pos (ka_cons (ke_var 0) (ka_cons (ke_bin od_add (ke_callB cd_len T.no_len bt_len (ka_cons (ke_var 1) ka_nil)) ke_int) ka_nil)))))
      (kss_one (ks_ret (ke_bin od_add (ke_bin od_add (ke_slice (ke_var 1) ko_none (ko_some (ke_var 2))) (ke_call tk_of hr ((k_l_pick T nd).mono (by decide)) (b_l_pick_2 T) T.mg__law_pick T.fun_l_pick.kp (kc_pos (ka_cons (ke_var 0) (ka_cons (ke_lst (ka_cons ke_str (ka_cons ke_str (ka_cons ke_str (ka_cons ke_str (ka_cons ke_str (ka_cons ke_str (ka_cons ke_str (ka_cons ke_str (ka_cons ke_str (ka_cons ke_str ka_nil))))))))))) ka_nil))))) (ke_slice (ke_var 1) (ko_some (ke_var 2)) ko_none)))))))
def m_l_written (K : Frag) (a : Ad) : FF := fnF 1 3 (sSeq (sSet 1 (eIf (bCmp eqB (eSl (eVar 0) oNone (oSome (eC (.int 1)))) (eC (.str "-"))) (eSl (eVar 0) (oSome (eC (.int 1))) oNone) (eVar 0))) (sSeq (sIf (bOr (bCmp eqB (eVar 1) (eC (.str ""))) (bCmp neB (eComp (iSeq (eVar 1)) [2] (tfName 2) (bCmp notInB (eVar 2) (eC (.str "0123456789"))) (eVar 2)) (eLst aNil))) (sRet (eC .non)) sNil) (sRet (eIf (bCmp eqB (eFn strD (aCons (eFn intL (aCons (eVar 0) aNil)) aNil)) (eVar 0)) (eFn intL (aCons (eVar 0) aNil)) (eC .non)))))
theorem k_l_written (T : Tp K mg a) (nd : NoDig base) : KFn P w K mg base 1 a.f_l_written a.d_l_written ["_law_page"] (m_l_written K a) :=
  kfn_of (k := 0) T.fun_l_written sc_l_written fun cdv A outer s H E hr =>
    (kss_cons (ks_set 1 sc_l_written.nd (ke_if (kb_cmp (od_eq hr.u) (ke_slice (ke_var 0) ko_none (ko_some ke_int)) ke_str (by first | exact nomark _ | rfl)) (ke_slice (ke_var 0) (ko_some ke_int) ko_none) (ke_var 0)))
      (kss_cons (ks_if (kb_w (kw_or (kb_cmp (od_eq hr.u) (ke_var 1) ke_str (by first | exact nomark _ | rfl)) (kw_or1 (kb_cmp (od_ne hr.u) (ke_comp (own := [("_law_sign", 2)]) sc_l_written.nd (ki_seq (ke_var 1)) (blkOk_by (N := ["_law_page", "_law_plain", "_law_sign"]) (sc := defScope s_l_written) (by decide +kernel)) (fun _ _ _ _ _ => (kg_name 2 sc_l_written.nd)) (fun _ _ _ _ _ => (kts_one (kb_cmp (od_notIn hr.u) (ke_var 2) ke_str (by first | exact nomark _ | rfl)))) (fun _ _ _ _ _ => (ke_var 2))) (ke_lst ka_nil) (by first | exact nomark _ | rfl))))) (kss_one (ks_ret ke_non)) kss_nil)
      (kss_one (ks_ret (ke_if (kb_cmp (od_eq hr.u) (ke_callT cd_str T.no_str bt_str (ka_cons (ke_callT (cd_intL nd) T.no_int bt_int (ka_cons (ke_var 0) ka_nil)) ka_nil)) (ke_var 0) (by first | exact nomark _ | rfl)) (ke_callT (cd_intL nd) T.no_int bt_int (ka_cons (ke_var 0) ka_nil)) ke_non)))))
def m_is_integer (K : Frag) (a : Ad) : FF := fnF 1 1 (sRet (eAnd (eFn (isiD K) (aCons (eVar 0) (aCons (eC (.ty "int")) aNil))) (eNot (eFn (isiD K) (aCons (eVar 0) (aCons (eC (.ty "bool")) aNil))))))
theorem k_is_integer (T : Tp K mg a) (nd : NoDig base) : KFn P w K mg base 1 a.f_is_integer a.d_is_integer ["value"] (m_is_integer K a) :=
  kfn_of (k := 0) T.fun_is_integer sc_is_integer fun cdv A outer s H E hr =>
    (kss_one (ks_ret (ke_and (ke_callB cd_isi T.no_isinstance bt_isinstance (ka_cons (ke_var 0) (ka_cons (ke_ty T.no_int bt_int) ka_nil))) (ke_one (ke_not (ke_callB cd_isi T.no_isinstance bt_isinstance (ka_cons (ke_var 0) (ka_cons (ke_ty T.no_bool bt_bool) ka_nil))))))))
def m_is_amount (K : Frag) (a : Ad) : FF := fnF 1 1 (sRet (eAnd (eCall (m_is_integer K a) [.p 0] 1 0 (cPos (aCons (eVar 0) aNil))) (eCmp geB (eVar 0) (eC (.int 0)))))
theorem k_is_amount (T : Tp K mg a) (nd : NoDig base) : KFn P w K mg base 2 a.f_is_amount a.d_is_amount ["value"] (m_is_amount K a) :=
  kfn_of (k := 1) T.fun_is_amount sc_is_amount fun cdv A outer s H E hr =>
    (kss_one (ks_ret (ke_and (ke_call tk_of hr ((k_is_integer T nd).mono (by decide)) (b_is_integer_1 T) T.mg_is_integer T.fun_is_integer.kp (kc_pos (ka_cons (ke_var 0) ka_nil))) (ke_one (ke_cmp (od_ge) (ke_var 0) ke_int (by first | exact nomark _ | rfl))))))
def m_is_name (K : Frag) (a : Ad) : FF := fnF 1 2 (sSeq (sIf (bOr (bNot (bTru (eFn (isiD K) (aCons (eVar 0) (aCons (eC (.ty "str")) aNil))))) (bOr (bNot (bChain leB leB (eC (.int 1)) (eFn lenD (aCons (eVar 0) aNil)) (eC (.int 8)))) (bCmp eqB (eVar 0) (eC (.str "self"))))) (sRet (eC (.bl false))) sNil) (sRet (eFn allD (aCons (eComp (iSeq (eVar 0)) [1] (tfName 1) tYesF (eCmp inB (eVar 1) (eC (.str "abcdefghijklmnopqrstuvwxyz")))) aNil))))
theorem k_is_name (T : Tp K mg a) (nd : NoDig base) : KFn P w K mg base 1 a.f_is_name a.d_is_name ["value"] (m_is_name K a) :=
  kfn_of (k := 0) T.fun_is_name sc_is_name fun cdv A outer s H E hr =>
    (kss_cons (ks_if (kb_w (kw_or (kb_not (kb_tru (ke_callB cd_isi T.no_isinstance bt_isinstance (ka_cons (ke_var 0) (ka_cons (ke_ty T.no_str bt_str) ka_nil))))) (kw_or (kb_not (kb_chain (od_le) (od_le) ke_int (ke_callB cd_len T.no_len bt_len (ka_cons (ke_var 0) ka_nil)) (ke_gint T.c_MOST_LETTERS))) (kw_or1 (kb_cmp (od_eq hr.u) (ke_var 0) ke_str (by first | exact nomark _ | rfl)))))) (kss_one (ks_ret ke_bl)) kss_nil)
      (kss_one (ks_ret (ke_callB (cd_all rfl) T.no_all bt_all (ka_cons (ke_comp (own := [("letter", 1)]) sc_is_name.nd (ki_seq (ke_var 0)) (blkOk_by (N := ["value", "letter"]) (sc := defScope s_is_name) (by decide +kernel)) (fun _ _ _ _ _ => (kg_name 1 sc_is_name.nd)) (fun _ _ _ _ _ => kts_nil) (fun _ _ _ _ _ => (ke_cmp (od_in hr.u) (ke_var 1) (ke_gstr T.c_LETTERS) (by first | exact nomark _ | rfl)))) ka_nil)))))
def m_is_figures (K : Frag) (a : Ad) : FF := fnF 1 3 (sSeq (sIf (bNot (bTru (eFn (isiD K) (aCons (eVar 0) (aCons (eC (.ty "str")) aNil))))) (sRet (eC (.bl false))) sNil) (sSeq (sSet 1 (eIf (bCmp eqB (eSl (eVar 0) oNone (oSome (eC (.int 1)))) (eC (.str "-"))) (eSl (eVar 0) (oSome (eC (.int 1))) oNone) (eVar 0))) (sSeq (sIf (bOr (bNot (bChain leB leB (eC (.int 1)) (eFn lenD (aCons (eVar 1) aNil)) (eC (.int 1000)))) (bNot (bTru (eFn allD (aCons (eComp (iSeq (eVar 1)) [2] (tfName 2) tYesF (eCmp inB (eVar 2) (eC (.str "0123456789")))) aNil))))) (sRet (eC (.bl false))) sNil) (sRet (eOr (eCmp eqB (eVar 0) (eC (.str "0"))) (eCmp neB (eBin ixD (eVar 1) (eC (.int 0))) (eC (.str "0"))))))))
theorem k_is_figures (T : Tp K mg a) (nd : NoDig base) : KFn P w K mg base 1 a.f_is_figures a.d_is_figures ["word"] (m_is_figures K a) :=
  kfn_of (k := 0) T.fun_is_figures sc_is_figures fun cdv A outer s H E hr =>
    (kss_cons (ks_if (kb_not (kb_tru (ke_callB cd_isi T.no_isinstance bt_isinstance (ka_cons (ke_var 0) (ka_cons (ke_ty T.no_str bt_str) ka_nil))))) (kss_one (ks_ret ke_bl)) kss_nil)
      (kss_cons (ks_set 1 sc_is_figures.nd (ke_if (kb_cmp (od_eq hr.u) (ke_slice (ke_var 0) ko_none (ko_some ke_int)) ke_str (by first | exact nomark _ | rfl)) (ke_slice (ke_var 0) (ko_some ke_int) ko_none) (ke_var 0)))
      (kss_cons (ks_if (kb_w (kw_or (kb_not (kb_chain (od_le) (od_le) ke_int (ke_callB cd_len T.no_len bt_len (ka_cons (ke_var 1) ka_nil)) (ke_gint T.c_MOST_FIGURES))) (kw_or1 (kb_not (kb_tru (ke_callB (cd_all rfl) T.no_all bt_all (ka_cons (ke_comp (own := [("figure", 2)]) sc_is_figures.nd (ki_seq (ke_var 1)) (blkOk_by (N := ["word", "figures", "figure"]) (sc := defScope s_is_figures) (by decide +kernel)) (fun _ _ _ _ _ => (kg_name 2 sc_is_figures.nd)) (fun _ _ _ _ _ => kts_nil) (fun _ _ _ _ _ => (ke_cmp (od_in hr.u) (ke_var 2) ke_str (by first | exact nomark _ | rfl)))) ka_nil))))))) (kss_one (ks_ret ke_bl)) kss_nil)
      (kss_one (ks_ret (ke_or (ke_cmp (od_eq hr.u) (ke_var 0) ke_str (by first | exact nomark _ | rfl)) (ke_one (ke_cmp (od_ne hr.u) (ke_ix xd_seq (ke_var 1) ke_int) ke_str (by first | exact nomark _ | rfl)))))))))
def m_number_of (K : Frag) (a : Ad) : FF := fnF 3 4 (sSeq (sIf (bNot (bTru (eCall (m_is_figures K a) [.p 0] 1 0 (cPos (aCons (eVar 0) aNil))))) (sRet (eC .non)) sNil) (sSeq (sSet 3 (eFn intL (aCons (eVar 0) aNil))) (sRet (eIf (bChain leB leB (eVar 1) (eVar 3) (eVar 2)) (eVar 3) (eC .non)))))
theorem k_number_of (T : Tp K mg a) (nd : NoDig base) : KFn P w K mg base 2 a.f_number_of a.d_number_of ["word", "least", "most"] (m_number_of K a) :=
  kfn_of (k := 1) T.fun_number_of sc_number_of fun cdv A outer s H E hr =>
    (kss_cons (ks_if (kb_not (kb_tru (ke_call tk_of hr ((k_is_figures T nd).mono (by decide)) (b_is_figures_1 T) T.mg_is_figures T.fun_is_figures.kp (kc_pos (ka_cons (ke_var 0) ka_nil))))) (kss_one (ks_ret ke_non)) kss_nil)
      (kss_cons (ks_set 3 sc_number_of.nd (ke_callT (cd_intL nd) T.no_int bt_int (ka_cons (ke_var 0) ka_nil)))
      (kss_one (ks_ret (ke_if (kb_chain (od_le) (od_le) (ke_var 1) (ke_var 3) (ke_var 2)) (ke_var 3) ke_non)))))
def m_l_page_right (K : Frag) (a : Ad) : FF := fnF 3 9 (sSeq (sSet 3 (eCall (m_l_written K a) [.p 0] 1 0 (cPos (aCons (eVar 0) aNil)))) (sSeq (sSet 4 (eComp (iSeq (eVar 0)) [8] (tfName 8) (bCmp notInB (eVar 8) (eC (.str "abcdefghijklmnopqrstuvwxyz"))) (eVar 8))) (sSeq (sSet 5 (eLst (aCons (eCall (m_is_name K a) [.p 0] 1 0 (cPos (aCons (eVar 0) aNil))) (aCons (eCall (m_number_of K a) [.p 0, .p 1, .p 2] 3 0 (cPos (aCons (eVar 0) (aCons (eVar 1) (aCons (eVar 2) aNil))))) (aCons (eCall (m_is_integer K a) [.p 0] 1 0 (cPos (aCons (eVar 0) aNil))) (aCons (eCall (m_is_amount K a) [.p 0] 1 0 (cPos (aCons (eVar 0) aNil))) aNil)))))) (sSeq (sSet 6 (eIf (bAnd (bCmp notNonB (eVar 3) (eC .non)) (bChain leB leB (eVar 1) (eVar 3) (eVar 2))) (eVar 3) (eC .non))) (sSeq (sSet 7 (eAnd (eChain leB leB (eC (.int 1)) (eFn lenD (aCons (eVar 0) aNil)) (eC (.int 8))) (eAnd (eCmp eqB (eVar 4) (eLst aNil)) (eCmp neB (eVar 0) (eC (.str "self")))))) (sRet (eCmp eqB (eFn reprD (aCons (eVar 5) aNil)) (eFn reprD (aCons (eLst (aCons (eVar 7) (aCons (eVar 6) (aCons (eC (.bl false)) (aCons (eC (.bl false)) aNil))))) aNil)))))))))
theorem k_l_page_right (T : Tp K mg a) (nd : NoDig base) : KFn P w K mg base 3 a.f_l_page_right a.d_l_page_right ["_law_page", "_law_low", "_law_high"] (m_l_page_right K a) :=
  kfn_of (k := 2) T.fun_l_page_right sc_l_page_right fun cdv A outer s H E hr =>
    (kss_cons (ks_set 3 sc_l_page_right.nd (ke_call tk_of hr ((k_l_written T nd).mono (by decide)) (b_l_written_1 T) T.mg__law_written T.fun_l_written.kp (kc_pos (ka_cons (ke_var 0) ka_nil))))
      (kss_cons (ks_setComp 4 (own := [("_law_sign", 8)]) sc_l_page_right.nd (ki_seq (ke_var 0)) (blkOk_by (N := ["_law_page", "_law_low", "_law_high", "_law_found", "_law_strange", "_law_told_so", "_law_inside", "_law_is_fine", "_law_sign"]) (sc := defScope s_l_page_right) (by decide +kernel)) (fun _ _ _ _ _ => (kg_name 8 sc_l_page_right.nd)) (fun _ _ _ _ _ => (kts_one (kb_cmp (od_notIn hr.u) (ke_var 8) ke_str (by first | exact nomark _ | rfl)))) (fun _ _ _ _ _ => (ke_var 8)))
      (kss_cons (ks_set 5 sc_l_page_right.nd (ke_lst (ka_cons (ke_call tk_of hr ((k_is_name T nd).mono (by decide)) (b_is_name_1 T) T.mg_is_name T.fun_is_name.kp (kc_pos (ka_cons (ke_var 0) ka_nil))) (ka_cons (ke_call tk_of hr ((k_number_of T nd).mono (by decide)) (b_number_of_3 T) T.mg_number_of T.fun_number_of.kp (kc_pos (ka_cons (ke_var 0) (ka_cons (ke_var 1) (ka_cons (ke_var 2) ka_nil))))) (ka_cons (ke_call tk_of hr ((k_is_integer T nd).mono (by decide)) (b_is_integer_1 T) T.mg_is_integer T.fun_is_integer.kp (kc_pos (ka_cons (ke_var 0) ka_nil))) (ka_cons (ke_call tk_of hr ((k_is_amount T nd).mono (by decide)) (b_is_amount_1 T) T.mg_is_amount T.fun_is_amount.kp (kc_pos (ka_cons (ke_var 0) ka_nil))) ka_nil))))))
      (kss_cons (ks_set 6 sc_l_page_right.nd (ke_if (kb_w (kw_and (kb_cmp (od_notN) (ke_var 3) ke_non (by first | exact nomark _ | rfl)) (kw_and1 (kb_chain (od_le) (od_le) (ke_var 1) (ke_var 3) (ke_var 2))))) (ke_var 3) ke_non))
      (kss_cons (ks_set 7 sc_l_page_right.nd (ke_and (ke_chain (od_le) (od_le) ke_int (ke_callB cd_len T.no_len bt_len (ka_cons (ke_var 0) ka_nil)) ke_int) (ke_and (ke_cmp (od_eq hr.u) (ke_var 4) (ke_lst ka_nil) (by first | exact nomark _ | rfl)) (ke_one (ke_cmp (od_ne hr.u) (ke_var 0) ke_str (by first | exact nomark _ | rfl))))))
      (kss_one (ks_ret (ke_cmp (od_eq hr.u) (ke_callB (cd_repr hr) T.no_repr bt_repr (ka_cons (ke_var 5) ka_nil)) (ke_callB (cd_repr hr) T.no_repr bt_repr (ka_cons (ke_lst (ka_cons (ke_var 7) (ka_cons (ke_var 6) (ka_cons ke_bl (ka_cons ke_bl ka_nil))))) ka_nil)) (by first | exact nomark _ | rfl)))))))))
def m_Denial_bool (K : Frag) (a : Ad) : FF := fnF 1 1 (sRet (eC (.bl false)))
theorem k_Denial_bool (T : Tp K mg a) (nd : NoDig base) : KFn P w K mg base 1 a.f_Denial_bool a.d_Denial_bool ["self"] (m_Denial_bool K a) :=
  kfn_of (k := 0) T.fun_Denial_bool sc_Denial_bool fun cdv A outer s H E hr =>
    (kss_one (ks_ret ke_bl))
def m_Lacking_init (K : Frag) (a : Ad) : FF := fnF 3 3 (sSeq (sFld [a.c_Lacking] "i" (eVar 0) (eVar 1)) (sFld [a.c_Lacking] "j" (eVar 0) (eVar 2)))
theorem k_Lacking_init (T : Tp K mg a) (nd : NoDig base) : KFn P w K mg base 1 a.f_Lacking_init a.d_Lacking_init ["self", "i", "j"] (m_Lacking_init K a) :=
  kfn_of (k := 0) T.fun_Lacking_init sc_Lacking_init fun cdv A outer s H E hr =>
    (kss_cons (ks_fld (Cs := [a.c_Lacking]) (by intro C hC; simp only [List.mem_cons, List.not_mem_nil, or_false] at hC; subst hC <;> first | exact T.na_Lacking_i) (ke_var 0) (ke_var 1))
      (kss_one (ks_fld (Cs := [a.c_Lacking]) (by intro C hC; simp only [List.mem_cons, List.not_mem_nil, or_false] at hC; subst hC <;> first | exact T.na_Lacking_j) (ke_var 0) (ke_var 2))))
def m_Moved_init (K : Frag) (a : Ad) : FF := fnF 2 2 (sFld [a.c_Moved] "moves" (eVar 0) (eVar 1))
theorem k_Moved_init (T : Tp K mg a) (nd : NoDig base) : KFn P w K mg base 1 a.f_Moved_init a.d_Moved_init ["self", "moves"] (m_Moved_init K a) :=
  kfn_of (k := 0) T.fun_Moved_init sc_Moved_init fun cdv A outer s H E hr =>
    (kss_one (ks_fld (Cs := [a.c_Moved]) (by intro C hC; simp only [List.mem_cons, List.not_mem_nil, or_false] at hC; subst hC <;> first | exact T.na_Moved_moves) (ke_var 0) (ke_var 1)))
def no_bool (a : Ad) : List Addr := [a.c_Moved, a.c_Paper]
def tb_bool (K : Frag) (a : Ad) : List (Addr × FF) := [(a.c_Denial, fun us L => opt (arrU us [] [.p 0]) fun xs => m_Denial_bool K a xs L), (a.c_Lacking, fun us L => opt (arrU us [] [.p 0]) fun xs => m_Denial_bool K a xs L)]
theorem no_bool_ok (T : Tp K mg a) : ∀ C ∈ no_bool a, NoTru K C := by
  intro C hC
  simp only [no_bool, List.mem_cons, List.not_mem_nil, or_false] at hC
  rcases hC with rfl | rfl
  · exact T.nb_Moved
  · exact T.nb_Paper
theorem tb_bool_ok (T : Tp K mg a) (nd : NoDig base) : KMt P w K mg base 1 "__bool__" 1 (tb_bool K a) := by
  intro C m hC
  simp only [tb_bool, List.mem_cons, List.not_mem_nil, or_false, Prod.mk.injEq] at hC
  rcases hC with ⟨rfl, rfl⟩ | ⟨rfl, rfl⟩
  · exact ⟨_, _, _, _, _, T.mb_Denial, (k_Denial_bool T nd).mono (by decide), b_Denial_bool_1 T, rfl⟩
  · exact ⟨_, _, _, _, _, T.mb_Lacking, (k_Denial_bool T nd).mono (by decide), b_Denial_bool_1 T, rfl⟩
def m_l_papers_right (K : Frag) (a : Ad) : FF := fnF 2 5 (sSeq (sPar 2 3 (aCons (eRest (eMake a.c_Moved (m_Moved_init K a) [.p 0, .p 1] 1 0 (cPos (aCons (eVar 0) aNil)))) (aCons (eRest (eMake a.c_Lacking (m_Lacking_init K a) [.p 0, .p 1, .p 2] 2 0 (cPos (aCons (eVar 0) (aCons (eVar 1) aNil))))) aNil))) (sSeq (sSet 4 (eLst (aCons (eFn (isiD K) (aCons (eVar 2) (aCons (eC (.obj a.c_Paper)) aNil))) (aCons (eFn (isiD K) (aCons (eVar 2) (aCons (eC (.obj a.c_Denial)) aNil))) (aCons (eFn (isiD K) (aCons (eVar 2) (aCons (eC (.obj a.c_Lacking)) aNil))) (aCons (eFnU (boolU (no_bool a) (tb_bool K a)) (aCons (eVar 2) aNil)) aNil)))))) (sSeq (sSet 4 (eBin addD (eVar 4) (eLst (aCons (eFn (isiD K) (aCons (eVar 3) (aCons (eC (.obj a.c_Paper)) aNil))) (aCons (eFn (isiD K) (aCons (eVar 3) (aCons (eC (.obj a.c_Denial)) aNil))) (aCons (eFn (isiD K) (aCons (eVar 3) (aCons (eC (.obj a.c_Moved)) aNil))) (aCons (eFnU (boolU (no_bool a) (tb_bool K a)) (aCons (eVar 3) aNil)) aNil))))))) (sRet (eCmp eqB (eVar 4) (eLst (aCons (eC (.bl true)) (aCons (eC (.bl false)) (aCons (eC (.bl false)) (aCons (eC (.bl true)) (aCons (eC (.bl true)) (aCons (eC (.bl true)) (aCons (eC (.bl false)) (aCons (eC (.bl false)) aNil))))))))))))))
theorem k_l_papers_right (T : Tp K mg a) (nd : NoDig base) : KFn P w K mg base 4 a.f_l_papers_right a.d_l_papers_right ["_law_thing_here", "_law_other"] (m_l_papers_right K a) :=
  kfn_of (k := 3) T.fun_l_papers_right sc_l_papers_right fun cdv A outer s H E hr =>
    (kss_cons (ks_par 2 3 sc_l_papers_right.nd (ka_cons (ke_rest (ke_make tk_of (hr.mono (by decide)) T.mk_Moved T.own_Moved (k_Moved_init T nd) (b_Moved_init_2 T) T.mg_Moved (kc_pos (ka_cons (ke_var 0) ka_nil)))) (ka_cons (ke_rest (ke_make tk_of (hr.mono (by decide)) T.mk_Lacking T.own_Lacking (k_Lacking_init T nd) (b_Lacking_init_3 T) T.mg_Lacking (kc_pos (ka_cons (ke_var 0) (ka_cons (ke_var 1) ka_nil))))) ka_nil)))
      (kss_cons (ks_set 4 sc_l_papers_right.nd (ke_lst (ka_cons (ke_callB cd_isi T.no_isinstance bt_isinstance (ka_cons (ke_var 2) (ka_cons (ke_obj T.mg_Paper) ka_nil))) (ka_cons (ke_callB cd_isi T.no_isinstance bt_isinstance (ka_cons (ke_var 2) (ka_cons (ke_obj T.mg_Denial) ka_nil))) (ka_cons (ke_callB cd_isi T.no_isinstance bt_isinstance (ka_cons (ke_var 2) (ka_cons (ke_obj T.mg_Lacking) ka_nil))) (ka_cons (ke_callTU (cu_bool (no_bool_ok T) (tb_bool_ok T nd) (hr.mono (by decide)) tk_of) T.no_bool bt_bool (ka_cons (ke_var 2) ka_nil)) ka_nil))))))
      (kss_cons (ks_set 4 sc_l_papers_right.nd (ke_bin od_add (ke_var 4) (ke_lst (ka_cons (ke_callB cd_isi T.no_isinstance bt_isinstance (ka_cons (ke_var 3) (ka_cons (ke_obj T.mg_Paper) ka_nil))) (ka_cons (ke_callB cd_isi T.no_isinstance bt_isinstance (ka_cons (ke_var 3) (ka_cons (ke_obj T.mg_Denial) ka_nil))) (ka_cons (ke_callB cd_isi T.no_isinstance bt_isinstance (ka_cons (ke_var 3) (ka_cons (ke_obj T.mg_Moved) ka_nil))) (ka_cons (ke_callTU (cu_bool (no_bool_ok T) (tb_bool_ok T nd) (hr.mono (by decide)) tk_of) T.no_bool bt_bool (ka_cons (ke_var 3) ka_nil)) ka_nil)))))))
      (kss_one (ks_ret (ke_cmp (od_eq hr.u) (ke_var 4) (ke_lst (ka_cons ke_bl (ka_cons ke_bl (ka_cons ke_bl (ka_cons ke_bl (ka_cons ke_bl (ka_cons ke_bl (ka_cons ke_bl (ka_cons ke_bl ka_nil))))))))) (by first | exact nomark _ | rfl)))))))
def m_l_pen (K : Frag) (a : Ad) : FF := fnF 1 1 (sRet (eLstL (aCons (eFn listD (aCons (eSl (eVar 0) oNone (oSome (eC (.int 63)))) aNil)) (aCons (eC (.int 0)) (aCons (eC (.int 0)) aNil)))))
theorem k_l_pen (T : Tp K mg a) (nd : NoDig base) : KFn P w K mg base 1 a.f_l_pen a.d_l_pen ["_law_script"] (m_l_pen K a) :=
  kfn_of (k := 0) T.fun_l_pen sc_l_pen fun cdv A outer s H E hr =>
    (kss_one (ks_ret (ke_lstL (ka_cons (ke_callT cd_list T.no_list bt_list (ka_cons (ke_slice (ke_var 0) ko_none (ko_some ke_int)) ka_nil)) (ka_cons ke_int (ka_cons ke_int ka_nil))))))
def m_l_is_plain (K : Frag) (a : Ad) : FF := fnF 1 1 (sRet (eAnd (eFn (isiD K) (aCons (eVar 0) (aCons (eC (.ty "int")) aNil))) (eNot (eFn (isiD K) (aCons (eVar 0) (aCons (eC (.ty "bool")) aNil))))))
theorem k_l_is_plain (T : Tp K mg a) (nd : NoDig base) : KFn P w K mg base 1 a.f_l_is_plain a.d_l_is_plain ["_law_thing_here"] (m_l_is_plain K a) :=
  kfn_of (k := 0) T.fun_l_is_plain sc_l_is_plain fun cdv A outer s H E hr =>
    (kss_one (ks_ret (ke_and (ke_callB cd_isi T.no_isinstance bt_isinstance (ka_cons (ke_var 0) (ka_cons (ke_ty T.no_int bt_int) ka_nil))) (ke_one (ke_not (ke_callB cd_isi T.no_isinstance bt_isinstance (ka_cons (ke_var 0) (ka_cons (ke_ty T.no_bool bt_bool) ka_nil))))))))
def m_is_within (K : Frag) (a : Ad) : FF := fnF 3 3 (sRet (eAnd (eCall (m_is_integer K a) [.p 0] 1 0 (cPos (aCons (eVar 0) aNil))) (eChain leB leB (eVar 1) (eVar 0) (eVar 2))))
theorem k_is_within (T : Tp K mg a) (nd : NoDig base) : KFn P w K mg base 2 a.f_is_within a.d_is_within ["value", "least", "most"] (m_is_within K a) :=
  kfn_of (k := 1) T.fun_is_within sc_is_within fun cdv A outer s H E hr =>
    (kss_one (ks_ret (ke_and (ke_call tk_of hr ((k_is_integer T nd).mono (by decide)) (b_is_integer_1 T) T.mg_is_integer T.fun_is_integer.kp (kc_pos (ka_cons (ke_var 0) ka_nil))) (ke_one (ke_chain (od_le) (od_le) (ke_var 1) (ke_var 0) (ke_var 2))))))
def m_l_right (K : Frag) (a : Ad) : FF := fnF 3 5 (sSeq (sSet 3 (eLst (aCons (eCall (m_is_integer K a) [.p 0] 1 0 (cPos (aCons (eVar 0) aNil))) (aCons (eCall (m_is_within K a) [.p 0, .p 1, .p 2] 3 0 (cPos (aCons (eVar 0) (aCons (eVar 1) (aCons (eVar 2) aNil))))) (aCons (eCall (m_is_amount K a) [.p 0] 1 0 (cPos (aCons (eVar 0) aNil))) aNil))))) (sSeq (sSet 4 (eCall (m_l_is_plain K a) [.p 0] 1 0 (cPos (aCons (eVar 0) aNil)))) (sRet (eCmp eqB (eFn reprD (aCons (eVar 3) aNil)) (eFn reprD (aCons (eLst (aCons (eVar 4) (aCons (eAnd (eVar 4) (eChain leB leB (eVar 1) (eVar 0) (eVar 2))) (aCons (eAnd (eVar 4) (eCmp geB (eVar 0) (eC (.int 0)))) aNil)))) aNil))))))
theorem k_l_right (T : Tp K mg a) (nd : NoDig base) : KFn P w K mg base 3 a.f_l_right a.d_l_right ["_law_thing_here", "_law_low", "_law_high"] (m_l_right K a) :=
  kfn_of (k := 2) T.fun_l_right sc_l_right fun cdv A outer s H E hr =>
    (kss_cons (ks_set 3 sc_l_right.nd (ke_lst (ka_cons (ke_call tk_of hr ((k_is_integer T nd).mono (by decide)) (b_is_integer_1 T) T.mg_is_integer T.fun_is_integer.kp (kc_pos (ka_cons (ke_var 0) ka_nil))) (ka_cons (ke_call tk_of hr ((k_is_within T nd).mono (by decide)) (b_is_within_3 T) T.mg_is_within T.fun_is_within.kp (kc_pos (ka_cons (ke_var 0) (ka_cons (ke_var 1) (ka_cons (ke_var 2) ka_nil))))) (ka_cons (ke_call tk_of hr ((k_is_amount T nd).mono (by decide)) (b_is_amount_1 T) T.mg_is_amount T.fun_is_amount.kp (kc_pos (ka_cons (ke_var 0) ka_nil))) ka_nil)))))
      (kss_cons (ks_set 4 sc_l_right.nd (ke_call tk_of hr ((k_l_is_plain T nd).mono (by decide)) (b_l_is_plain_1 T) T.mg__law_is_plain T.fun_l_is_plain.kp (kc_pos (ka_cons (ke_var 0) ka_nil))))
      (kss_one (ks_ret (ke_cmp (od_eq hr.u) (ke_callB (cd_repr hr) T.no_repr bt_repr (ka_cons (ke_var 3) ka_nil)) (ke_callB (cd_repr hr) T.no_repr bt_repr (ka_cons (ke_lst (ka_cons (ke_var 4) (ka_cons (ke_and (ke_var 4) (ke_one (ke_chain (od_le) (od_le) (ke_var 1) (ke_var 0) (ke_var 2)))) (ka_cons (ke_and (ke_var 4) (ke_one (ke_cmp (od_ge) (ke_var 0) ke_int (by first | exact nomark _ | rfl)))) ka_nil)))) ka_nil)) (by first | exact nomark _ | rfl))))))
def m_l_thing (K : Frag) (a : Ad) : FF := fnF 1 2 (sSeq (sSet 1 (eLst (aCons (eC .non) (aCons (eC (.bl true)) (aCons (eC (.bl false)) (aCons (eC (.int 0)) (aCons (eC (.int 1)) (aCons (eUn negD (eC (.int 1))) (aCons (eC (.int 60)) (aCons (eBin powD (eC (.int 10)) (eC (.int 39))) (aCons (eC (.str "0")) (aCons (eC (.str "1")) (aCons (eC (.str "a")) (aCons (eTup aNil) (aCons (eTup (aCons (eC (.int 1)) aNil)) (aCons (eTup (aCons (eC (.str "a")) aNil)) (aCons (eLst aNil) (aCons (eLst (aCons (eC (.int 0)) aNil)) (aCons (eLst (aCons (eC (.str "a")) aNil)) (aCons eDic0 (aCons (eDic (((eC (.int 1)), (eC (.int 2))) :: [])) aNil))))))))))))))))))))) (sRet (eCall (m_l_pick K a) [.p 0, .p 1] 2 0 (cPos (aCons (eVar 0) (aCons (eVar 1) aNil))))))
theorem k_l_thing (T : Tp K mg a) (nd : NoDig base) : KFn P w K mg base 3 a.f_l_thing a.d_l_thing ["_law_pen_here"] (m_l_thing K a) :=
  kfn_of (k := 2) T.fun_l_thing sc_l_thing fun cdv A outer s H E hr =>
    (kss_cons (ks_set 1 sc_l_thing.nd (ke_lst (ka_cons ke_non (ka_cons ke_bl (ka_cons ke_bl (ka_cons ke_int (ka_cons ke_int (ka_cons (ke_un od_neg ke_int) (ka_cons ke_int (ka_cons (ke_bin od_pow ke_int ke_int) (ka_cons ke_str (ka_cons ke_str (ka_cons ke_str (ka_cons (ke_tup ka_nil) (ka_cons (ke_tup (ka_cons ke_int ka_nil)) (ka_cons (ke_tup (ka_cons ke_str ka_nil)) (ka_cons (ke_lst ka_nil) (ka_cons (ke_lst (ka_cons ke_int ka_nil)) (ka_cons (ke_lst (ka_cons ke_str ka_nil)) (ka_cons ke_dic0 (ka_cons (ke_dict (kps_cons ke_int ke_int kps_nil)) ka_nil)))))))))))))))))))))
      (kss_one (ks_ret (ke_call tk_of hr ((k_l_pick T nd).mono (by decide)) (b_l_pick_2 T) T.mg__law_pick T.fun_l_pick.kp (kc_pos (ka_cons (ke_var 0) (ka_cons (ke_var 1) ka_nil)))))))
def m_law (K : Frag) (a : Ad) : FF := fnF 1 7 (sSeq (sSet 1 (eCall (m_l_pen K a) [.p 0] 1 0 (cPos (aCons (eVar 0) aNil)))) (sSeq (sFor (iRng1 (aCons (eC (.int 12)) aNil)) (tfName 2) (sSeq (sSet 3 (eCall (m_l_pick K a) [.p 0, .p 1] 2 0 (cPos (aCons (eVar 1) (aCons (eLst (aCons (eUn negD (eBin powD (eC (.int 10)) (eC (.int 29)))) (aCons (eUn negD (eC (.int 7))) (aCons (eUn negD (eC (.int 1))) (aCons (eC (.int 0)) (aCons (eC (.int 1)) (aCons (eC (.int 10)) aNil))))))) aNil))))) (sSeq (sSet 4 (eBin addD (eVar 3) (eCall (m_l_pick K a) [.p 0, .p 1] 2 0 (cPos (aCons (eVar 1) (aCons (eLst (aCons (eUn negD (eC (.int 1))) (aCons (eC (.int 0)) (aCons (eC (.int 1)) (aCons (eC (.int 5000)) (aCons (eBin powD (eC (.int 10)) (eC (.int 30))) aNil)))))) aNil)))))) (sSeq (sSet 5 (eCall (m_l_thing K a) [.p 0] 1 0 (cPos (aCons (eVar 1) aNil)))) (sSeq (sIf (bOr (bNot (bTru (eCall (m_l_right K a) [.p 0, .p 1, .p 2] 3 0 (cPos (aCons (eVar 5) (aCons (eVar 3) (aCons (eVar 4) aNil))))))) (bOr (bNot (bTru (eCall (m_l_right K a) [.p 0, .p 1, .p 2] 3 0 (cPos (aCons (eVar 3) (aCons (eVar 3) (aCons (eVar 4) aNil))))))) (bNot (bTru (eCall (m_l_right K a) [.p 0, .p 1, .p 2] 3 0 (cPos (aCons (eVar 4) (aCons (eVar 3) (aCons (eVar 4) aNil))))))))) (sRet (eC (.bl false))) sNil) (sSeq (sIf (bOr (bNot (bTru (eCall (m_l_page_right K a) [.p 0, .p 1, .p 2] 3 0 (cPos (aCons (eCall (m_l_letters K a) [.p 0] 1 0 (cPos (aCons (eVar 1) aNil))) (aCons (eVar 3) (aCons (eVar 4) aNil))))))) (bNot (bTru (eCall (m_l_page_right K a) [.p 0, .p 1, .p 2] 3 0 (cPos (aCons (eCall (m_l_figures K a) [.p 0] 1 0 (cPos (aCons (eVar 1) aNil))) (aCons (eVar 3) (aCons (eVar 4) aNil)))))))) (sRet (eC (.bl false))) sNil) (sSeq (sIf (bNot (bTru (eCall (m_l_papers_right K a) [.p 0, .p 1] 2 0 (cPos (aCons (eVar 5) (aCons (eVar 3) aNil)))))) (sRet (eC (.bl false))) sNil) (sIf (bAnd (bNot (bTru (eFn (isiD K) (aCons (eVar 5) (aCons (eC (.ty "str")) aNil))))) (bCmp neB (eFn reprD (aCons (eLst (aCons (eCall (m_is_name K a) [.p 0] 1 0 (cPos (aCons (eVar 5) aNil))) (aCons (eCall (m_number_of K a) [.p 0, .p 1, .p 2] 3 0 (cPos (aCons (eVar 5) (aCons (eVar 3) (aCons (eVar 4) aNil))))) aNil))) aNil)) (eFn reprD (aCons (eLst (aCons (eC (.bl false)) (aCons (eC .non) aNil))) aNil)))) (sRet (eC (.bl false))) sNil)))))))) (sSeq (sSet 6 (eLst (aCons (eCall (m_is_integer K a) [.k 0] 0 1 (cBoth aNil (aCons (eC (.int 3)) aNil))) (aCons (eCall (m_is_name K a) [.k 0] 0 1 (cBoth aNil (aCons (eC (.str "abcdefgh")) aNil))) (aCons (eCall (m_is_within K a) [.k 0, .k 1, .k 2] 0 3 (cBoth aNil (aCons (eC (.int 5)) (aCons (eC (.int 5)) (aCons (eC (.int 5)) aNil))))) (aCons (eCall (m_is_amount K a) [.k 0] 0 1 (cBoth aNil (aCons (eC (.int 0)) aNil))) aNil)))))) (sSeq (sSet 6 (eBin addD (eVar 6) (eLst (aCons (eCall (m_number_of K a) [.k 0, .k 1, .k 2] 0 3 (cBoth aNil (aCons (eC (.str "-3")) (aCons (eUn negD (eC (.int 3))) (aCons (eC (.int 5)) aNil))))) (aCons (eCall (m_number_of K a) [.p 0, .p 1, .p 2] 3 0 (cPos (aCons (eBin smulD (eC (.str "9")) (eC (.int 900))) (aCons (eC (.int 0)) (aCons (eFn intL (aCons (eBin addD (eC (.str "1")) (eBin smulD (eC (.str "0")) (eC (.int 900)))) aNil)) aNil))))) aNil))))) (sRet (eCmp eqB (eVar 6) (eLst (aCons (eC (.bl true)) (aCons (eC (.bl true)) (aCons (eC (.bl true)) (aCons (eC (.bl true)) (aCons (eUn negD (eC (.int 3))) (aCons (eFn intL (aCons (eBin smulD (eC (.str "9")) (eC (.int 900))) aNil)) aNil)))))))))))))
end
end VL.P

set_option Elab.async false
set_option linter.all false
set_option maxRecDepth 100000
set_option maxHeartbeats 4000000
namespace VL.P
open PySem PySem.Spec PyProof.Rows L2 VL
open PySem.W (Frag)
section
variable {P : Program} {w : World} {K : Frag} {mg : Str → Option Value} {base : Heap} {a : Ad}
theorem k_law (T : Tp K mg a) (nd : NoDig base) : KFn P w K mg base 5 a.f_law a.d_law ["_law_script"] (m_law K a) :=
  kfn_of (k := 4) T.fun_law sc_law fun cdv A outer s H E hr =>
    (kss_cons (ks_set 1 sc_law.nd (ke_call tk_of hr ((k_l_pen T nd).mono (by decide)) (b_l_pen_1 T) T.mg__law_pen T.fun_l_pen.kp (kc_pos (ka_cons (ke_var 0) ka_nil))))
      (kss_cons (ks_for (passes_of rfl) (ki_range1 T.no_range (ka_cons ke_int ka_nil)) (kg_name 2 sc_law.nd) (kss_cons (ks_set 3 sc_law.nd (ke_call tk_of hr ((k_l_pick T nd).mono (by decide)) (b_l_pick_2 T) T.mg__law_pick T.fun_l_pick.kp (kc_pos (ka_cons (ke_var 1) (ka_cons (ke_lst (ka_cons (ke_un od_neg (ke_bin od_pow ke_int ke_int)) (ka_cons (ke_un od_neg ke_int) (ka_cons (ke_un od_neg ke_int) (ka_cons ke_int (ka_cons ke_int (ka_cons ke_int ka_nil))))))) ka_nil)))))
      (kss_cons (ks_set 4 sc_law.nd (ke_bin od_add (ke_var 3) (ke_call tk_of hr ((k_l_pick T nd).mono (by decide)) (b_l_pick_2 T) T.mg__law_pick T.fun_l_pick.kp (kc_pos (ka_cons (ke_var 1) (ka_cons (ke_lst (ka_cons (ke_un od_neg ke_int) (ka_cons ke_int (ka_cons ke_int (ka_cons ke_int (ka_cons (ke_bin od_pow ke_int ke_int) ka_nil)))))) ka_nil))))))
      (kss_cons (ks_set 5 sc_law.nd (ke_call tk_of hr ((k_l_thing T nd).mono (by decide)) (b_l_thing_1 T) T.mg__law_thing T.fun_l_thing.kp (kc_pos (ka_cons (ke_var 1) ka_nil))))
      (kss_cons (ks_if (kb_w (kw_or (kb_not (kb_tru (ke_call tk_of hr ((k_l_right T nd).mono (by decide)) (b_l_right_3 T) T.mg__law_right T.fun_l_right.kp (kc_pos (ka_cons (ke_var 5) (ka_cons (ke_var 3) (ka_cons (ke_var 4) ka_nil))))))) (kw_or (kb_not (kb_tru (ke_call tk_of hr ((k_l_right T nd).mono (by decide)) (b_l_right_3 T) T.mg__law_right T.fun_l_right.kp (kc_pos (ka_cons (ke_var 3) (ka_cons (ke_var 3) (ka_cons (ke_var 4) ka_nil))))))) (kw_or1 (kb_not (kb_tru (ke_call tk_of hr ((k_l_right T nd).mono (by decide)) (b_l_right_3 T) T.mg__law_right T.fun_l_right.kp (kc_pos (ka_cons (ke_var 4) (ka_cons (ke_var 3) (ka_cons (ke_var 4) ka_nil))))))))))) (kss_one (ks_ret ke_bl)) kss_nil)
      (kss_cons (ks_if (kb_w (kw_or (kb_not (kb_tru (ke_call tk_of hr ((k_l_page_right T nd).mono (by decide)) (b_l_page_right_3 T) T.mg__law_page_right T.fun_l_page_right.kp (kc_pos (ka_cons (ke_call tk_of hr ((k_l_letters T nd).mono (by decide)) (b_l_letters_1 T) T.mg__law_letters T.fun_l_letters.kp (kc_pos (ka_cons (ke_var 1) ka_nil))) (ka_cons (ke_var 3) (ka_cons (ke_var 4) ka_nil))))))) (kw_or1 (kb_not (kb_tru (ke_call tk_of hr ((k_l_page_right T nd).mono (by decide)) (b_l_page_right_3 T) T.mg__law_page_right T.fun_l_page_right.kp (kc_pos (ka_cons (ke_call tk_of hr ((k_l_figures T nd).mono (by decide)) (b_l_figures_1 T) T.mg__law_figures T.fun_l_figures.kp (kc_pos (ka_cons (ke_var 1) ka_nil))) (ka_cons (ke_var 3) (ka_cons (ke_var 4) ka_nil)))))))))) (kss_one (ks_ret ke_bl)) kss_nil)
      (kss_cons (ks_if (kb_not (kb_tru (ke_call tk_of hr ((k_l_papers_right T nd).mono (by decide)) (b_l_papers_right_2 T) T.mg__law_papers_right T.fun_l_papers_right.kp (kc_pos (ka_cons (ke_var 5) (ka_cons (ke_var 3) ka_nil)))))) (kss_one (ks_ret ke_bl)) kss_nil)
      (kss_one (ks_if (kb_w (kw_and (kb_not (kb_tru (ke_callB cd_isi T.no_isinstance bt_isinstance (ka_cons (ke_var 5) (ka_cons (ke_ty T.no_str bt_str) ka_nil))))) (kw_and1 (kb_cmp (od_ne hr.u) (ke_callB (cd_repr hr) T.no_repr bt_repr (ka_cons (ke_lst (ka_cons (ke_call tk_of hr ((k_is_name T nd).mono (by decide)) (b_is_name_1 T) T.mg_is_name T.fun_is_name.kp (kc_pos (ka_cons (ke_var 5) ka_nil))) (ka_cons (ke_call tk_of hr ((k_number_of T nd).mono (by decide)) (b_number_of_3 T) T.mg_number_of T.fun_number_of.kp (kc_pos (ka_cons (ke_var 5) (ka_cons (ke_var 3) (ka_cons (ke_var 4) ka_nil))))) ka_nil))) ka_nil)) (ke_callB (cd_repr hr) T.no_repr bt_repr (ka_cons (ke_lst (ka_cons ke_bl (ka_cons ke_non ka_nil))) ka_nil)) (by first | exact nomark _ | rfl))))) (kss_one (ks_ret ke_bl)) kss_nil)))))))))
      (kss_cons (ks_set 6 sc_law.nd (ke_lst (ka_cons (ke_call tk_of hr ((k_is_integer T nd).mono (by decide)) (b_is_integer_0_value T) T.mg_is_integer T.fun_is_integer.kp (kc_kw (kk_cons ke_int kk_nil))) (ka_cons (ke_call tk_of hr ((k_is_name T nd).mono (by decide)) (b_is_name_0_value T) T.mg_is_name T.fun_is_name.kp (kc_kw (kk_cons ke_str kk_nil))) (ka_cons (ke_call tk_of hr ((k_is_within T nd).mono (by decide)) (b_is_within_0_value_least_most T) T.mg_is_within T.fun_is_within.kp (kc_kw (kk_cons ke_int (kk_cons ke_int (kk_cons ke_int kk_nil))))) (ka_cons (ke_call tk_of hr ((k_is_amount T nd).mono (by decide)) (b_is_amount_0_value T) T.mg_is_amount T.fun_is_amount.kp (kc_kw (kk_cons ke_int kk_nil))) ka_nil))))))
      (kss_cons (ks_set 6 sc_law.nd (ke_bin od_add (ke_var 6) (ke_lst (ka_cons (ke_call tk_of hr ((k_number_of T nd).mono (by decide)) (b_number_of_0_word_least_most T) T.mg_number_of T.fun_number_of.kp (kc_kw (kk_cons ke_str (kk_cons (ke_un od_neg ke_int) (kk_cons ke_int kk_nil))))) (ka_cons (ke_call tk_of hr ((k_number_of T nd).mono (by decide)) (b_number_of_3 T) T.mg_number_of T.fun_number_of.kp (kc_pos (ka_cons (ke_bin od_smul ke_str ke_int) (ka_cons ke_int (ka_cons (ke_callT (cd_intL nd) T.no_int bt_int (ka_cons (ke_bin od_add ke_str (ke_bin od_smul ke_str ke_int)) ka_nil)) ka_nil))))) ka_nil)))))
      (kss_one (ks_ret (ke_cmp (od_eq hr.u) (ke_var 6) (ke_lst (ka_cons ke_bl (ka_cons ke_bl (ka_cons ke_bl (ka_cons ke_bl (ka_cons (ke_un od_neg ke_int) (ka_cons (ke_callT (cd_intL nd) T.no_int bt_int (ka_cons (ke_bin od_smul ke_str ke_int) ka_nil)) ka_nil))))))) (by first | exact nomark _ | rfl))))))))
end
end VL.P

set_option Elab.async false
set_option linter.all false
set_option maxRecDepth 100000
set_option maxHeartbeats 4000000
namespace VL.P
open PySem PySem.Spec PyProof.Rows L2 VL
open PySem.W (Frag)
theorem mk_tp {K : Frag} {h : Heap} {mg : Str → Option Value}
    {f_l_draw : Addr} {oc_l_draw kV_l_draw dc_l_draw pm_l_draw cd_l_draw ct_l_draw : Value} {od_l_draw an_l_draw : Option Addr} {sl_l_draw : Array (Option Value)}
    {f_l_pick : Addr} {oc_l_pick kV_l_pick dc_l_pick pm_l_pick cd_l_pick ct_l_pick : Value} {od_l_pick an_l_pick : Option Addr} {sl_l_pick : Array (Option Value)}
    {f_l_figures : Addr} {oc_l_figures kV_l_figures dc_l_figures pm_l_figures cd_l_figures ct_l_figures : Value} {od_l_figures an_l_figures : Option Addr} {sl_l_figures : Array (Option Value)}
    {f_l_letters : Addr} {oc_l_letters kV_l_letters dc_l_letters pm_l_letters cd_l_letters ct_l_letters : Value} {od_l_letters an_l_letters : Option Addr} {sl_l_letters : Array (Option Value)}
    {f_l_written : Addr} {oc_l_written kV_l_written dc_l_written pm_l_written cd_l_written ct_l_written : Value} {od_l_written an_l_written : Option Addr} {sl_l_written : Array (Option Value)}
    {f_is_integer : Addr} {oc_is_integer kV_is_integer dc_is_integer pm_is_integer cd_is_integer ct_is_integer : Value} {od_is_integer an_is_integer : Option Addr} {sl_is_integer : Array (Option Value)}
    {f_is_amount : Addr} {oc_is_amount kV_is_amount dc_is_amount pm_is_amount cd_is_amount ct_is_amount : Value} {od_is_amount an_is_amount : Option Addr} {sl_is_amount : Array (Option Value)}
    {f_is_name : Addr} {oc_is_name kV_is_name dc_is_name pm_is_name cd_is_name ct_is_name : Value} {od_is_name an_is_name : Option Addr} {sl_is_name : Array (Option Value)}
    {f_is_figures : Addr} {oc_is_figures kV_is_figures dc_is_figures pm_is_figures cd_is_figures ct_is_figures : Value} {od_is_figures an_is_figures : Option Addr} {sl_is_figures : Array (Option Value)}
    {f_number_of : Addr} {oc_number_of kV_number_of dc_number_of pm_number_of cd_number_of ct_number_of : Value} {od_number_of an_number_of : Option Addr} {sl_number_of : Array (Option Value)}
    {f_l_page_right : Addr} {oc_l_page_right kV_l_page_right dc_l_page_right pm_l_page_right cd_l_page_right ct_l_page_right : Value} {od_l_page_right an_l_page_right : Option Addr} {sl_l_page_right : Array (Option Value)}
    {f_Denial_bool : Addr} {oc_Denial_bool kV_Denial_bool dc_Denial_bool pm_Denial_bool cd_Denial_bool ct_Denial_bool : Value} {od_Denial_bool an_Denial_bool : Option Addr} {sl_Denial_bool : Array (Option Value)}
    {f_Lacking_init : Addr} {oc_Lacking_init kV_Lacking_init dc_Lacking_init pm_Lacking_init cd_Lacking_init ct_Lacking_init : Value} {od_Lacking_init an_Lacking_init : Option Addr} {sl_Lacking_init : Array (Option Value)}
    {f_Moved_init : Addr} {oc_Moved_init kV_Moved_init dc_Moved_init pm_Moved_init cd_Moved_init ct_Moved_init : Value} {od_Moved_init an_Moved_init : Option Addr} {sl_Moved_init : Array (Option Value)}
    {f_l_papers_right : Addr} {oc_l_papers_right kV_l_papers_right dc_l_papers_right pm_l_papers_right cd_l_papers_right ct_l_papers_right : Value} {od_l_papers_right an_l_papers_right : Option Addr} {sl_l_papers_right : Array (Option Value)}
    {f_l_pen : Addr} {oc_l_pen kV_l_pen dc_l_pen pm_l_pen cd_l_pen ct_l_pen : Value} {od_l_pen an_l_pen : Option Addr} {sl_l_pen : Array (Option Value)}
    {f_l_is_plain : Addr} {oc_l_is_plain kV_l_is_plain dc_l_is_plain pm_l_is_plain cd_l_is_plain ct_l_is_plain : Value} {od_l_is_plain an_l_is_plain : Option Addr} {sl_l_is_plain : Array (Option Value)}
    {f_is_within : Addr} {oc_is_within kV_is_within dc_is_within pm_is_within cd_is_within ct_is_within : Value} {od_is_within an_is_within : Option Addr} {sl_is_within : Array (Option Value)}
    {f_l_right : Addr} {oc_l_right kV_l_right dc_l_right pm_l_right cd_l_right ct_l_right : Value} {od_l_right an_l_right : Option Addr} {sl_l_right : Array (Option Value)}
    {f_l_thing : Addr} {oc_l_thing kV_l_thing dc_l_thing pm_l_thing cd_l_thing ct_l_thing : Value} {od_l_thing an_l_thing : Option Addr} {sl_l_thing : Array (Option Value)}
    {f_law : Addr} {oc_law kV_law dc_law pm_law cd_law ct_law : Value} {od_law an_law : Option Addr} {sl_law : Array (Option Value)}
    {c_Paper : Addr}
    {c_Denial : Addr}
    {c_Moved : Addr}
    {c_Lacking : Addr}
    {t_LETTERS : Tok}
    {t_MOST_FIGURES : Tok}
    {t_MOST_LETTERS : Tok}
    (X : K.In h) (G : h.Ns mainGlobals mg)
    (a_l_draw : PySem.W.nsIn K mainGlobals "_law_draw" = some (some (.ref f_l_draw)))
    (l_l_draw : K.lookup f_l_draw = some ⟨oc_l_draw, od_l_draw, .func (PySem.W.fnOf "_law_draw" "_law_draw" (defArgs s_l_draw) (defBody s_l_draw) (defScope s_l_draw) .none kV_l_draw dc_l_draw pm_l_draw an_l_draw cd_l_draw ct_l_draw), sl_l_draw⟩) (e_l_draw : PySem.W.codeIn K cd_l_draw "_law_draw" = true) (p_l_draw : PySem.W.keepIn K (.ref f_l_draw) = true)
    (a_l_pick : PySem.W.nsIn K mainGlobals "_law_pick" = some (some (.ref f_l_pick)))
    (l_l_pick : K.lookup f_l_pick = some ⟨oc_l_pick, od_l_pick, .func (PySem.W.fnOf "_law_pick" "_law_pick" (defArgs s_l_pick) (defBody s_l_pick) (defScope s_l_pick) .none kV_l_pick dc_l_pick pm_l_pick an_l_pick cd_l_pick ct_l_pick), sl_l_pick⟩) (e_l_pick : PySem.W.codeIn K cd_l_pick "_law_pick" = true) (p_l_pick : PySem.W.keepIn K (.ref f_l_pick) = true)
    (a_l_figures : PySem.W.nsIn K mainGlobals "_law_figures" = some (some (.ref f_l_figures)))
    (l_l_figures : K.lookup f_l_figures = some ⟨oc_l_figures, od_l_figures, .func (PySem.W.fnOf "_law_figures" "_law_figures" (defArgs s_l_figures) (defBody s_l_figures) (defScope s_l_figures) .none kV_l_figures dc_l_figures pm_l_figures an_l_figures cd_l_figures ct_l_figures), sl_l_figures⟩) (e_l_figures : PySem.W.codeIn K cd_l_figures "_law_figures" = true) (p_l_figures : PySem.W.keepIn K (.ref f_l_figures) = true)
    (a_l_letters : PySem.W.nsIn K mainGlobals "_law_letters" = some (some (.ref f_l_letters)))
    (l_l_letters : K.lookup f_l_letters = some ⟨oc_l_letters, od_l_letters, .func (PySem.W.fnOf "_law_letters" "_law_letters" (defArgs s_l_letters) (defBody s_l_letters) (defScope s_l_letters) .none kV_l_letters dc_l_letters pm_l_letters an_l_letters cd_l_letters ct_l_letters), sl_l_letters⟩) (e_l_letters : PySem.W.codeIn K cd_l_letters "_law_letters" = true) (p_l_letters : PySem.W.keepIn K (.ref f_l_letters) = true)
    (a_l_written : PySem.W.nsIn K mainGlobals "_law_written" = some (some (.ref f_l_written)))
    (l_l_written : K.lookup f_l_written = some ⟨oc_l_written, od_l_written, .func (PySem.W.fnOf "_law_written" "_law_written" (defArgs s_l_written) (defBody s_l_written) (defScope s_l_written) .none kV_l_written dc_l_written pm_l_written an_l_written cd_l_written ct_l_written), sl_l_written⟩) (e_l_written : PySem.W.codeIn K cd_l_written "_law_written" = true) (p_l_written : PySem.W.keepIn K (.ref f_l_written) = true)
    (a_is_integer : PySem.W.nsIn K mainGlobals "is_integer" = some (some (.ref f_is_integer)))
    (l_is_integer : K.lookup f_is_integer = some ⟨oc_is_integer, od_is_integer, .func (PySem.W.fnOf "is_integer" "is_integer" (defArgs s_is_integer) (defBody s_is_integer) (defScope s_is_integer) .none kV_is_integer dc_is_integer pm_is_integer an_is_integer cd_is_integer ct_is_integer), sl_is_integer⟩) (e_is_integer : PySem.W.codeIn K cd_is_integer "is_integer" = true) (p_is_integer : PySem.W.keepIn K (.ref f_is_integer) = true)
    (a_is_amount : PySem.W.nsIn K mainGlobals "is_amount" = some (some (.ref f_is_amount)))
    (l_is_amount : K.lookup f_is_amount = some ⟨oc_is_amount, od_is_amount, .func (PySem.W.fnOf "is_amount" "is_amount" (defArgs s_is_amount) (defBody s_is_amount) (defScope s_is_amount) .none kV_is_amount dc_is_amount pm_is_amount an_is_amount cd_is_amount ct_is_amount), sl_is_amount⟩) (e_is_amount : PySem.W.codeIn K cd_is_amount "is_amount" = true) (p_is_amount : PySem.W.keepIn K (.ref f_is_amount) = true)
    (a_is_name : PySem.W.nsIn K mainGlobals "is_name" = some (some (.ref f_is_name)))
    (l_is_name : K.lookup f_is_name = some ⟨oc_is_name, od_is_name, .func (PySem.W.fnOf "is_name" "is_name" (defArgs s_is_name) (defBody s_is_name) (defScope s_is_name) .none kV_is_name dc_is_name pm_is_name an_is_name cd_is_name ct_is_name), sl_is_name⟩) (e_is_name : PySem.W.codeIn K cd_is_name "is_name" = true) (p_is_name : PySem.W.keepIn K (.ref f_is_name) = true)
    (a_is_figures : PySem.W.nsIn K mainGlobals "is_figures" = some (some (.ref f_is_figures)))
    (l_is_figures : K.lookup f_is_figures = some ⟨oc_is_figures, od_is_figures, .func (PySem.W.fnOf "is_figures" "is_figures" (defArgs s_is_figures) (defBody s_is_figures) (defScope s_is_figures) .none kV_is_figures dc_is_figures pm_is_figures an_is_figures cd_is_figures ct_is_figures), sl_is_figures⟩) (e_is_figures : PySem.W.codeIn K cd_is_figures "is_figures" = true) (p_is_figures : PySem.W.keepIn K (.ref f_is_figures) = true)
    (a_number_of : PySem.W.nsIn K mainGlobals "number_of" = some (some (.ref f_number_of)))
    (l_number_of : K.lookup f_number_of = some ⟨oc_number_of, od_number_of, .func (PySem.W.fnOf "number_of" "number_of" (defArgs s_number_of) (defBody s_number_of) (defScope s_number_of) .none kV_number_of dc_number_of pm_number_of an_number_of cd_number_of ct_number_of), sl_number_of⟩) (e_number_of : PySem.W.codeIn K cd_number_of "number_of" = true) (p_number_of : PySem.W.keepIn K (.ref f_number_of) = true)
    (a_l_page_right : PySem.W.nsIn K mainGlobals "_law_page_right" = some (some (.ref f_l_page_right)))
    (l_l_page_right : K.lookup f_l_page_right = some ⟨oc_l_page_right, od_l_page_right, .func (PySem.W.fnOf "_law_page_right" "_law_page_right" (defArgs s_l_page_right) (defBody s_l_page_right) (defScope s_l_page_right) .none kV_l_page_right dc_l_page_right pm_l_page_right an_l_page_right cd_l_page_right ct_l_page_right), sl_l_page_right⟩) (e_l_page_right : PySem.W.codeIn K cd_l_page_right "_law_page_right" = true) (p_l_page_right : PySem.W.keepIn K (.ref f_l_page_right) = true)
    (l_Denial_bool : K.lookup f_Denial_bool = some ⟨oc_Denial_bool, od_Denial_bool, .func (PySem.W.fnOf "__bool__" "Denial.__bool__" (defArgs s_Denial_bool) (defBody s_Denial_bool) (defScope s_Denial_bool) .none kV_Denial_bool dc_Denial_bool pm_Denial_bool an_Denial_bool cd_Denial_bool ct_Denial_bool), sl_Denial_bool⟩) (e_Denial_bool : PySem.W.codeIn K cd_Denial_bool "Denial.__bool__" = true) (p_Denial_bool : PySem.W.keepIn K (.ref f_Denial_bool) = true)
    (l_Lacking_init : K.lookup f_Lacking_init = some ⟨oc_Lacking_init, od_Lacking_init, .func (PySem.W.fnOf "__init__" "Lacking.__init__" (defArgs s_Lacking_init) (defBody s_Lacking_init) (defScope s_Lacking_init) .none kV_Lacking_init dc_Lacking_init pm_Lacking_init an_Lacking_init cd_Lacking_init ct_Lacking_init), sl_Lacking_init⟩) (e_Lacking_init : PySem.W.codeIn K cd_Lacking_init "Lacking.__init__" = true) (p_Lacking_init : PySem.W.keepIn K (.ref f_Lacking_init) = true)
    (l_Moved_init : K.lookup f_Moved_init = some ⟨oc_Moved_init, od_Moved_init, .func (PySem.W.fnOf "__init__" "Moved.__init__" (defArgs s_Moved_init) (defBody s_Moved_init) (defScope s_Moved_init) .none kV_Moved_init dc_Moved_init pm_Moved_init an_Moved_init cd_Moved_init ct_Moved_init), sl_Moved_init⟩) (e_Moved_init : PySem.W.codeIn K cd_Moved_init "Moved.__init__" = true) (p_Moved_init : PySem.W.keepIn K (.ref f_Moved_init) = true)
    (a_l_papers_right : PySem.W.nsIn K mainGlobals "_law_papers_right" = some (some (.ref f_l_papers_right)))
    (l_l_papers_right : K.lookup f_l_papers_right = some ⟨oc_l_papers_right, od_l_papers_right, .func (PySem.W.fnOf "_law_papers_right" "_law_papers_right" (defArgs s_l_papers_right) (defBody s_l_papers_right) (defScope s_l_papers_right) .none kV_l_papers_right dc_l_papers_right pm_l_papers_right an_l_papers_right cd_l_papers_right ct_l_papers_right), sl_l_papers_right⟩) (e_l_papers_right : PySem.W.codeIn K cd_l_papers_right "_law_papers_right" = true) (p_l_papers_right : PySem.W.keepIn K (.ref f_l_papers_right) = true)
    (a_l_pen : PySem.W.nsIn K mainGlobals "_law_pen" = some (some (.ref f_l_pen)))
    (l_l_pen : K.lookup f_l_pen = some ⟨oc_l_pen, od_l_pen, .func (PySem.W.fnOf "_law_pen" "_law_pen" (defArgs s_l_pen) (defBody s_l_pen) (defScope s_l_pen) .none kV_l_pen dc_l_pen pm_l_pen an_l_pen cd_l_pen ct_l_pen), sl_l_pen⟩) (e_l_pen : PySem.W.codeIn K cd_l_pen "_law_pen" = true) (p_l_pen : PySem.W.keepIn K (.ref f_l_pen) = true)
    (a_l_is_plain : PySem.W.nsIn K mainGlobals "_law_is_plain" = some (some (.ref f_l_is_plain)))
    (l_l_is_plain : K.lookup f_l_is_plain = some ⟨oc_l_is_plain, od_l_is_plain, .func (PySem.W.fnOf "_law_is_plain" "_law_is_plain" (defArgs s_l_is_plain) (defBody s_l_is_plain) (defScope s_l_is_plain) .none kV_l_is_plain dc_l_is_plain pm_l_is_plain an_l_is_plain cd_l_is_plain ct_l_is_plain), sl_l_is_plain⟩) (e_l_is_plain : PySem.W.codeIn K cd_l_is_plain "_law_is_plain" = true) (p_l_is_plain : PySem.W.keepIn K (.ref f_l_is_plain) = true)
    (a_is_within : PySem.W.nsIn K mainGlobals "is_within" = some (some (.ref f_is_within)))
    (l_is_within : K.lookup f_is_within = some ⟨oc_is_within, od_is_within, .func (PySem.W.fnOf "is_within" "is_within" (defArgs s_is_within) (defBody s_is_within) (defScope s_is_within) .none kV_is_within dc_is_within pm_is_within an_is_within cd_is_within ct_is_within), sl_is_within⟩) (e_is_within : PySem.W.codeIn K cd_is_within "is_within" = true) (p_is_within : PySem.W.keepIn K (.ref f_is_within) = true)
    (a_l_right : PySem.W.nsIn K mainGlobals "_law_right" = some (some (.ref f_l_right)))
    (l_l_right : K.lookup f_l_right = some ⟨oc_l_right, od_l_right, .func (PySem.W.fnOf "_law_right" "_law_right" (defArgs s_l_right) (defBody s_l_right) (defScope s_l_right) .none kV_l_right dc_l_right pm_l_right an_l_right cd_l_right ct_l_right), sl_l_right⟩) (e_l_right : PySem.W.codeIn K cd_l_right "_law_right" = true) (p_l_right : PySem.W.keepIn K (.ref f_l_right) = true)
    (a_l_thing : PySem.W.nsIn K mainGlobals "_law_thing" = some (some (.ref f_l_thing)))
    (l_l_thing : K.lookup f_l_thing = some ⟨oc_l_thing, od_l_thing, .func (PySem.W.fnOf "_law_thing" "_law_thing" (defArgs s_l_thing) (defBody s_l_thing) (defScope s_l_thing) .none kV_l_thing dc_l_thing pm_l_thing an_l_thing cd_l_thing ct_l_thing), sl_l_thing⟩) (e_l_thing : PySem.W.codeIn K cd_l_thing "_law_thing" = true) (p_l_thing : PySem.W.keepIn K (.ref f_l_thing) = true)
    (a_law : PySem.W.nsIn K mainGlobals "law" = some (some (.ref f_law)))
    (l_law : K.lookup f_law = some ⟨oc_law, od_law, .func (PySem.W.fnOf "law" "law" (defArgs s_law) (defBody s_law) (defScope s_law) .none kV_law dc_law pm_law an_law cd_law ct_law), sl_law⟩) (e_law : PySem.W.codeIn K cd_law "law" = true) (p_law : PySem.W.keepIn K (.ref f_law) = true)
    (g_Paper : PySem.W.nsIn K mainGlobals "Paper" = some (some (.ref c_Paper)))
    (g_Denial : PySem.W.nsIn K mainGlobals "Denial" = some (some (.ref c_Denial)))
    (g_Moved : PySem.W.nsIn K mainGlobals "Moved" = some (some (.ref c_Moved)))
    (pg_Moved : PySem.W.plainGet K c_Moved Str.empty = true) (hd_Moved : PySem.W.hasDictIn K c_Moved = true) (po_Moved : PySem.W.plainOver K c_Moved = true) (sa_Moved : PySem.W.findIn K (.ref c_Moved) "__setattr__" = some (some (.builtin "object.__setattr__"))) (ha_Moved : PySem.W.findIn K (.ref c_Moved) "__class__" = some (some (.builtin "object.__class__"))) (hn_Moved : PySem.W.specialIn K (.builtin "object.__class__") "__get__" = some (some (.builtin "getset_descriptor.__get__"))) (ht_Moved : PySem.W.takesIn K (.builtin "object.__class__") = some true) (hm_Moved : PySem.W.mroIn K c_Moved (.type "object") = some true) (mk_Moved : PySem.W.makesIn K c_Moved = true) (in_Moved : PySem.W.findIn K (.ref c_Moved) "__init__" = some (some (.ref f_Moved_init))) (if_Moved : PySem.W.isFn K (.ref f_Moved_init) = true) (ck_Moved : PySem.W.keepIn K (.ref c_Moved) = true)
    (na_Moved_moves : PySem.W.findIn K (.ref c_Moved) "moves" = some none)
    (g_Lacking : PySem.W.nsIn K mainGlobals "Lacking" = some (some (.ref c_Lacking)))
    (pg_Lacking : PySem.W.plainGet K c_Lacking Str.empty = true) (hd_Lacking : PySem.W.hasDictIn K c_Lacking = true) (po_Lacking : PySem.W.plainOver K c_Lacking = true) (sa_Lacking : PySem.W.findIn K (.ref c_Lacking) "__setattr__" = some (some (.builtin "object.__setattr__"))) (ha_Lacking : PySem.W.findIn K (.ref c_Lacking) "__class__" = some (some (.builtin "object.__class__"))) (hn_Lacking : PySem.W.specialIn K (.builtin "object.__class__") "__get__" = some (some (.builtin "getset_descriptor.__get__"))) (ht_Lacking : PySem.W.takesIn K (.builtin "object.__class__") = some true) (hm_Lacking : PySem.W.mroIn K c_Lacking (.type "object") = some true) (mk_Lacking : PySem.W.makesIn K c_Lacking = true) (in_Lacking : PySem.W.findIn K (.ref c_Lacking) "__init__" = some (some (.ref f_Lacking_init))) (if_Lacking : PySem.W.isFn K (.ref f_Lacking_init) = true) (ck_Lacking : PySem.W.keepIn K (.ref c_Lacking) = true)
    (na_Lacking_i : PySem.W.findIn K (.ref c_Lacking) "i" = some none)
    (na_Lacking_j : PySem.W.findIn K (.ref c_Lacking) "j" = some none)
    (isi_Moved_Denial : PySem.W.kitOne K (.ref c_Moved) (.ref c_Denial) = some false)
    (isi_Moved_Lacking : PySem.W.kitOne K (.ref c_Moved) (.ref c_Lacking) = some false)
    (isi_Moved_Moved : PySem.W.kitOne K (.ref c_Moved) (.ref c_Moved) = some true)
    (isi_Moved_Paper : PySem.W.kitOne K (.ref c_Moved) (.ref c_Paper) = some true)
    (isi_Lacking_Denial : PySem.W.kitOne K (.ref c_Lacking) (.ref c_Denial) = some true)
    (isi_Lacking_Lacking : PySem.W.kitOne K (.ref c_Lacking) (.ref c_Lacking) = some true)
    (isi_Lacking_Moved : PySem.W.kitOne K (.ref c_Lacking) (.ref c_Moved) = some false)
    (isi_Lacking_Paper : PySem.W.kitOne K (.ref c_Lacking) (.ref c_Paper) = some true)
    (nb_Moved : PySem.W.findIn K (.ref c_Moved) "__bool__" = some none) (nl_Moved : PySem.W.findIn K (.ref c_Moved) "__len__" = some none)
    (nb_Paper : PySem.W.findIn K (.ref c_Paper) "__bool__" = some none) (nl_Paper : PySem.W.findIn K (.ref c_Paper) "__len__" = some none)
    (mb_Denial : PySem.W.findIn K (.ref c_Denial) "__bool__" = some (some (.ref f_Denial_bool))) (mi_Denial : PySem.W.isFn K (.ref f_Denial_bool) = true)
    (mb_Lacking : PySem.W.findIn K (.ref c_Lacking) "__bool__" = some (some (.ref f_Denial_bool))) (mi_Lacking : PySem.W.isFn K (.ref f_Denial_bool) = true)
    (v_LETTERS : PySem.W.nsIn K mainGlobals "LETTERS" = some (some (.str "abcdefghijklmnopqrstuvwxyz" t_LETTERS)))
    (v_MOST_FIGURES : PySem.W.nsIn K mainGlobals "MOST_FIGURES" = some (some (.int 1000 t_MOST_FIGURES)))
    (v_MOST_LETTERS : PySem.W.nsIn K mainGlobals "MOST_LETTERS" = some (some (.int 8 t_MOST_LETTERS)))
    (n_abs : PySem.W.nsIn K mainGlobals "abs" = some none)
    (n_all : PySem.W.nsIn K mainGlobals "all" = some none)
    (n_bool : PySem.W.nsIn K mainGlobals "bool" = some none)
    (n_int : PySem.W.nsIn K mainGlobals "int" = some none)
    (n_isinstance : PySem.W.nsIn K mainGlobals "isinstance" = some none)
    (n_len : PySem.W.nsIn K mainGlobals "len" = some none)
    (n_list : PySem.W.nsIn K mainGlobals "list" = some none)
    (n_range : PySem.W.nsIn K mainGlobals "range" = some none)
    (n_repr : PySem.W.nsIn K mainGlobals "repr" = some none)
    (n_str : PySem.W.nsIn K mainGlobals "str" = some none)
     : ∃ a : Ad, Tp K mg a ∧ mg "law" = some (.ref a.f_law) ∧ ∀ (s : Shared) (u : Value), BindsTo s a.d_law ⟨[u], []⟩ [("_law_script", u)] :=
  ⟨{
    f_l_draw := f_l_draw
    d_l_draw := PySem.W.fnOf "_law_draw" "_law_draw" (defArgs s_l_draw) (defBody s_l_draw) (defScope s_l_draw) .none kV_l_draw dc_l_draw pm_l_draw an_l_draw cd_l_draw ct_l_draw
    f_l_pick := f_l_pick
    d_l_pick := PySem.W.fnOf "_law_pick" "_law_pick" (defArgs s_l_pick) (defBody s_l_pick) (defScope s_l_pick) .none kV_l_pick dc_l_pick pm_l_pick an_l_pick cd_l_pick ct_l_pick
    f_l_figures := f_l_figures
    d_l_figures := PySem.W.fnOf "_law_figures" "_law_figures" (defArgs s_l_figures) (defBody s_l_figures) (defScope s_l_figures) .none kV_l_figures dc_l_figures pm_l_figures an_l_figures cd_l_figures ct_l_figures
    f_l_letters := f_l_letters
    d_l_letters := PySem.W.fnOf "_law_letters" "_law_letters" (defArgs s_l_letters) (defBody s_l_letters) (defScope s_l_letters) .none kV_l_letters dc_l_letters pm_l_letters an_l_letters cd_l_letters ct_l_letters
    f_l_written := f_l_written
    d_l_written := PySem.W.fnOf "_law_written" "_law_written" (defArgs s_l_written) (defBody s_l_written) (defScope s_l_written) .none kV_l_written dc_l_written pm_l_written an_l_written cd_l_written ct_l_written
    f_is_integer := f_is_integer
    d_is_integer := PySem.W.fnOf "is_integer" "is_integer" (defArgs s_is_integer) (defBody s_is_integer) (defScope s_is_integer) .none kV_is_integer dc_is_integer pm_is_integer an_is_integer cd_is_integer ct_is_integer
    f_is_amount := f_is_amount
    d_is_amount := PySem.W.fnOf "is_amount" "is_amount" (defArgs s_is_amount) (defBody s_is_amount) (defScope s_is_amount) .none kV_is_amount dc_is_amount pm_is_amount an_is_amount cd_is_amount ct_is_amount
    f_is_name := f_is_name
    d_is_name := PySem.W.fnOf "is_name" "is_name" (defArgs s_is_name) (defBody s_is_name) (defScope s_is_name) .none kV_is_name dc_is_name pm_is_name an_is_name cd_is_name ct_is_name
    f_is_figures := f_is_figures
    d_is_figures := PySem.W.fnOf "is_figures" "is_figures" (defArgs s_is_figures) (defBody s_is_figures) (defScope s_is_figures) .none kV_is_figures dc_is_figures pm_is_figures an_is_figures cd_is_figures ct_is_figures
    f_number_of := f_number_of
    d_number_of := PySem.W.fnOf "number_of" "number_of" (defArgs s_number_of) (defBody s_number_of) (defScope s_number_of) .none kV_number_of dc_number_of pm_number_of an_number_of cd_number_of ct_number_of
    f_l_page_right := f_l_page_right
    d_l_page_right := PySem.W.fnOf "_law_page_right" "_law_page_right" (defArgs s_l_page_right) (defBody s_l_page_right) (defScope s_l_page_right) .none kV_l_page_right dc_l_page_right pm_l_page_right an_l_page_right cd_l_page_right ct_l_page_right
    f_Denial_bool := f_Denial_bool
    d_Denial_bool := PySem.W.fnOf "__bool__" "Denial.__bool__" (defArgs s_Denial_bool) (defBody s_Denial_bool) (defScope s_Denial_bool) .none kV_Denial_bool dc_Denial_bool pm_Denial_bool an_Denial_bool cd_Denial_bool ct_Denial_bool
    f_Lacking_init := f_Lacking_init
    d_Lacking_init := PySem.W.fnOf "__init__" "Lacking.__init__" (defArgs s_Lacking_init) (defBody s_Lacking_init) (defScope s_Lacking_init) .none kV_Lacking_init dc_Lacking_init pm_Lacking_init an_Lacking_init cd_Lacking_init ct_Lacking_init
    f_Moved_init := f_Moved_init
    d_Moved_init := PySem.W.fnOf "__init__" "Moved.__init__" (defArgs s_Moved_init) (defBody s_Moved_init) (defScope s_Moved_init) .none kV_Moved_init dc_Moved_init pm_Moved_init an_Moved_init cd_Moved_init ct_Moved_init
    f_l_papers_right := f_l_papers_right
    d_l_papers_right := PySem.W.fnOf "_law_papers_right" "_law_papers_right" (defArgs s_l_papers_right) (defBody s_l_papers_right) (defScope s_l_papers_right) .none kV_l_papers_right dc_l_papers_right pm_l_papers_right an_l_papers_right cd_l_papers_right ct_l_papers_right
    f_l_pen := f_l_pen
    d_l_pen := PySem.W.fnOf "_law_pen" "_law_pen" (defArgs s_l_pen) (defBody s_l_pen) (defScope s_l_pen) .none kV_l_pen dc_l_pen pm_l_pen an_l_pen cd_l_pen ct_l_pen
    f_l_is_plain := f_l_is_plain
    d_l_is_plain := PySem.W.fnOf "_law_is_plain" "_law_is_plain" (defArgs s_l_is_plain) (defBody s_l_is_plain) (defScope s_l_is_plain) .none kV_l_is_plain dc_l_is_plain pm_l_is_plain an_l_is_plain cd_l_is_plain ct_l_is_plain
    f_is_within := f_is_within
    d_is_within := PySem.W.fnOf "is_within" "is_within" (defArgs s_is_within) (defBody s_is_within) (defScope s_is_within) .none kV_is_within dc_is_within pm_is_within an_is_within cd_is_within ct_is_within
    f_l_right := f_l_right
    d_l_right := PySem.W.fnOf "_law_right" "_law_right" (defArgs s_l_right) (defBody s_l_right) (defScope s_l_right) .none kV_l_right dc_l_right pm_l_right an_l_right cd_l_right ct_l_right
    f_l_thing := f_l_thing
    d_l_thing := PySem.W.fnOf "_law_thing" "_law_thing" (defArgs s_l_thing) (defBody s_l_thing) (defScope s_l_thing) .none kV_l_thing dc_l_thing pm_l_thing an_l_thing cd_l_thing ct_l_thing
    f_law := f_law
    d_law := PySem.W.fnOf "law" "law" (defArgs s_law) (defBody s_law) (defScope s_law) .none kV_law dc_law pm_law an_law cd_law ct_law
    c_Paper := c_Paper
    c_Denial := c_Denial
    c_Moved := c_Moved
    c_Lacking := c_Lacking }, {
    fun_l_draw := fun_mk l_l_draw e_l_draw p_l_draw
    mg__law_draw := PySem.W.mg_of X G a_l_draw
    fun_l_pick := fun_mk l_l_pick e_l_pick p_l_pick
    mg__law_pick := PySem.W.mg_of X G a_l_pick
    fun_l_figures := fun_mk l_l_figures e_l_figures p_l_figures
    mg__law_figures := PySem.W.mg_of X G a_l_figures
    fun_l_letters := fun_mk l_l_letters e_l_letters p_l_letters
    mg__law_letters := PySem.W.mg_of X G a_l_letters
    fun_l_written := fun_mk l_l_written e_l_written p_l_written
    mg__law_written := PySem.W.mg_of X G a_l_written
    fun_is_integer := fun_mk l_is_integer e_is_integer p_is_integer
    mg_is_integer := PySem.W.mg_of X G a_is_integer
    fun_is_amount := fun_mk l_is_amount e_is_amount p_is_amount
    mg_is_amount := PySem.W.mg_of X G a_is_amount
    fun_is_name := fun_mk l_is_name e_is_name p_is_name
    mg_is_name := PySem.W.mg_of X G a_is_name
    fun_is_figures := fun_mk l_is_figures e_is_figures p_is_figures
    mg_is_figures := PySem.W.mg_of X G a_is_figures
    fun_number_of := fun_mk l_number_of e_number_of p_number_of
    mg_number_of := PySem.W.mg_of X G a_number_of
    fun_l_page_right := fun_mk l_l_page_right e_l_page_right p_l_page_right
    mg__law_page_right := PySem.W.mg_of X G a_l_page_right
    fun_Denial_bool := fun_mk l_Denial_bool e_Denial_bool p_Denial_bool
    fun_Lacking_init := fun_mk l_Lacking_init e_Lacking_init p_Lacking_init
    fun_Moved_init := fun_mk l_Moved_init e_Moved_init p_Moved_init
    fun_l_papers_right := fun_mk l_l_papers_right e_l_papers_right p_l_papers_right
    mg__law_papers_right := PySem.W.mg_of X G a_l_papers_right
    fun_l_pen := fun_mk l_l_pen e_l_pen p_l_pen
    mg__law_pen := PySem.W.mg_of X G a_l_pen
    fun_l_is_plain := fun_mk l_l_is_plain e_l_is_plain p_l_is_plain
    mg__law_is_plain := PySem.W.mg_of X G a_l_is_plain
    fun_is_within := fun_mk l_is_within e_is_within p_is_within
    mg_is_within := PySem.W.mg_of X G a_is_within
    fun_l_right := fun_mk l_l_right e_l_right p_l_right
    mg__law_right := PySem.W.mg_of X G a_l_right
    fun_l_thing := fun_mk l_l_thing e_l_thing p_l_thing
    mg__law_thing := PySem.W.mg_of X G a_l_thing
    fun_law := fun_mk l_law e_law p_law
    mg_law := PySem.W.mg_of X G a_law
    mg_Paper := PySem.W.mg_of X G g_Paper
    mg_Denial := PySem.W.mg_of X G g_Denial
    mg_Moved := PySem.W.mg_of X G g_Moved
    own_Moved := ⟨⟨pg_Moved, hd_Moved, po_Moved, sa_Moved⟩, ha_Moved, hn_Moved, ht_Moved, hm_Moved⟩
    mk_Moved := ⟨mk_Moved, in_Moved, if_Moved, ck_Moved⟩
    na_Moved_moves := na_Moved_moves
    mg_Lacking := PySem.W.mg_of X G g_Lacking
    own_Lacking := ⟨⟨pg_Lacking, hd_Lacking, po_Lacking, sa_Lacking⟩, ha_Lacking, hn_Lacking, ht_Lacking, hm_Lacking⟩
    mk_Lacking := ⟨mk_Lacking, in_Lacking, if_Lacking, ck_Lacking⟩
    na_Lacking_i := na_Lacking_i
    na_Lacking_j := na_Lacking_j
    isi_Moved_Denial := isi_Moved_Denial
    isi_Moved_Lacking := isi_Moved_Lacking
    isi_Moved_Moved := isi_Moved_Moved
    isi_Moved_Paper := isi_Moved_Paper
    isi_Lacking_Denial := isi_Lacking_Denial
    isi_Lacking_Lacking := isi_Lacking_Lacking
    isi_Lacking_Moved := isi_Lacking_Moved
    isi_Lacking_Paper := isi_Lacking_Paper
    nb_Moved := ⟨nb_Moved, nl_Moved⟩
    nb_Paper := ⟨nb_Paper, nl_Paper⟩
    mb_Denial := ⟨mb_Denial, mi_Denial, p_Denial_bool⟩
    mb_Lacking := ⟨mb_Lacking, mi_Lacking, p_Denial_bool⟩
    c_LETTERS := ⟨_, PySem.W.mg_of X G v_LETTERS⟩
    c_MOST_FIGURES := ⟨_, PySem.W.mg_of X G v_MOST_FIGURES⟩
    c_MOST_LETTERS := ⟨_, PySem.W.mg_of X G v_MOST_LETTERS⟩
    no_abs := PySem.W.mg_none_of X G n_abs
    no_all := PySem.W.mg_none_of X G n_all
    no_bool := PySem.W.mg_none_of X G n_bool
    no_int := PySem.W.mg_none_of X G n_int
    no_isinstance := PySem.W.mg_none_of X G n_isinstance
    no_len := PySem.W.mg_none_of X G n_len
    no_list := PySem.W.mg_none_of X G n_list
    no_range := PySem.W.mg_none_of X G n_range
    no_repr := PySem.W.mg_none_of X G n_repr
    no_str := PySem.W.mg_none_of X G n_str }, PySem.W.mg_of X G a_law, fun s u => .of_eq rfl⟩
end VL.P
/-
HOLES {"first": ["a_l_draw", "a_l_pick", "a_l_figures", "a_l_letters", "a_l_written", "a_is_integer", "a_is_amount", "a_is_name", "a_is_figures", "a_number_of", "a_l_page_right", "a_l_papers_right", "a_l_pen", "a_l_is_plain", "a_is_within", "a_l_right", "a_l_thing", "a_law", "g_Paper", "g_Denial", "g_Moved", "in_Moved", "g_Lacking", "in_Lacking", "mb_Denial", "mb_Lacking", "v_LETTERS", "v_MOST_FIGURES", "v_MOST_LETTERS"], "rest": ["l_l_draw", "e_l_draw", "p_l_draw", "l_l_pick", "e_l_pick", "p_l_pick", "l_l_figures", "e_l_figures", "p_l_figures", "l_l_letters", "e_l_letters", "p_l_letters", "l_l_written", "e_l_written", "p_l_written", "l_is_integer", "e_is_integer", "p_is_integer", "l_is_amount", "e_is_amount", "p_is_amount", "l_is_name", "e_is_name", "p_is_name", "l_is_figures", "e_is_figures", "p_is_figures", "l_number_of", "e_number_of", "p_number_of", "l_l_page_right", "e_l_page_right", "p_l_page_right", "l_Denial_bool", "e_Denial_bool", "p_Denial_bool", "l_Lacking_init", "e_Lacking_init", "p_Lacking_init", "l_Moved_init", "e_Moved_init", "p_Moved_init", "l_l_papers_right", "e_l_papers_right", "p_l_papers_right", "l_l_pen", "e_l_pen", "p_l_pen", "l_l_is_plain", "e_l_is_plain", "p_l_is_plain", "l_is_within", "e_is_within", "p_is_within", "l_l_right", "e_l_right", "p_l_right", "l_l_thing", "e_l_thing", "p_l_thing", "l_law", "e_law", "p_law", "pg_Moved", "hd_Moved", "po_Moved", "sa_Moved", "ha_Moved", "hn_Moved", "ht_Moved", "hm_Moved", "mk_Moved", "if_Moved", "ck_Moved", "na_Moved_moves", "pg_Lacking", "hd_Lacking", "po_Lacking", "sa_Lacking", "ha_Lacking", "hn_Lacking", "ht_Lacking", "hm_Lacking", "mk_Lacking", "if_Lacking", "ck_Lacking", "na_Lacking_i", "na_Lacking_j", "isi_Moved_Denial", "isi_Moved_Lacking", "isi_Moved_Moved", "isi_Moved_Paper", "isi_Lacking_Denial", "isi_Lacking_Lacking", "isi_Lacking_Moved", "isi_Lacking_Paper", "nb_Moved", "nl_Moved", "nb_Paper", "nl_Paper", "mi_Denial", "mi_Lacking", "n_abs", "n_all", "n_bool", "n_int", "n_isinstance", "n_len", "n_list", "n_range", "n_repr", "n_str"], "seen": ["a_l_draw", "l_l_draw", "e_l_draw", "p_l_draw", "a_l_pick", "l_l_pick", "e_l_pick", "p_l_pick", "a_l_figures", "l_l_figures", "e_l_figures", "p_l_figures", "a_l_letters", "l_l_letters", "e_l_letters", "p_l_letters", "a_l_written", "l_l_written", "e_l_written", "p_l_written", "a_is_integer", "l_is_integer", "e_is_integer", "p_is_integer", "a_is_amount", "l_is_amount", "e_is_amount", "p_is_amount", "a_is_name", "l_is_name", "e_is_name", "p_is_name", "a_is_figures", "l_is_figures", "e_is_figures", "p_is_figures", "a_number_of", "l_number_of", "e_number_of", "p_number_of", "a_l_page_right", "l_l_page_right", "e_l_page_right", "p_l_page_right", "l_Denial_bool", "e_Denial_bool", "p_Denial_bool", "l_Lacking_init", "e_Lacking_init", "p_Lacking_init", "l_Moved_init", "e_Moved_init", "p_Moved_init", "a_l_papers_right", "l_l_papers_right", "e_l_papers_right", "p_l_papers_right", "a_l_pen", "l_l_pen", "e_l_pen", "p_l_pen", "a_l_is_plain", "l_l_is_plain", "e_l_is_plain", "p_l_is_plain", "a_is_within", "l_is_within", "e_is_within", "p_is_within", "a_l_right", "l_l_right", "e_l_right", "p_l_right", "a_l_thing", "l_l_thing", "e_l_thing", "p_l_thing", "a_law", "l_law", "e_law", "p_law", "g_Paper", "g_Denial", "g_Moved", "pg_Moved", "hd_Moved", "po_Moved", "sa_Moved", "ha_Moved", "hn_Moved", "ht_Moved", "hm_Moved", "mk_Moved", "in_Moved", "if_Moved", "ck_Moved", "na_Moved_moves", "g_Lacking", "pg_Lacking", "hd_Lacking", "po_Lacking", "sa_Lacking", "ha_Lacking", "hn_Lacking", "ht_Lacking", "hm_Lacking", "mk_Lacking", "in_Lacking", "if_Lacking", "ck_Lacking", "na_Lacking_i", "na_Lacking_j", "isi_Moved_Denial", "isi_Moved_Lacking", "isi_Moved_Moved", "isi_Moved_Paper", "isi_Lacking_Denial", "isi_Lacking_Lacking", "isi_Lacking_Moved", "isi_Lacking_Paper", "nb_Moved", "nl_Moved", "nb_Paper", "nl_Paper", "mb_Denial", "mi_Denial", "mb_Lacking", "mi_Lacking", "v_LETTERS", "v_MOST_FIGURES", "v_MOST_LETTERS", "n_abs", "n_all", "n_bool", "n_int", "n_isinstance", "n_len", "n_list", "n_range", "n_repr", "n_str"]}
-/

set_option Elab.async false
set_option linter.all false
set_option maxRecDepth 100000
set_option maxHeartbeats 4000000
namespace VL.P
open PySem PySem.Spec PyProof.Rows L2 VL
open PySem.W (Frag)
section
variable {K : Frag} {mg : Str → Option Value} {a : Ad}
theorem draw_dr : Dr (m_l_draw K a) := fun hn p h0 h1 => draw_ok (a1 := 97019) (b1 := 867) (m1 := 2147441989) (a2 := 88017) (b2 := 471) (m2 := 2147431987) (b3 := 153) (a4 := 75027) (b4 := 135) (m3 := 2147422011) (by unfold Cs; decide) hn p h0 h1
theorem pick_pk : Pk (m_l_pick K a) := pick_ok draw_dr
theorem take_len {α : Type} (L : List α) : List.take L.length L = L := List.take_length
/-! ### checks -/
theorem v_is_integer {x : D} (h : Pn x) (L : LS) : m_is_integer K a [.d x] L = .ok (.d (.bl (isI x))) L := by
  have h1 := isi_int (K := K) h
  have h2 := isi_bool (K := K) h
  cases x <;> simp [m_is_integer, Rs.bind, opt, LO.rd, rdU, fzU, eVar, eC, op2, op1, eBin, eUn, eCmp, bop2, bCmp, eChain, bChain, trU, bTru, eAnd, eOr, eNot, bAnd, bOr, bNot, eIf, rdUs, fzUs, aNil, aCons, eLst, eTup, eLstL, opn, eFn, oNone, oSome, eSl, eJoin, Rt.andThen, ofR, optS, sNil, sSeq, sDrop, sRet, sIf, sSet, sPar, tfName, tfNil, tfCons, tfTup, sAsg, sSub, outR, fnF, cPos, cBoth, Sr.get, arrU, eCall, iSeq, iRng1, iRng2, sFor, eComp, tYesF, eMake, mkF, eRest, sFld, eFnU, boolU, truG, sBrk, sCnt, sRetN, eDic0, eDic, dPairs, keyU, bD, big, h1, h2, truB, isI, isB, take_len]
theorem v_is_plain {x : D} (h : Pn x) (L : LS) : m_l_is_plain K a [.d x] L = .ok (.d (.bl (isI x))) L := by
  have h1 := isi_int (K := K) h
  have h2 := isi_bool (K := K) h
  cases x <;> simp [m_l_is_plain, Rs.bind, opt, LO.rd, rdU, fzU, eVar, eC, op2, op1, eBin, eUn, eCmp, bop2, bCmp, eChain, bChain, trU, bTru, eAnd, eOr, eNot, bAnd, bOr, bNot, eIf, rdUs, fzUs, aNil, aCons, eLst, eTup, eLstL, opn, eFn, oNone, oSome, eSl, eJoin, Rt.andThen, ofR, optS, sNil, sSeq, sDrop, sRet, sIf, sSet, sPar, tfName, tfNil, tfCons, tfTup, sAsg, sSub, outR, fnF, cPos, cBoth, Sr.get, arrU, eCall, iSeq, iRng1, iRng2, sFor, eComp, tYesF, eMake, mkF, eRest, sFld, eFnU, boolU, truG, sBrk, sCnt, sRetN, eDic0, eDic, dPairs, keyU, bD, big, h1, h2, truB, isI, isB, take_len]
def within (x : D) (lo hi : Int) : Bool := match x with
  | .int i => decide (lo ≤ i) && decide (i ≤ hi)
  | _ => false
theorem v_is_within {x : D} (h : Pn x) (lo hi : Int) (L : LS) : m_is_within K a [.d x, .d (.int lo), .d (.int hi)] L = .ok (.d (.bl (within x lo hi))) L := by
  have h1 := v_is_integer (K := K) (a := a) h L
  by_cases hx : isI x = true
  · cases x <;> first | (cases hx; done) | skip
    rename_i i
    by_cases h2 : lo ≤ i <;> simp [m_is_within, Rs.bind, opt, LO.rd, rdU, fzU, eVar, eC, op2, op1, eBin, eUn, eCmp, bop2, bCmp, eChain, bChain, trU, bTru, eAnd, eOr, eNot, bAnd, bOr, bNot, eIf, rdUs, fzUs, aNil, aCons, eLst, eTup, eLstL, opn, eFn, oNone, oSome, eSl, eJoin, Rt.andThen, ofR, optS, sNil, sSeq, sDrop, sRet, sIf, sSet, sPar, tfName, tfNil, tfCons, tfTup, sAsg, sSub, outR, fnF, cPos, cBoth, Sr.get, arrU, eCall, iSeq, iRng1, iRng2, sFor, eComp, tYesF, eMake, mkF, eRest, sFld, eFnU, boolU, truG, sBrk, sCnt, sRetN, eDic0, eDic, dPairs, keyU, bD, big, h1, truB, isI, within, take_len, leB, h2]
  · cases x <;> first | (exact absurd rfl hx) | simp [m_is_within, Rs.bind, opt, LO.rd, rdU, fzU, eVar, eC, op2, op1, eBin, eUn, eCmp, bop2, bCmp, eChain, bChain, trU, bTru, eAnd, eOr, eNot, bAnd, bOr, bNot, eIf, rdUs, fzUs, aNil, aCons, eLst, eTup, eLstL, opn, eFn, oNone, oSome, eSl, eJoin, Rt.andThen, ofR, optS, sNil, sSeq, sDrop, sRet, sIf, sSet, sPar, tfName, tfNil, tfCons, tfTup, sAsg, sSub, outR, fnF, cPos, cBoth, Sr.get, arrU, eCall, iSeq, iRng1, iRng2, sFor, eComp, tYesF, eMake, mkF, eRest, sFld, eFnU, boolU, truG, sBrk, sCnt, sRetN, eDic0, eDic, dPairs, keyU, bD, big, h1, truB, isI, within, take_len, leB]
def amount (x : D) : Bool := match x with
  | .int i => decide (0 ≤ i)
  | _ => false
theorem v_is_amount {x : D} (h : Pn x) (L : LS) : m_is_amount K a [.d x] L = .ok (.d (.bl (amount x))) L := by
  have h1 := v_is_integer (K := K) (a := a) h L
  cases x <;> simp [m_is_amount, Rs.bind, opt, LO.rd, rdU, fzU, eVar, eC, op2, op1, eBin, eUn, eCmp, bop2, bCmp, eChain, bChain, trU, bTru, eAnd, eOr, eNot, bAnd, bOr, bNot, eIf, rdUs, fzUs, aNil, aCons, eLst, eTup, eLstL, opn, eFn, oNone, oSome, eSl, eJoin, Rt.andThen, ofR, optS, sNil, sSeq, sDrop, sRet, sIf, sSet, sPar, tfName, tfNil, tfCons, tfTup, sAsg, sSub, outR, fnF, cPos, cBoth, Sr.get, arrU, eCall, iSeq, iRng1, iRng2, sFor, eComp, tYesF, eMake, mkF, eRest, sFld, eFnU, boolU, truG, sBrk, sCnt, sRetN, eDic0, eDic, dPairs, keyU, bD, big, h1, truB, isI, amount, take_len, geB]
/-- repr of three truths is written -/
theorem repr3 (b c d : Bool) : ∃ z, reprD [.lst [.bl b, .bl c, .bl d]] = some (.str z) := by
  cases b <;> cases c <;> cases d <;> exact ⟨_, rfl⟩
theorem eq_str (z : Str) : eqB (.str z) (.str z) = some true := by simp [eqB, toPy, PyData.depth, PyData.eqv]
theorem v_right {x : D} (h : Pn x) (lo hi : Int) (L : LS) : m_l_right K a [.d x, .d (.int lo), .d (.int hi)] L = .ok (.d (.bl true)) L := by
  have h1 := v_is_integer (K := K) (a := a) h L
  have h2 := v_is_within (K := K) (a := a) h lo hi L
  have h3 := v_is_amount (K := K) (a := a) h L
  have h4 := v_is_plain (K := K) (a := a) h L
  obtain ⟨z, ez⟩ := repr3 (isI x) (within x lo hi) (amount x)
  by_cases hx : isI x = true
  · cases x <;> first | (cases hx; done) | skip
    rename_i i
    by_cases h5 : lo ≤ i <;> simp [isI, within, amount, h5] at ez h1 h2 h3 h4 <;> simp [m_l_right, Rs.bind, opt, LO.rd, rdU, fzU, eVar, eC, op2, op1, eBin, eUn, eCmp, bop2, bCmp, eChain, bChain, trU, bTru, eAnd, eOr, eNot, bAnd, bOr, bNot, eIf, rdUs, fzUs, aNil, aCons, eLst, eTup, eLstL, opn, eFn, oNone, oSome, eSl, eJoin, Rt.andThen, ofR, optS, sNil, sSeq, sDrop, sRet, sIf, sSet, sPar, tfName, tfNil, tfCons, tfTup, sAsg, sSub, outR, fnF, cPos, cBoth, Sr.get, arrU, eCall, iSeq, iRng1, iRng2, sFor, eComp, tYesF, eMake, mkF, eRest, sFld, eFnU, boolU, truG, sBrk, sCnt, sRetN, eDic0, eDic, dPairs, keyU, bD, big, h1, h2, h3, h4, truB, take_len, geB, leB, h5, ez, eq_str]
  · cases x <;> first | (exact absurd rfl hx) | skip
    all_goals simp [isI, within, amount] at ez h1 h2 h3 h4
    all_goals simp [m_l_right, Rs.bind, opt, LO.rd, rdU, fzU, eVar, eC, op2, op1, eBin, eUn, eCmp, bop2, bCmp, eChain, bChain, trU, bTru, eAnd, eOr, eNot, bAnd, bOr, bNot, eIf, rdUs, fzUs, aNil, aCons, eLst, eTup, eLstL, opn, eFn, oNone, oSome, eSl, eJoin, Rt.andThen, ofR, optS, sNil, sSeq, sDrop, sRet, sIf, sSet, sPar, tfName, tfNil, tfCons, tfTup, sAsg, sSub, outR, fnF, cPos, cBoth, Sr.get, arrU, eCall, iSeq, iRng1, iRng2, sFor, eComp, tYesF, eMake, mkF, eRest, sFld, eFnU, boolU, truG, sBrk, sCnt, sRetN, eDic0, eDic, dPairs, keyU, bD, big, h1, h2, h3, h4, truB, take_len, geB, leB, ez, eq_str]
/-! ### words -/
def azs (c : Nat) : Bool := decide (c ∈ lt "abcdefghijklmnopqrstuvwxyz")
def dgs (c : Nat) : Bool := decide (c ∈ lt "0123456789")
def nameB (s : Str) : Bool := (decide (1 ≤ s.length) && decide (s.length ≤ 8)) && (!(s == "self") && (lt s).all azs)
theorem pn_str (s : Str) : Pn (.str s) := rfl
theorem v_is_name (s : Str) (hs : s.length ≤ 1000) (L : LS) : m_is_name K a [.d (.str s)] L = .ok (.d (.bl (nameB s))) L := by
  have h1 := isi_str (K := K) (pn_str s)
  have hl := len_str s (by omega)
  have hc : compF (tfName 1) tYesF (eBin (bD inB) (eVar 1) (eC (.str "abcdefghijklmnopqrstuvwxyz"))) [some (.d (.str s)), none] (signsD s) [] L = .ok ((lt s).map fun c => .bl (azs c)) L := comp_in (st := [some (.d (.str s)), none]) (j := 1) (Nat.lt_succ_self 1) s "abcdefghijklmnopqrstuvwxyz" (by omega) L
  have ha := all_map azs (lt s)
  have hw : wipeS [some (U.d (.str s)), none] [1] = [some (.d (.str s)), none] := rfl
  by_cases a1 : 1 ≤ s.length
  · have b1 : (1 : Int) ≤ (s.length : Int) := by omega
    by_cases a2 : s.length ≤ 8
    · have b2 : (s.length : Int) ≤ 8 := by omega
      cases a3 : (s == "self") with
      | true => simp [m_is_name, Rs.bind, opt, LO.rd, rdU, fzU, eVar, eC, op2, op1, eBin, eUn, eCmp, bop2, bCmp, eChain, bChain, trU, bTru, eAnd, eOr, eNot, bAnd, bOr, bNot, eIf, rdUs, fzUs, aNil, aCons, eLst, eTup, eLstL, opn, eFn, oNone, oSome, eSl, eJoin, Rt.andThen, ofR, optS, sNil, sSeq, sDrop, sRet, sIf, sSet, sPar, tfName, tfNil, tfCons, tfTup, sAsg, sSub, outR, fnF, cPos, cBoth, Sr.get, arrU, eCall, iSeq, iRng1, iRng2, sFor, eComp, tYesF, eMake, mkF, eRest, sFld, eFnU, boolU, truG, sBrk, sCnt, sRetN, eDic0, eDic, dPairs, keyU, bD, big, h1, truB, isS, take_len, hl, leB, b1, b2, a1, a2, eq_strs, a3, nameB]
      | false => simp [m_is_name, Rs.bind, opt, LO.rd, rdU, fzU, eVar, eC, op2, op1, eBin, eUn, eCmp, bop2, bCmp, eChain, bChain, trU, bTru, eAnd, eOr, eNot, bAnd, bOr, bNot, eIf, rdUs, fzUs, aNil, aCons, eLst, eTup, eLstL, opn, eFn, oNone, oSome, eSl, eJoin, Rt.andThen, ofR, optS, sNil, sSeq, sDrop, sRet, sIf, sSet, sPar, tfName, tfNil, tfCons, tfTup, sAsg, sSub, outR, fnF, cPos, cBoth, Sr.get, arrU, eCall, iSeq, iRng1, iRng2, sFor, eComp, tYesF, eMake, mkF, eRest, sFld, eFnU, boolU, truG, sBrk, sCnt, sRetN, eDic0, eDic, dPairs, keyU, bD, big, h1, truB, isS, take_len, hl, leB, b1, b2, a1, a2, eq_strs, a3, nameB, hw, hc, ha]
    · have b2 : ¬ (s.length : Int) ≤ 8 := by omega
      simp [m_is_name, Rs.bind, opt, LO.rd, rdU, fzU, eVar, eC, op2, op1, eBin, eUn, eCmp, bop2, bCmp, eChain, bChain, trU, bTru, eAnd, eOr, eNot, bAnd, bOr, bNot, eIf, rdUs, fzUs, aNil, aCons, eLst, eTup, eLstL, opn, eFn, oNone, oSome, eSl, eJoin, Rt.andThen, ofR, optS, sNil, sSeq, sDrop, sRet, sIf, sSet, sPar, tfName, tfNil, tfCons, tfTup, sAsg, sSub, outR, fnF, cPos, cBoth, Sr.get, arrU, eCall, iSeq, iRng1, iRng2, sFor, eComp, tYesF, eMake, mkF, eRest, sFld, eFnU, boolU, truG, sBrk, sCnt, sRetN, eDic0, eDic, dPairs, keyU, bD, big, h1, truB, isS, take_len, hl, leB, b1, b2, a1, a2, eq_strs, nameB]
  · have b1 : ¬ (1 : Int) ≤ (s.length : Int) := by omega
    simp [m_is_name, Rs.bind, opt, LO.rd, rdU, fzU, eVar, eC, op2, op1, eBin, eUn, eCmp, bop2, bCmp, eChain, bChain, trU, bTru, eAnd, eOr, eNot, bAnd, bOr, bNot, eIf, rdUs, fzUs, aNil, aCons, eLst, eTup, eLstL, opn, eFn, oNone, oSome, eSl, eJoin, Rt.andThen, ofR, optS, sNil, sSeq, sDrop, sRet, sIf, sSet, sPar, tfName, tfNil, tfCons, tfTup, sAsg, sSub, outR, fnF, cPos, cBoth, Sr.get, arrU, eCall, iSeq, iRng1, iRng2, sFor, eComp, tYesF, eMake, mkF, eRest, sFld, eFnU, boolU, truG, sBrk, sCnt, sRetN, eDic0, eDic, dPairs, keyU, bD, big, h1, truB, isS, take_len, hl, leB, b1, a1, eq_strs, nameB]
theorem v_is_name_no {x : D} (h : Pn x) (h2 : isS x = false) (L : LS) : m_is_name K a [.d x] L = .ok (.d (.bl false)) L := by
  have h1 := isi_str (K := K) h
  rw [h2] at h1
  simp [m_is_name, Rs.bind, opt, LO.rd, rdU, fzU, eVar, eC, op2, op1, eBin, eUn, eCmp, bop2, bCmp, eChain, bChain, trU, bTru, eAnd, eOr, eNot, bAnd, bOr, bNot, eIf, rdUs, fzUs, aNil, aCons, eLst, eTup, eLstL, opn, eFn, oNone, oSome, eSl, eJoin, Rt.andThen, ofR, optS, sNil, sSeq, sDrop, sRet, sIf, sSet, sPar, tfName, tfNil, tfCons, tfTup, sAsg, sSub, outR, fnF, cPos, cBoth, Sr.get, arrU, eCall, iSeq, iRng1, iRng2, sFor, eComp, tYesF, eMake, mkF, eRest, sFld, eFnU, boolU, truG, sBrk, sCnt, sRetN, eDic0, eDic, dPairs, keyU, bD, big, h1, truB, take_len]
def fFig : EF := eIf (bCmp eqB (eSl (eVar 0) oNone (oSome (eC (.int 1)))) (eC (.str "-"))) (eSl (eVar 0) (oSome (eC (.int 1))) oNone) (eVar 0)
theorem is_figures_eq : m_is_figures K a = fnF 1 3 (sSeq (sIf (bNot (bTru (eFn (isiD K) (aCons (eVar 0) (aCons (eC (.ty "str")) aNil))))) (sRet (eC (.bl false))) sNil) (sSeq (sSet 1 fFig) (sSeq (sIf (bOr (bNot (bChain leB leB (eC (.int 1)) (eFn lenD (aCons (eVar 1) aNil)) (eC (.int 1000)))) (bNot (bTru (eFn allD (aCons (eComp (iSeq (eVar 1)) [2] (tfName 2) tYesF (eCmp inB (eVar 2) (eC (.str "0123456789")))) aNil))))) (sRet (eC (.bl false))) sNil) (sRet (eOr (eCmp eqB (eVar 0) (eC (.str "0"))) (eCmp neB (eBin ixD (eVar 1) (eC (.int 0))) (eC (.str "0")))))))) := rfl
theorem written_eq : m_l_written K a = fnF 1 3 (sSeq (sSet 1 fFig) (sSeq (sIf (bOr (bCmp eqB (eVar 1) (eC (.str ""))) (bCmp neB (eComp (iSeq (eVar 1)) [2] (tfName 2) (bCmp notInB (eVar 2) (eC (.str "0123456789"))) (eVar 2)) (eLst aNil))) (sRet (eC .non)) sNil) (sRet (eIf (bCmp eqB (eFn strD (aCons (eFn intL (aCons (eVar 0) aNil)) aNil)) (eVar 0)) (eFn intL (aCons (eVar 0) aNil)) (eC .non))))) := rfl
def figB (s : Str) : Bool := (decide (1 ≤ (figS s).length) && decide ((figS s).length ≤ 1000)) && ((lt (figS s)).all dgs && (s == "0" || !((lt (figS s)).head? == some 48)))
theorem figS_len (s : Str) : (figS s).length ≤ s.length := by
  unfold figS
  split
  · exact cutS_length _ _ _
  · exact Nat.le_refl _
theorem fig_ev (s : Str) (hs : s.length ≤ 1000) (st : SS) (h : st[0]? = some (some (.d (.str s)))) (L : LS) : fFig st L = .ok (.d (.str (figS s))) L := by
  have hb : s.length ≤ 16777216 := by omega
  unfold figS fFig
  cases e : (cutS s none (some 1) == "-") <;> simp [Rs.bind, opt, LO.rd, rdU, fzU, eVar, eC, op2, op1, eBin, eUn, eCmp, bop2, bCmp, eChain, bChain, trU, bTru, eAnd, eOr, eNot, bAnd, bOr, bNot, eIf, rdUs, fzUs, aNil, aCons, eLst, eTup, eLstL, opn, eFn, oNone, oSome, eSl, eJoin, Rt.andThen, ofR, optS, sNil, sSeq, sDrop, sRet, sIf, sSet, sPar, tfName, tfNil, tfCons, tfTup, sAsg, sSub, outR, fnF, cPos, cBoth, Sr.get, arrU, eCall, iSeq, iRng1, iRng2, sFor, eComp, tYesF, eMake, mkF, eRest, sFld, eFnU, boolU, truG, sBrk, sCnt, sRetN, eDic0, eDic, dPairs, keyU, bD, big, h, sliceD, hb, eq_strs, e]
theorem ix_head (z : Str) (h : 1 ≤ z.length) (hb : z.length ≤ 1000) : ∃ c, (lt z).head? = some c ∧ ixD (.str z) (.int 0) = some (.str ⟨#[c]⟩) := by
  have hl : (lt z).length = z.length := by simp [Str.length]
  cases e : lt z with
  | nil => rw [e] at hl; simp at hl; omega
  | cons c r =>
    refine ⟨c, rfl, ?_⟩
    have hb' : z.length ≤ 16777216 := by omega
    simp [ixD, hb', atI, ixN, show z.cps.toList = c :: r from e]
theorem one_sign (c : Nat) : ((⟨#[c]⟩ : Str) == "0") = (some c == some 48) := by
  rw [beq_lt]
  have e0 : lt "0" = [48] := by decide +kernel
  rw [e0]
  by_cases h : c = 48
  · subst h; rfl
  · rw [decide_eq_false (show ¬ [c] = [48] by simpa using h)]
    exact (beq_eq_false_iff_ne.mpr (by simpa using h)).symm
theorem v_is_figures (s : Str) (hs : s.length ≤ 1000) (L : LS) : m_is_figures K a [.d (.str s)] L = .ok (.d (.bl (figB s))) L := by
  have h1 := isi_str (K := K) (pn_str s)
  have hfl := figS_len s
  have hl := len_str (figS s) (by omega)
  have h2 := fig_ev s hs [some (.d (.str s)), none, none] rfl L
  have hc : compF (tfName 2) tYesF (eBin (bD inB) (eVar 2) (eC (.str "0123456789"))) [some (.d (.str s)), some (.d (.str (figS s))), none] (signsD (figS s)) [] L = .ok ((lt (figS s)).map fun c => .bl (dgs c)) L :=
    comp_in (st := [some (.d (.str s)), some (.d (.str (figS s))), none]) (j := 2) (Nat.lt_succ_self 2) (figS s) "0123456789" (by omega) L
  have ha := all_map dgs (lt (figS s))
  have hw : wipeS [some (U.d (.str s)), some (.d (.str (figS s))), none] [2] = [some (.d (.str s)), some (.d (.str (figS s))), none] := rfl
  by_cases a1 : 1 ≤ (figS s).length
  · have b1 : (1 : Int) ≤ ((figS s).length : Int) := by omega
    have a2 : (figS s).length ≤ 1000 := by omega
    have b2 : ((figS s).length : Int) ≤ 1000 := by omega
    obtain ⟨c, hc1, hc2⟩ := ix_head (figS s) a1 a2
    have hc3 := one_sign c
    cases a3 : (lt (figS s)).all dgs with
    | false =>
      rw [a3] at ha
      simp [is_figures_eq, Rs.bind, opt, LO.rd, rdU, fzU, eVar, eC, op2, op1, eBin, eUn, eCmp, bop2, bCmp, eChain, bChain, trU, bTru, eAnd, eOr, eNot, bAnd, bOr, bNot, eIf, rdUs, fzUs, aNil, aCons, eLst, eTup, eLstL, opn, eFn, oNone, oSome, eSl, eJoin, Rt.andThen, ofR, optS, sNil, sSeq, sDrop, sRet, sIf, sSet, sPar, tfName, tfNil, tfCons, tfTup, sAsg, sSub, outR, fnF, cPos, cBoth, Sr.get, arrU, eCall, iSeq, iRng1, iRng2, sFor, eComp, tYesF, eMake, mkF, eRest, sFld, eFnU, boolU, truG, sBrk, sCnt, sRetN, eDic0, eDic, dPairs, keyU, bD, big, h1, truB, isS, take_len, hl, leB, b1, b2, a1, a2, figB, hw, hc, ha, a3, h2]
    | true =>
      rw [a3] at ha
      cases a4 : (s == "0") <;> simp [is_figures_eq, Rs.bind, opt, LO.rd, rdU, fzU, eVar, eC, op2, op1, eBin, eUn, eCmp, bop2, bCmp, eChain, bChain, trU, bTru, eAnd, eOr, eNot, bAnd, bOr, bNot, eIf, rdUs, fzUs, aNil, aCons, eLst, eTup, eLstL, opn, eFn, oNone, oSome, eSl, eJoin, Rt.andThen, ofR, optS, sNil, sSeq, sDrop, sRet, sIf, sSet, sPar, tfName, tfNil, tfCons, tfTup, sAsg, sSub, outR, fnF, cPos, cBoth, Sr.get, arrU, eCall, iSeq, iRng1, iRng2, sFor, eComp, tYesF, eMake, mkF, eRest, sFld, eFnU, boolU, truG, sBrk, sCnt, sRetN, eDic0, eDic, dPairs, keyU, bD, big, h1, truB, isS, take_len, hl, leB, b1, b2, a1, a2, figB, hw, hc, ha, a3, h2, eq_strs, ne_strs, a4, hc2, hc3, hc1]
  · have b1 : ¬ (1 : Int) ≤ ((figS s).length : Int) := by omega
    simp [is_figures_eq, Rs.bind, opt, LO.rd, rdU, fzU, eVar, eC, op2, op1, eBin, eUn, eCmp, bop2, bCmp, eChain, bChain, trU, bTru, eAnd, eOr, eNot, bAnd, bOr, bNot, eIf, rdUs, fzUs, aNil, aCons, eLst, eTup, eLstL, opn, eFn, oNone, oSome, eSl, eJoin, Rt.andThen, ofR, optS, sNil, sSeq, sDrop, sRet, sIf, sSet, sPar, tfName, tfNil, tfCons, tfTup, sAsg, sSub, outR, fnF, cPos, cBoth, Sr.get, arrU, eCall, iSeq, iRng1, iRng2, sFor, eComp, tYesF, eMake, mkF, eRest, sFld, eFnU, boolU, truG, sBrk, sCnt, sRetN, eDic0, eDic, dPairs, keyU, bD, big, h1, truB, isS, take_len, hl, leB, b1, a1, figB, h2]
theorem dgs_iff (c : Nat) : dgs c = true ↔ 48 ≤ c ∧ c ≤ 57 := by
  have e : lt "0123456789" = [48, 49, 50, 51, 52, 53, 54, 55, 56, 57] := by decide +kernel
  unfold dgs
  rw [e, decide_eq_true_iff]
  simp
  omega
theorem all_digits {cs : List Nat} (h : cs.all dgs = true) : PySem.NumText.AllDigits cs := fun c hc => (dgs_iff c).mp (List.all_eq_true.mp h c hc)
theorem no_strange {p : Nat → Bool} (cs : List Nat) : (cs.filter fun c => !p c).isEmpty = cs.all p := by
  induction cs with
  | nil => rfl
  | cons c cs ih => cases h : p c <;> simp [List.filter_cons, h, ih]
/-- the number that a word writes just as str does -/
def writ (s : Str) : D := if figB s then (match intText? s with
  | some n => .int n
  | none => .non) else .non
theorem empty_iff (z : Str) : (z == "") = (lt z).isEmpty := by
  have e : lt "" = [] := by decide +kernel
  rw [beq_lt, e]
  cases lt z <;> rfl
theorem len_lt (z : Str) : z.length = (lt z).length := by simp [Str.length]
/-- what is known of a word in figures -/
theorem fig_num (s : Str) (hs : s.length ≤ 400) (h : (lt (figS s)).all dgs = true) (h0 : lt (figS s) ≠ []) :
    ∃ n : Int, intText? s = some n ∧ n.natAbs.log2 < 1920 ∧ (Str.ofString (toString n) == s) = figB s := by
  have hd := all_digits h
  obtain ⟨n, e1, e2, e3⟩ := num_text s (by omega) hd h0
  have hl := figS_len s
  have hl2 := len_lt (figS s)
  refine ⟨n, e1, log_small (k := (lt (figS s)).length) (by rw [e2]; exact digits_lt _ hd) (by omega), ?_⟩
  rw [e3]
  have p1 : 1 ≤ (figS s).length := by
    rw [hl2]
    cases q : lt (figS s) with
    | nil => exact absurd q h0
    | cons c r => simp
  have p2 : (figS s).length ≤ 1000 := by omega
  unfold figB
  rw [decide_eq_true p1, decide_eq_true p2, h]
  rfl
theorem v_written (s : Str) (hs : s.length ≤ 400) (L : LS) : m_l_written K a [.d (.str s)] L = .ok (.d (writ s)) L := by
  have hfl := figS_len s
  have h2 := fig_ev s (by omega) [some (.d (.str s)), none, none] rfl L
  have hc : compF (tfName 2) (bCmp notInB (eVar 2) (eC (.str "0123456789"))) (eVar 2) [some (.d (.str s)), some (.d (.str (figS s))), none] (signsD (figS s)) [] L = .ok (((lt (figS s)).filter fun c => !dgs c).map sgn) L :=
    comp_notIn (st := [some (.d (.str s)), some (.d (.str (figS s))), none]) (j := 2) (Nat.lt_succ_self 2) (figS s) "0123456789" (by omega) L
  have hn := ne_sgn ((lt (figS s)).filter fun c => !dgs c)
  rw [no_strange] at hn
  have hw : wipeS [some (U.d (.str s)), some (.d (.str (figS s))), none] [2] = [some (.d (.str s)), some (.d (.str (figS s))), none] := rfl
  have he := empty_iff (figS s)
  generalize hcomp : (bCmp notInB (eVar 2) (eC (.str "0123456789"))) = tt at hc
  generalize hres : ((lt (figS s)).filter fun c => !dgs c).map sgn = res at hc hn
  cases q0 : (lt (figS s)).isEmpty with
  | true =>
    rw [q0] at he
    have hw0 : writ s = .non := by
      unfold writ
      have : figB s = false := by
        unfold figB
        have : (figS s).length = 0 := by rw [len_lt, List.isEmpty_iff.mp q0]; rfl
        rw [this]; rfl
      rw [this]; rfl
    rw [hw0, written_eq]
    rw [hcomp]
    simp [Rs.bind, opt, LO.rd, rdU, fzU, eVar, eC, op2, op1, eBin, eUn, eCmp, bop2, bCmp, eChain, bChain, trU, bTru, eAnd, eOr, eNot, bAnd, bOr, bNot, eIf, rdUs, fzUs, aNil, aCons, eLst, eTup, eLstL, opn, eFn, oNone, oSome, eSl, eJoin, Rt.andThen, ofR, optS, sNil, sSeq, sDrop, sRet, sIf, sSet, sPar, tfName, tfNil, tfCons, tfTup, sAsg, sSub, outR, fnF, cPos, cBoth, Sr.get, arrU, eCall, iSeq, iRng1, iRng2, sFor, eComp, tYesF, eMake, mkF, eRest, sFld, eFnU, boolU, truG, sBrk, sCnt, sRetN, eDic0, eDic, dPairs, keyU, bD, big, h2, eq_strs, he, take_len]
  | false =>
    rw [q0] at he
    cases q1 : (lt (figS s)).all dgs with
    | false =>
      rw [q1] at hn
      have hw0 : writ s = .non := by
        unfold writ figB
        rw [q1]; simp
      rw [hw0, written_eq, hcomp]
      simp [Rs.bind, opt, LO.rd, rdU, fzU, eVar, eC, op2, op1, eBin, eUn, eCmp, bop2, bCmp, eChain, bChain, trU, bTru, eAnd, eOr, eNot, bAnd, bOr, bNot, eIf, rdUs, fzUs, aNil, aCons, eLst, eTup, eLstL, opn, eFn, oNone, oSome, eSl, eJoin, Rt.andThen, ofR, optS, sNil, sSeq, sDrop, sRet, sIf, sSet, sPar, tfName, tfNil, tfCons, tfTup, sAsg, sSub, outR, fnF, cPos, cBoth, Sr.get, arrU, eCall, iSeq, iRng1, iRng2, sFor, eComp, tYesF, eMake, mkF, eRest, sFld, eFnU, boolU, truG, sBrk, sCnt, sRetN, eDic0, eDic, dPairs, keyU, bD, big, h2, eq_strs, he, take_len, hw, hc, hn]
    | true =>
      rw [q1] at hn
      have h0 : lt (figS s) ≠ [] := by intro z; rw [z] at q0; cases q0
      obtain ⟨n, e1, e2, e3⟩ := fig_num s hs q1 h0
      have i1 : intL [.str s] = some (.int n) := by
        have hb : s.length ≤ 16777216 := by omega
        simp [intL, big, hb, e1]
      have i2 : strD [.int n] = some (.str (Str.ofString (toString n))) := by simp [strD, e2]
      generalize Str.ofString (toString n) = t at e3 i2
      rw [written_eq, hcomp]
      unfold writ
      rw [e1]
      cases q2 : figB s <;> rw [q2] at e3 <;> simp [Rs.bind, opt, LO.rd, rdU, fzU, eVar, eC, op2, op1, eBin, eUn, eCmp, bop2, bCmp, eChain, bChain, trU, bTru, eAnd, eOr, eNot, bAnd, bOr, bNot, eIf, rdUs, fzUs, aNil, aCons, eLst, eTup, eLstL, opn, eFn, oNone, oSome, eSl, eJoin, Rt.andThen, ofR, optS, sNil, sSeq, sDrop, sRet, sIf, sSet, sPar, tfName, tfNil, tfCons, tfTup, sAsg, sSub, outR, fnF, cPos, cBoth, Sr.get, arrU, eCall, iSeq, iRng1, iRng2, sFor, eComp, tYesF, eMake, mkF, eRest, sFld, eFnU, boolU, truG, sBrk, sCnt, sRetN, eDic0, eDic, dPairs, keyU, bD, big, h2, eq_strs, he, take_len, hw, hc, hn, i1, i2, e3]
def insd (x : D) (lo hi : Int) : D := match x with
  | .int n => if lo ≤ n ∧ n ≤ hi then .int n else .non
  | _ => .non
theorem v_number_of (s : Str) (hs : s.length ≤ 400) (lo hi : Int) (L : LS) : m_number_of K a [.d (.str s), .d (.int lo), .d (.int hi)] L = .ok (.d (insd (writ s) lo hi)) L := by
  have h1 := v_is_figures (K := K) (a := a) s (by omega) L
  cases q : figB s with
  | false =>
    rw [q] at h1
    have : writ s = .non := by unfold writ; rw [q]; rfl
    rw [this]
    simp [m_number_of, Rs.bind, opt, LO.rd, rdU, fzU, eVar, eC, op2, op1, eBin, eUn, eCmp, bop2, bCmp, eChain, bChain, trU, bTru, eAnd, eOr, eNot, bAnd, bOr, bNot, eIf, rdUs, fzUs, aNil, aCons, eLst, eTup, eLstL, opn, eFn, oNone, oSome, eSl, eJoin, Rt.andThen, ofR, optS, sNil, sSeq, sDrop, sRet, sIf, sSet, sPar, tfName, tfNil, tfCons, tfTup, sAsg, sSub, outR, fnF, cPos, cBoth, Sr.get, arrU, eCall, iSeq, iRng1, iRng2, sFor, eComp, tYesF, eMake, mkF, eRest, sFld, eFnU, boolU, truG, sBrk, sCnt, sRetN, eDic0, eDic, dPairs, keyU, bD, big, h1, truB, take_len, insd]
  | true =>
    rw [q] at h1
    have q' := q
    unfold figB at q'
    simp only [Bool.and_eq_true, decide_eq_true_eq] at q'
    have h0 : lt (figS s) ≠ [] := by
      intro z
      have := q'.1.1
      rw [len_lt, z] at this
      simp at this
    obtain ⟨n, e1, e2, e3⟩ := fig_num s hs q'.2.1 h0
    have i1 : intL [.str s] = some (.int n) := by
      have hb : s.length ≤ 16777216 := by omega
      simp [intL, big, hb, e1]
    have : writ s = .int n := by unfold writ; rw [q, e1]; rfl
    rw [this]
    by_cases l1 : lo ≤ n <;> by_cases l2 : n ≤ hi <;> simp [m_number_of, Rs.bind, opt, LO.rd, rdU, fzU, eVar, eC, op2, op1, eBin, eUn, eCmp, bop2, bCmp, eChain, bChain, trU, bTru, eAnd, eOr, eNot, bAnd, bOr, bNot, eIf, rdUs, fzUs, aNil, aCons, eLst, eTup, eLstL, opn, eFn, oNone, oSome, eSl, eJoin, Rt.andThen, ofR, optS, sNil, sSeq, sDrop, sRet, sIf, sSet, sPar, tfName, tfNil, tfCons, tfTup, sAsg, sSub, outR, fnF, cPos, cBoth, Sr.get, arrU, eCall, iSeq, iRng1, iRng2, sFor, eComp, tYesF, eMake, mkF, eRest, sFld, eFnU, boolU, truG, sBrk, sCnt, sRetN, eDic0, eDic, dPairs, keyU, bD, big, h1, truB, take_len, insd, i1, leB, l1, l2]
theorem v_number_no {x : D} (h : Pn x) (h2 : isS x = false) (lo hi : D) (L : LS) : m_number_of K a [.d x, .d lo, .d hi] L = .ok (.d .non) L := by
  have h1 := isi_str (K := K) h
  rw [h2] at h1
  have h3 : m_is_figures K a [.d x] L = .ok (.d (.bl false)) L := by simp [m_is_figures, Rs.bind, opt, LO.rd, rdU, fzU, eVar, eC, op2, op1, eBin, eUn, eCmp, bop2, bCmp, eChain, bChain, trU, bTru, eAnd, eOr, eNot, bAnd, bOr, bNot, eIf, rdUs, fzUs, aNil, aCons, eLst, eTup, eLstL, opn, eFn, oNone, oSome, eSl, eJoin, Rt.andThen, ofR, optS, sNil, sSeq, sDrop, sRet, sIf, sSet, sPar, tfName, tfNil, tfCons, tfTup, sAsg, sSub, outR, fnF, cPos, cBoth, Sr.get, arrU, eCall, iSeq, iRng1, iRng2, sFor, eComp, tYesF, eMake, mkF, eRest, sFld, eFnU, boolU, truG, sBrk, sCnt, sRetN, eDic0, eDic, dPairs, keyU, bD, big, h1, truB, take_len]
  simp [m_number_of, Rs.bind, opt, LO.rd, rdU, fzU, eVar, eC, op2, op1, eBin, eUn, eCmp, bop2, bCmp, eChain, bChain, trU, bTru, eAnd, eOr, eNot, bAnd, bOr, bNot, eIf, rdUs, fzUs, aNil, aCons, eLst, eTup, eLstL, opn, eFn, oNone, oSome, eSl, eJoin, Rt.andThen, ofR, optS, sNil, sSeq, sDrop, sRet, sIf, sSet, sPar, tfName, tfNil, tfCons, tfTup, sAsg, sSub, outR, fnF, cPos, cBoth, Sr.get, arrU, eCall, iSeq, iRng1, iRng2, sFor, eComp, tYesF, eMake, mkF, eRest, sFld, eFnU, boolU, truG, sBrk, sCnt, sRetN, eDic0, eDic, dPairs, keyU, bD, big, h3, truB, take_len]
end
end VL.P

set_option Elab.async false
set_option linter.all false
set_option maxRecDepth 100000
set_option maxHeartbeats 4000000
namespace VL.P
open PySem PySem.Spec PyProof.Rows L2 VL
open PySem.W (Frag)
section
variable {K : Frag} {mg : Str → Option Value} {a : Ad}
theorem writ_small (s : Str) (hs : s.length ≤ 400) (lo hi : Int) : ∃ p, toPy (insd (writ s) lo hi) = some p ∧ Sm p := by
  unfold writ
  cases q : figB s with
  | false => exact ⟨.none, rfl, trivial⟩
  | true =>
    have q' := q
    unfold figB at q'
    simp only [Bool.and_eq_true, decide_eq_true_eq] at q'
    have h0 : lt (figS s) ≠ [] := by
      intro z
      have := q'.1.1
      rw [len_lt, z] at this
      simp at this
    obtain ⟨n, e1, e2, e3⟩ := fig_num s hs q'.2.1 h0
    rw [e1]
    show ∃ p, toPy (if lo ≤ n ∧ n ≤ hi then .int n else .non) = some p ∧ Sm p
    split
    · exact ⟨.int n, rfl, e2⟩
    · exact ⟨.none, rfl, trivial⟩
def fIns : EF := eIf (bAnd (bCmp notNonB (eVar 3) (eC .non)) (bChain leB leB (eVar 1) (eVar 3) (eVar 2))) (eVar 3) (eC .non)
def fFine : EF := eAnd (eChain leB leB (eC (.int 1)) (eFn lenD (aCons (eVar 0) aNil)) (eC (.int 8))) (eAnd (eCmp eqB (eVar 4) (eLst aNil)) (eCmp neB (eVar 0) (eC (.str "self"))))
def fStr : EF := eComp (iSeq (eVar 0)) [8] (tfName 8) (bCmp notInB (eVar 8) (eC (.str "abcdefghijklmnopqrstuvwxyz"))) (eVar 8)
theorem page_eq : m_l_page_right K a = fnF 3 9 (sSeq (sSet 3 (eCall (m_l_written K a) [.p 0] 1 0 (cPos (aCons (eVar 0) aNil)))) (sSeq (sSet 4 fStr) (sSeq (sSet 5 (eLst (aCons (eCall (m_is_name K a) [.p 0] 1 0 (cPos (aCons (eVar 0) aNil))) (aCons (eCall (m_number_of K a) [.p 0, .p 1, .p 2] 3 0 (cPos (aCons (eVar 0) (aCons (eVar 1) (aCons (eVar 2) aNil))))) (aCons (eCall (m_is_integer K a) [.p 0] 1 0 (cPos (aCons (eVar 0) aNil))) (aCons (eCall (m_is_amount K a) [.p 0] 1 0 (cPos (aCons (eVar 0) aNil))) aNil)))))) (sSeq (sSet 6 fIns) (sSeq (sSet 7 fFine) (sRet (eCmp eqB (eFn reprD (aCons (eVar 5) aNil)) (eFn reprD (aCons (eLst (aCons (eVar 7) (aCons (eVar 6) (aCons (eC (.bl false)) (aCons (eC (.bl false)) aNil))))) aNil))))))))) := rfl
theorem ins_ev (st : SS) (w : D) (hw : w = .non ∨ ∃ n, w = .int n) (lo hi : Int) (h1 : st[1]? = some (some (.d (.int lo)))) (h2 : st[2]? = some (some (.d (.int hi)))) (h3 : st[3]? = some (some (.d w))) (L : LS) : fIns st L = .ok (.d (insd w lo hi)) L := by
  unfold fIns
  rcases hw with rfl | ⟨n, rfl⟩
  · simp [Rs.bind, opt, LO.rd, rdU, fzU, eVar, eC, op2, op1, eBin, eUn, eCmp, bop2, bCmp, eChain, bChain, trU, bTru, eAnd, eOr, eNot, bAnd, bOr, bNot, eIf, rdUs, fzUs, aNil, aCons, eLst, eTup, eLstL, opn, eFn, oNone, oSome, eSl, eJoin, Rt.andThen, ofR, optS, sNil, sSeq, sDrop, sRet, sIf, sSet, sPar, tfName, tfNil, tfCons, tfTup, sAsg, sSub, outR, fnF, cPos, cBoth, Sr.get, arrU, eCall, iSeq, iRng1, iRng2, sFor, eComp, tYesF, eMake, mkF, eRest, sFld, eFnU, boolU, truG, sBrk, sCnt, sRetN, eDic0, eDic, dPairs, keyU, bD, big, h1, h2, h3, isNonB, notNonB, isNon, insd]
  · by_cases l1 : lo ≤ n <;> by_cases l2 : n ≤ hi <;> simp [Rs.bind, opt, LO.rd, rdU, fzU, eVar, eC, op2, op1, eBin, eUn, eCmp, bop2, bCmp, eChain, bChain, trU, bTru, eAnd, eOr, eNot, bAnd, bOr, bNot, eIf, rdUs, fzUs, aNil, aCons, eLst, eTup, eLstL, opn, eFn, oNone, oSome, eSl, eJoin, Rt.andThen, ofR, optS, sNil, sSeq, sDrop, sRet, sIf, sSet, sPar, tfName, tfNil, tfCons, tfTup, sAsg, sSub, outR, fnF, cPos, cBoth, Sr.get, arrU, eCall, iSeq, iRng1, iRng2, sFor, eComp, tYesF, eMake, mkF, eRest, sFld, eFnU, boolU, truG, sBrk, sCnt, sRetN, eDic0, eDic, dPairs, keyU, bD, big, h1, h2, h3, isNonB, notNonB, isNon, insd, leB, l1, l2]
theorem fine_ev (st : SS) (s : Str) (hs : s.length ≤ 400) (h0 : st[0]? = some (some (.d (.str s)))) (h4 : st[4]? = some (some (.d (.lst (((lt s).filter fun c => !azs c).map sgn))))) (L : LS) : fFine st L = .ok (.d (.bl (nameB s))) L := by
  have hl := len_str s (by omega)
  have hn := eq_sgn ((lt s).filter fun c => !azs c)
  rw [no_strange] at hn
  generalize ((lt s).filter fun c => !azs c).map sgn = res at h4 hn
  unfold fFine nameB
  by_cases a1 : 1 ≤ s.length
  · have b1 : (1 : Int) ≤ (s.length : Int) := by omega
    by_cases a2 : s.length ≤ 8
    · have b2 : (s.length : Int) ≤ 8 := by omega
      cases q3 : (lt s).all azs <;> rw [q3] at hn <;> cases q4 : (s == "self") <;> simp [Rs.bind, opt, LO.rd, rdU, fzU, eVar, eC, op2, op1, eBin, eUn, eCmp, bop2, bCmp, eChain, bChain, trU, bTru, eAnd, eOr, eNot, bAnd, bOr, bNot, eIf, rdUs, fzUs, aNil, aCons, eLst, eTup, eLstL, opn, eFn, oNone, oSome, eSl, eJoin, Rt.andThen, ofR, optS, sNil, sSeq, sDrop, sRet, sIf, sSet, sPar, tfName, tfNil, tfCons, tfTup, sAsg, sSub, outR, fnF, cPos, cBoth, Sr.get, arrU, eCall, iSeq, iRng1, iRng2, sFor, eComp, tYesF, eMake, mkF, eRest, sFld, eFnU, boolU, truG, sBrk, sCnt, sRetN, eDic0, eDic, dPairs, keyU, bD, big, h0, h4, hl, leB, b1, b2, a1, a2, truB, hn, ne_strs, q4]
    · have b2 : ¬ (s.length : Int) ≤ 8 := by omega
      simp [Rs.bind, opt, LO.rd, rdU, fzU, eVar, eC, op2, op1, eBin, eUn, eCmp, bop2, bCmp, eChain, bChain, trU, bTru, eAnd, eOr, eNot, bAnd, bOr, bNot, eIf, rdUs, fzUs, aNil, aCons, eLst, eTup, eLstL, opn, eFn, oNone, oSome, eSl, eJoin, Rt.andThen, ofR, optS, sNil, sSeq, sDrop, sRet, sIf, sSet, sPar, tfName, tfNil, tfCons, tfTup, sAsg, sSub, outR, fnF, cPos, cBoth, Sr.get, arrU, eCall, iSeq, iRng1, iRng2, sFor, eComp, tYesF, eMake, mkF, eRest, sFld, eFnU, boolU, truG, sBrk, sCnt, sRetN, eDic0, eDic, dPairs, keyU, bD, big, h0, h4, hl, leB, b1, b2, a1, a2, truB]
  · have b1 : ¬ (1 : Int) ≤ (s.length : Int) := by omega
    simp [Rs.bind, opt, LO.rd, rdU, fzU, eVar, eC, op2, op1, eBin, eUn, eCmp, bop2, bCmp, eChain, bChain, trU, bTru, eAnd, eOr, eNot, bAnd, bOr, bNot, eIf, rdUs, fzUs, aNil, aCons, eLst, eTup, eLstL, opn, eFn, oNone, oSome, eSl, eJoin, Rt.andThen, ofR, optS, sNil, sSeq, sDrop, sRet, sIf, sSet, sPar, tfName, tfNil, tfCons, tfTup, sAsg, sSub, outR, fnF, cPos, cBoth, Sr.get, arrU, eCall, iSeq, iRng1, iRng2, sFor, eComp, tYesF, eMake, mkF, eRest, sFld, eFnU, boolU, truG, sBrk, sCnt, sRetN, eDic0, eDic, dPairs, keyU, bD, big, h0, h4, hl, leB, b1, a1, truB]
theorem str_ev (st : SS) (s : Str) (hs : s.length ≤ 400) (h0 : (wipeS st [8])[0]? = some (some (.d (.str s)))) (h0' : st[0]? = some (some (.d (.str s)))) (hl : 8 < (wipeS st [8]).length) (L : LS) : fStr st L = .ok (.d (.lst (((lt s).filter fun c => !azs c).map sgn))) L := by
  unfold fStr
  have hc := comp_notIn (st := wipeS st [8]) (j := 8) hl s "abcdefghijklmnopqrstuvwxyz" (by omega) L
  have hc : compF (tfName 8) (bCmp notInB (eVar 8) (eC (.str "abcdefghijklmnopqrstuvwxyz"))) (eVar 8) (wipeS st [8]) (signsD s) [] L = .ok (((lt s).filter fun c => !azs c).map sgn) L := hc
  unfold eComp
  have hi : iSeq (eVar 0) st L = .ok (signsD s) L := by simp [iSeq, eVar, h0', opt, fzU]
  rw [hi]
  simp only [Rs.bind, hc]
theorem writ_kind (s : Str) : writ s = .non ∨ ∃ n, writ s = .int n := by
  unfold writ
  split
  · split
    · exact .inr ⟨_, rfl⟩
    · exact .inl rfl
  · exact .inl rfl
theorem v_page (s : Str) (hs : s.length ≤ 400) (lo hi : Int) (L : LS) : m_l_page_right K a [.d (.str s), .d (.int lo), .d (.int hi)] L = .ok (.d (.bl true)) L := by
  have h1 := v_written (K := K) (a := a) s hs L
  have h2 := v_is_name (K := K) (a := a) s (by omega) L
  have h3 := v_number_of (K := K) (a := a) s hs lo hi L
  have h4 := v_is_integer (K := K) (a := a) (pn_str s) L
  have h5 := v_is_amount (K := K) (a := a) (pn_str s) L
  simp only [isI, amount] at h4 h5
  obtain ⟨p, ep, hp⟩ := writ_small s hs lo hi
  obtain ⟨z, ez⟩ := repr_sm (xs := [.bl (nameB s), insd (writ s) lo hi, .bl false, .bl false]) (ps := [.bool (nameB s), p, .bool false, .bool false]) (by simp [toPyL, toPy, ep]) (by
    intro q hq
    simp at hq
    rcases hq with rfl | rfl | rfl
    · trivial
    · exact hp
    · trivial) (by simp)
  have e1 := fun st h0 h0' hl => str_ev st s hs h0 h0' hl L
  have e2 := fun st h1 h2 h3 => ins_ev st (writ s) (writ_kind s) lo hi h1 h2 h3 L
  have e3 := fun st h0 h4 => fine_ev st s hs h0 h4 L
  generalize insd (writ s) lo hi = x at *
  generalize writ s = w at *
  generalize nameB s = nm at *
  generalize ((lt s).filter fun c => !azs c).map sgn = res at *
  have e1' := e1 [some (.d (.str s)), some (.d (.int lo)), some (.d (.int hi)), some (.d w), none, none, none, none, none] rfl rfl (by simp [wipeS])
  have e2' := e2 [some (.d (.str s)), some (.d (.int lo)), some (.d (.int hi)), some (.d w), some (.d (.lst res)), some (.d (.lst [.bl nm, x, .bl false, .bl false])), none, none, none] rfl rfl rfl
  have e3' := e3 [some (.d (.str s)), some (.d (.int lo)), some (.d (.int hi)), some (.d w), some (.d (.lst res)), some (.d (.lst [.bl nm, x, .bl false, .bl false])), some (.d x), none, none] rfl rfl
  simp [page_eq, Rs.bind, opt, LO.rd, rdU, fzU, eVar, eC, op2, op1, eBin, eUn, eCmp, bop2, bCmp, eChain, bChain, trU, bTru, eAnd, eOr, eNot, bAnd, bOr, bNot, eIf, rdUs, fzUs, aNil, aCons, eLst, eTup, eLstL, opn, eFn, oNone, oSome, eSl, eJoin, Rt.andThen, ofR, optS, sNil, sSeq, sDrop, sRet, sIf, sSet, sPar, tfName, tfNil, tfCons, tfTup, sAsg, sSub, outR, fnF, cPos, cBoth, Sr.get, arrU, eCall, iSeq, iRng1, iRng2, sFor, eComp, tYesF, eMake, mkF, eRest, sFld, eFnU, boolU, truG, sBrk, sCnt, sRetN, eDic0, eDic, dPairs, keyU, bD, big, h1, h2, h3, h4, h5, e1', e2', e3', ez, eq_str, take_len]
/-! ### papers -/
theorem v_moved (x : D) (L : LS) : m_Moved_init K a [.l L.length, .d x] (L ++ [.i a.c_Moved [] []]) = .ok (.d .non) (L ++ [.i a.c_Moved ["moves"] [x]]) := by
  simp [m_Moved_init, Rs.bind, opt, LO.rd, rdU, fzU, eVar, eC, op2, op1, eBin, eUn, eCmp, bop2, bCmp, eChain, bChain, trU, bTru, eAnd, eOr, eNot, bAnd, bOr, bNot, eIf, rdUs, fzUs, aNil, aCons, eLst, eTup, eLstL, opn, eFn, oNone, oSome, eSl, eJoin, Rt.andThen, ofR, optS, sNil, sSeq, sDrop, sRet, sIf, sSet, sPar, tfName, tfNil, tfCons, tfTup, sAsg, sSub, outR, fnF, cPos, cBoth, Sr.get, arrU, eCall, iSeq, iRng1, iRng2, sFor, eComp, tYesF, eMake, mkF, eRest, sFld, eFnU, boolU, truG, sBrk, sCnt, sRetN, eDic0, eDic, dPairs, keyU, bD, big, putFld, putN, List.getElem?_append_right]
  have h : (L ++ [LO.i a.c_Moved [Str.ofString "moves"] [x]]).length = L.length + 1 := by simp
  rw [← h, List.take_length]
theorem v_lacking (x y : D) (L : LS) : m_Lacking_init K a [.l L.length, .d x, .d y] (L ++ [.i a.c_Lacking [] []]) = .ok (.d .non) (L ++ [.i a.c_Lacking ["i", "j"] [x, y]]) := by
  have hne : ¬ (Str.ofString "i" = Str.ofString "j") := by decide +kernel
  simp [m_Lacking_init, Rs.bind, opt, LO.rd, rdU, fzU, eVar, eC, op2, op1, eBin, eUn, eCmp, bop2, bCmp, eChain, bChain, trU, bTru, eAnd, eOr, eNot, bAnd, bOr, bNot, eIf, rdUs, fzUs, aNil, aCons, eLst, eTup, eLstL, opn, eFn, oNone, oSome, eSl, eJoin, Rt.andThen, ofR, optS, sNil, sSeq, sDrop, sRet, sIf, sSet, sPar, tfName, tfNil, tfCons, tfTup, sAsg, sSub, outR, fnF, cPos, cBoth, Sr.get, arrU, eCall, iSeq, iRng1, iRng2, sFor, eComp, tYesF, eMake, mkF, eRest, sFld, eFnU, boolU, truG, sBrk, sCnt, sRetN, eDic0, eDic, dPairs, keyU, bD, big, putFld, putN, List.getElem?_append_right, hne]
  have h : (L ++ [LO.i a.c_Lacking [Str.ofString "i", Str.ofString "j"] [x, y]]).length = L.length + 1 := by simp
  rw [← h, List.take_length]
theorem v_denial (u : U) (L : LS) : m_Denial_bool K a [u] L = .ok (.d (.bl false)) L := by
  simp [m_Denial_bool, Rs.bind, opt, LO.rd, rdU, fzU, eVar, eC, op2, op1, eBin, eUn, eCmp, bop2, bCmp, eChain, bChain, trU, bTru, eAnd, eOr, eNot, bAnd, bOr, bNot, eIf, rdUs, fzUs, aNil, aCons, eLst, eTup, eLstL, opn, eFn, oNone, oSome, eSl, eJoin, Rt.andThen, ofR, optS, sNil, sSeq, sDrop, sRet, sIf, sSet, sPar, tfName, tfNil, tfCons, tfTup, sAsg, sSub, outR, fnF, cPos, cBoth, Sr.get, arrU, eCall, iSeq, iRng1, iRng2, sFor, eComp, tYesF, eMake, mkF, eRest, sFld, eFnU, boolU, truG, sBrk, sCnt, sRetN, eDic0, eDic, dPairs, keyU, bD, big, take_len]
theorem v_papers (T : Tp K mg a) (x y : D) (L : LS) : m_l_papers_right K a [.d x, .d y] L = .ok (.d (.bl true)) L := by
  have h1 := v_moved (K := K) (a := a) x L
  have h2 := v_lacking (K := K) (a := a) x y L
  have n1 : ¬ a.c_Lacking = a.c_Moved := fun z => by
    have p := T.mb_Lacking.at_
    rw [z, T.nb_Moved.1] at p; cases p
  have n2 : ¬ a.c_Lacking = a.c_Paper := fun z => by
    have p := T.mb_Lacking.at_
    rw [z, T.nb_Paper.1] at p; cases p
  have tl : ∃ m, (tb_bool K a).lookup a.c_Lacking = some m ∧ ∀ u, m [u] L = .ok (.d (.bl false)) L := by
    unfold tb_bool
    by_cases q : (a.c_Lacking == a.c_Denial) = true
    · exact ⟨_, by rw [List.lookup_cons, q], fun u => by simp [arrU, Sr.get, opt, v_denial]⟩
    · exact ⟨_, by rw [List.lookup_cons, Bool.eq_false_iff.mpr q, List.lookup_cons, beq_self_eq_true], fun u => by simp [arrU, Sr.get, opt, v_denial]⟩
  obtain ⟨m, tl, tm⟩ := tl
  have i1 : ∀ {b}, PySem.W.kitOne K (.ref a.c_Moved) (.ref a.c_Paper) = some b → isiD K [.ins a.c_Moved ["moves"] [x], .obj a.c_Paper] = some (.bl b) := fun h => by simp [isiD, tyD, clsD, h]
  have i2 : ∀ {b}, PySem.W.kitOne K (.ref a.c_Moved) (.ref a.c_Denial) = some b → isiD K [.ins a.c_Moved ["moves"] [x], .obj a.c_Denial] = some (.bl b) := fun h => by simp [isiD, tyD, clsD, h]
  have i3 : ∀ {b}, PySem.W.kitOne K (.ref a.c_Moved) (.ref a.c_Lacking) = some b → isiD K [.ins a.c_Moved ["moves"] [x], .obj a.c_Lacking] = some (.bl b) := fun h => by simp [isiD, tyD, clsD, h]
  have i4 : ∀ {b}, PySem.W.kitOne K (.ref a.c_Lacking) (.ref a.c_Paper) = some b → isiD K [.ins a.c_Lacking ["i", "j"] [x, y], .obj a.c_Paper] = some (.bl b) := fun h => by simp [isiD, tyD, clsD, h]
  have i5 : ∀ {b}, PySem.W.kitOne K (.ref a.c_Lacking) (.ref a.c_Denial) = some b → isiD K [.ins a.c_Lacking ["i", "j"] [x, y], .obj a.c_Denial] = some (.bl b) := fun h => by simp [isiD, tyD, clsD, h]
  have i6 : ∀ {b}, PySem.W.kitOne K (.ref a.c_Lacking) (.ref a.c_Moved) = some b → isiD K [.ins a.c_Lacking ["i", "j"] [x, y], .obj a.c_Moved] = some (.bl b) := fun h => by simp [isiD, tyD, clsD, h]
  have j1 := i1 T.isi_Moved_Paper
  have j2 := i2 T.isi_Moved_Denial
  have j3 := i3 T.isi_Moved_Lacking
  have j4 := i4 T.isi_Lacking_Paper
  have j5 := i5 T.isi_Lacking_Denial
  have j6 := i6 T.isi_Lacking_Moved
  have m1 : a.c_Moved ∈ no_bool a := by simp [no_bool]
  have m2 : ¬ a.c_Lacking ∈ no_bool a := by simp [no_bool, n1, n2]
  have ad : addD (.lst [.bl true, .bl false, .bl false, .bl true]) (.lst [.bl true, .bl true, .bl false, .bl false]) = some (.lst [.bl true, .bl false, .bl false, .bl true, .bl true, .bl true, .bl false, .bl false]) := rfl
  have eqq : eqB (.lst [.bl true, .bl false, .bl false, .bl true, .bl true, .bl true, .bl false, .bl false]) (.lst [.bl true, .bl false, .bl false, .bl true, .bl true, .bl true, .bl false, .bl false]) = some true := rfl
  have g1 : ∀ lo : LO, (L ++ [lo])[L.length]? = some lo := fun lo => by simp
  simp [m_l_papers_right, Rs.bind, opt, LO.rd, rdU, fzU, eVar, eC, op2, op1, eBin, eUn, eCmp, bop2, bCmp, eChain, bChain, trU, bTru, eAnd, eOr, eNot, bAnd, bOr, bNot, eIf, rdUs, fzUs, aNil, aCons, eLst, eTup, eLstL, opn, eFn, oNone, oSome, eSl, eJoin, Rt.andThen, ofR, optS, sNil, sSeq, sDrop, sRet, sIf, sSet, sPar, tfName, tfNil, tfCons, tfTup, sAsg, sSub, outR, fnF, cPos, cBoth, Sr.get, arrU, eCall, iSeq, iRng1, iRng2, sFor, eComp, tYesF, eMake, mkF, eRest, sFld, eFnU, boolU, truG, sBrk, sCnt, sRetN, eDic0, eDic, dPairs, keyU, bD, big, h1, h2, take_len, List.getElem?_append_right, j1, j2, j3, j4, j5, j6, m1, m2, tl, tm, ad, eqq]
end
end VL.P

set_option Elab.async false
set_option linter.all false
set_option maxRecDepth 100000
set_option maxHeartbeats 4000000
namespace VL.P
open PySem PySem.Spec PyProof.Rows L2 VL
open PySem.W (Frag)
section
variable {K : Frag} {mg : Str → Option Value} {a : Ad}
theorem Pen.tk {n : Nat} {L : LS} (p : Pen n L) : List.take 1 L = L := by rw [← p.len]; exact List.take_length
def things (N : Int) : List D := [.non, .bl true, .bl false, .int 0, .int 1, .int (-1), .int 60,   .int N, .str "0", .str "1", .str "a", .tup [], .tup [.int 1], .tup [.str "a"], .lst [], .lst [.int 0], .lst [.str "a"], .dic [] [], .dic [.inl 1] [.int 2]]
theorem v_thing {n : Nat} (hn : n < 2 ^ 20) {L : LS} (p : Pen n L) : ∃ x L', m_l_thing K a [.l 0] L = .ok (.d x) L' ∧ Pn x ∧ Pen (n + 1) L' := by
  obtain ⟨N, pw⟩ : ∃ N, powD (.int 10) (.int 39) = some (.int N) := ⟨10 ^ 39, by
    simp only [powD]
    rw [if_pos ⟨by decide, by decide, by decide⟩]
    rfl⟩
  obtain ⟨x, L', e, hx, p'⟩ := pick_pk (K := K) (a := a) (xs := things N) hn p (by simp [things]) (by simp [things])
  have e1 := p.len
  have e2 := p'.len
  have t1 := Pen.tk p'
  have t0 := Pen.tk p
  have dd : eDic [(eC (.int 1), eC (.int 2))] [some (.l 0), none] L = .ok (.d (.dic [.inl 1] [.int 2])) L := rfl
  have hx' : Pn x := by
    unfold things at hx
    simp only [List.mem_cons, List.not_mem_nil, or_false] at hx
    rcases hx with rfl | rfl | rfl | rfl | rfl | rfl | rfl | rfl | rfl | rfl | rfl | rfl | rfl | rfl | rfl | rfl | rfl | rfl | rfl <;> rfl
  refine ⟨x, L', ?_, hx', p'⟩
  unfold things at e
  simp only [m_l_thing, fnF]
  simp [Rs.bind, opt, LO.rd, rdU, fzU, eVar, eC, op2, op1, eBin, eUn, eCmp, bop2, bCmp, eChain, bChain, trU, bTru, eAnd, eOr, eNot, bAnd, bOr, bNot, eIf, rdUs, fzUs, aNil, aCons, eLst, eTup, eLstL, opn, eFn, oNone, oSome, eSl, eJoin, Rt.andThen, ofR, optS, sNil, sSeq, sDrop, sRet, sIf, sSet, sPar, tfName, tfNil, tfCons, tfTup, sAsg, sSub, outR, fnF, cPos, cBoth, Sr.get, arrU, eCall, iSeq, iRng1, iRng2, sFor, eComp, tYesF, eMake, mkF, eRest, sFld, eFnU, boolU, truG, sBrk, sCnt, sRetN, eDic0, bD, big, negD, pw, dd, e, e1, t1]
theorem sl_lo (z : Str) (r : Int) (h : z.length ≤ 16777216) : sliceD (.str z) none (some r) = some (.str (cutS z none (some r))) := by simp [sliceD, big, h]
theorem sl_hi (z : Str) (r : Int) (h : z.length ≤ 16777216) : sliceD (.str z) (some r) none = some (.str (cutS z (some r) none)) := by simp [sliceD, big, h]
theorem add_s (x y : Str) (h : x.length + y.length ≤ 16777216) : addD (.str x) (.str y) = some (.str (x ++ y)) := by simp [addD, big, h]
/-- a text, a sign put in -/
theorem put_in (z w : Str) (r : Int) (hz : z.length ≤ 100) (hw : w.length ≤ 10) : ∃ s : Str, s.length ≤ 400 ∧ addD (.str (cutS z none (some r))) (.str w) = some (.str (cutS z none (some r) ++ w)) ∧ addD (.str (cutS z none (some r) ++ w)) (.str (cutS z (some r) none)) = some (.str s) := by
  have h1 := cutS_length z none (some r)
  have h2 := cutS_length z (some r) none
  refine ⟨cutS z none (some r) ++ w ++ cutS z (some r) none, ?_, add_s _ _ (by omega), add_s _ _ ?_⟩
  · simp only [Str.length_append]; omega
  · simp only [Str.length_append]; omega
def Sh (d : D) : Prop := ∃ w : Str, d = .str w ∧ w.length ≤ 10
theorem v_figures {n : Nat} (hn : n + 10 < 2 ^ 20) {L : LS} (p : Pen n L) : ∃ s L', m_l_figures K a [.l 0] L = .ok (.d (.str s)) L' ∧ s.length ≤ 400 ∧ Pen (n + 10) L' := by
  obtain ⟨N, pw, hN⟩ : ∃ N : Int, powD (.int 10) (.int 29) = some (.int N) ∧ N.natAbs < 10 ^ 40 := ⟨10 ^ 29, by
    simp only [powD]
    rw [if_pos ⟨by decide, by decide, by decide⟩]
    rfl, by decide⟩
  obtain ⟨r1, L1, e1, h1, h1', p1⟩ := draw_dr (K := K) (a := a) (many := 5000) (by omega) p (by decide) (by decide)
  obtain ⟨x, L2, e2, hx, p2⟩ := pick_pk (K := K) (a := a) (xs := [.int 0, .int 7, .int (-7), .int 10, .int 999, .int N, .int (-N), .int r1]) (by omega) p1 (by simp) (by simp)
  obtain ⟨i, rfl, hi⟩ : ∃ i : Int, x = .int i ∧ i.natAbs < 10 ^ 40 := by
    simp only [List.mem_cons, List.not_mem_nil, or_false] at hx
    rcases hx with rfl | rfl | rfl | rfl | rfl | rfl | rfl | rfl
    · exact ⟨_, rfl, by decide⟩
    · exact ⟨_, rfl, by decide⟩
    · exact ⟨_, rfl, by decide⟩
    · exact ⟨_, rfl, by decide⟩
    · exact ⟨_, rfl, by decide⟩
    · exact ⟨_, rfl, hN⟩
    · exact ⟨_, rfl, by rw [Int.natAbs_neg]; exact hN⟩
    · refine ⟨_, rfl, ?_⟩
      have : r1.natAbs < 5000 := by omega
      exact Nat.lt_trans this (by decide)
  obtain ⟨z, es, hz⟩ : ∃ z : Str, strD [.int i] = some (.str z) ∧ z.length ≤ 100 := by
    refine ⟨Str.ofString (toString i), by simp [strD, log_small hi (by decide)], ?_⟩
    have := int_text_length_le10 (k := 40) (by decide) hi
    rw [PySem.ofString_length]; omega
  have hl := len_str z (by omega)
  obtain ⟨r3, L3, e3, h3, h3', p3⟩ := draw_dr (K := K) (a := a) (many := (z.length : Int) + 1) (by omega) p2 (by omega) (by omega)
  obtain ⟨y, L4, e4, hy, p4⟩ := pick_pk (K := K) (a := a) (xs := [.str "", .str "", .str "", .str "0", .str "-", .str "+", .str " ", .str ".", .str "/", .str "a", .str "_"]) (by omega) p3 (by simp) (by simp)
  obtain ⟨w, rfl, hw⟩ : Sh y := by
    have : ∀ y ∈ [D.str "", .str "", .str "", .str "0", .str "-", .str "+", .str " ", .str ".", .str "/", .str "a", .str "_"], Sh y := by
      intro y hy
      simp only [List.mem_cons, List.not_mem_nil, or_false] at hy
      rcases hy with rfl | rfl | rfl | rfl | rfl | rfl | rfl | rfl | rfl | rfl | rfl <;> exact ⟨_, rfl, by decide +kernel⟩
    exact this y hy
  obtain ⟨s, hs, a1, a2⟩ := put_in z w r3 hz hw
  have s1 := sl_lo z r3 (by omega)
  have s2 := sl_hi z r3 (by omega)
  have q0 := p.len
  refine ⟨s, L4, ?_, hs, p4.mono (by omega)⟩
  simp [m_l_figures, Rs.bind, opt, LO.rd, rdU, fzU, eVar, eC, op2, op1, eBin, eUn, eCmp, bop2, bCmp, eChain, bChain, trU, bTru, eAnd, eOr, eNot, bAnd, bOr, bNot, eIf, rdUs, fzUs, aNil, aCons, eLst, eTup, eLstL, opn, eFn, oNone, oSome, eSl, eJoin, Rt.andThen, ofR, optS, sNil, sSeq, sDrop, sRet, sIf, sSet, sPar, tfName, tfNil, tfCons, tfTup, sAsg, sSub, outR, fnF, cPos, cBoth, Sr.get, arrU, eCall, iSeq, iRng1, iRng2, sFor, eComp, tYesF, eMake, mkF, eRest, sFld, eFnU, boolU, truG, sBrk, sCnt, sRetN, eDic0, eDic, dPairs, keyU, bD, big, negD, pw, e1, e2, es, hl, add_i, e3, s1, e4, a1, s2, a2, q0, Pen.tk p4]
def fJoin (K : Frag) (a : Ad) : EF := eJoin (eC (.str "")) (eComp (iRng1 (aCons (eCall (m_l_draw K a) [.p 0, .p 1] 2 0 (cPos (aCons (eVar 0) (aCons (eC (.int 10)) aNil)))) aNil)) [3] (tfName 3) tYesF (eCall (m_l_pick K a) [.p 0, .p 1] 2 0 (cPos (aCons (eVar 0) (aCons (eLst (aCons (eC (.str "a")) (aCons (eC (.str "e")) (aCons (eC (.str "k")) (aCons (eC (.str "q")) (aCons (eC (.str "z")) aNil)))))) aNil)))))
theorem letters_eq : m_l_letters K a = fnF 1 4 (sSeq (sIf (bCmp eqB (eCall (m_l_draw K a) [.p 0, .p 1] 2 0 (cPos (aCons (eVar 0) (aCons (eC (.int 8)) aNil)))) (eC (.int 0))) (sRet (eCall (m_l_pick K a) [.p 0, .p 1] 2 0 (cPos (aCons (eVar 0) (aCons (eLst (aCons (eC (.str "self")) (aCons (eC (.str "none")) (aCons (eC (.str "in")) (aCons (eC (.str "abcdefgh")) (aCons (eC (.str "abcdefghi")) (aCons (eC (.str "Self")) (aCons (eC (.str "selfs")) aNil)))))))) aNil))))) sNil) (sSeq (sSet 1 (fJoin K a)) (sSeq (sSet 2 (eCall (m_l_draw K a) [.p 0, .p 1] 2 0 (cPos (aCons (eVar 0) (aCons (eBin addD (eFn lenD (aCons (eVar 1) aNil)) (eC (.int 1))) aNil))))) (sRet (eBin addD (eBin addD (eSl (eVar 1) oNone (oSome (eVar 2))) (eCall (m_l_pick K a) [.p 0, .p 1] 2 0 (cPos (aCons (eVar 0) (aCons (eLst (aCons (eC (.str "")) (aCons (eC (.str "")) (aCons (eC (.str "")) (aCons (eC (.str "A")) (aCons (eC (.str "1")) (aCons (eC (.str " ")) (aCons (eC (.str "-")) (aCons (eC (.str "_")) (aCons (eC (.str "~")) (aCons (eC (.str "\n")) aNil))))))))))) aNil))))) (eSl (eVar 1) (oSome (eVar 2)) oNone)))))) := rfl
theorem strs_of : ∀ {ys : List D}, (∀ y ∈ ys, Sh y) → ∃ ts : List Str, strsD ys = some ts ∧ ts.length = ys.length ∧ (ts.map (·.length)).sum ≤ 10 * ys.length
  | [], _ => ⟨[], rfl, rfl, by simp⟩
  | y :: ys, h => by
    obtain ⟨w, rfl, hw⟩ := h y (.head _)
    obtain ⟨ts, e, hl, hs⟩ := strs_of (ys := ys) fun z hz => h z (.tail _ hz)
    refine ⟨w :: ts, by simp [strsD, e], by simp [hl], ?_⟩
    simp only [List.map_cons, List.sum_cons, List.length_cons]
    omega
theorem eq_ints (i j : Int) : eqB (.int i) (.int j) = some (i == j) := by simp [eqB, toPy, PyData.depth, PyData.eqv]
theorem join_ev {n : Nat} (hn : n + 20 < 2 ^ 20) {L : LS} (p : Pen n L) : ∃ z L', fJoin K a [some (.l 0), none, none, none] L = .ok (.d (.str z)) L' ∧ z.length ≤ 100 ∧ Pen (n + 12) L' := by
  obtain ⟨r1, L1, e1, h1, h1', p1⟩ := draw_dr (K := K) (a := a) (many := 10) (by omega) p (by decide) (by decide)
  have hr : r1.toNat < 10 := by omega
  have hlen : (rngD 0 r1.toNat).length = r1.toNat := by simp [rngD]
  obtain ⟨ys, L2, e2, hl, hR, p2⟩ := compF_inv (tf := tfName 3) (fe := eCall (m_l_pick K a) [.p 0, .p 1] 2 0 (cPos (aCons (eVar 0) (aCons (eLst (aCons (eC (.str "a")) (aCons (eC (.str "e")) (aCons (eC (.str "k")) (aCons (eC (.str "q")) (aCons (eC (.str "z")) aNil)))))) aNil)))) (st := [some (.l 0), none, none, none]) (fun j L => Pen (n + 1 + j) L) Sh (rngD 0 r1.toNat) [] 0 L1 p1 (by
    intro j L hj1 hj2 pj d hd
    obtain ⟨y, L4, e4, hy, p4⟩ := pick_pk (K := K) (a := a) (xs := [.str "a", .str "e", .str "k", .str "q", .str "z"]) (by omega) pj (by simp) (by simp)
    have hy : Sh y := by
      simp only [List.mem_cons, List.not_mem_nil, or_false] at hy
      rcases hy with rfl | rfl | rfl | rfl | rfl <;> exact ⟨_, rfl, by decide +kernel⟩
    exact ⟨[some (.l 0), none, none, some (.d d)], y, L4, rfl, by simp [Rs.bind, opt, LO.rd, rdU, fzU, eVar, eC, op2, op1, eBin, eUn, eCmp, bop2, bCmp, eChain, bChain, trU, bTru, eAnd, eOr, eNot, bAnd, bOr, bNot, eIf, rdUs, fzUs, aNil, aCons, eLst, eTup, eLstL, opn, eFn, oNone, oSome, eSl, eJoin, Rt.andThen, ofR, optS, sNil, sSeq, sDrop, sRet, sIf, sSet, sPar, tfName, tfNil, tfCons, tfTup, sAsg, sSub, outR, fnF, cPos, cBoth, Sr.get, arrU, eCall, iSeq, iRng1, iRng2, sFor, eComp, tYesF, eMake, mkF, eRest, sFld, eFnU, boolU, truG, sBrk, sCnt, sRetN, eDic0, eDic, dPairs, keyU, bD, big, e4], hy, p4⟩) (by rw [hlen]; simp; omega)
  obtain ⟨ts, e3, hl3, hs3⟩ := strs_of hR
  have e0 : Str.length "" = 0 := by decide +kernel
  rw [hlen] at hl p2
  have jd : joinD (.str "") (.lst ys) = some (.str (Txt.join "" ts)) := by
    simp only [joinD, e3, Option.bind_some, e0, Nat.mul_zero, Nat.add_zero]
    rw [if_pos (by omega)]
  refine ⟨Txt.join "" ts, L2, ?_, ?_, p2.mono (by omega)⟩
  · have hin : inRng r1 = true := by
      simp only [inRng, Bool.and_eq_true, decide_eq_true_eq]
      omega
    have hw : wipeS [some (U.l 0), none, none, none] [3] = [some (.l 0), none, none, none] := rfl
    simp only [List.nil_append] at e2
    generalize hfe : (eCall (m_l_pick K a) [.p 0, .p 1] 2 0 (cPos (aCons (eVar 0) (aCons (eLst (aCons (eC (.str "a")) (aCons (eC (.str "e")) (aCons (eC (.str "k")) (aCons (eC (.str "q")) (aCons (eC (.str "z")) aNil)))))) aNil)))) = fe at e2
    unfold fJoin
    rw [hfe]
    simp [Rs.bind, opt, LO.rd, rdU, fzU, eVar, eC, op2, op1, eBin, eUn, eCmp, bop2, bCmp, eChain, bChain, trU, bTru, eAnd, eOr, eNot, bAnd, bOr, bNot, eIf, rdUs, fzUs, aNil, aCons, eLst, eTup, eLstL, opn, eFn, oNone, oSome, eSl, eJoin, Rt.andThen, ofR, optS, sNil, sSeq, sDrop, sRet, sIf, sSet, sPar, tfName, tfNil, tfCons, tfTup, sAsg, sSub, outR, fnF, cPos, cBoth, Sr.get, arrU, eCall, iSeq, iRng1, iRng2, sFor, eComp, tYesF, eMake, mkF, eRest, sFld, eFnU, boolU, truG, sBrk, sCnt, sRetN, eDic0, eDic, dPairs, keyU, bD, big, e1, hin, hw, e2, jd]
  · unfold Txt.join
    rw [PySem.StrLaws.glued_eq_join]
    have := PySem.StrLaws.join_length_le "" ts
    rw [e0] at this
    omega
theorem v_letters {n : Nat} (hn : n + 40 < 2 ^ 20) {L : LS} (p : Pen n L) : ∃ s L', m_l_letters K a [.l 0] L = .ok (.d (.str s)) L' ∧ s.length ≤ 400 ∧ Pen (n + 16) L' := by
  obtain ⟨r1, L1, e1, h1, h1', p1⟩ := draw_dr (K := K) (a := a) (many := 8) (by omega) p (by decide) (by decide)
  have q0 := p.len
  by_cases hr : r1 = 0
  · obtain ⟨x, L2, e2, hx, p2⟩ := pick_pk (K := K) (a := a) (xs := [.str "self", .str "none", .str "in", .str "abcdefgh", .str "abcdefghi", .str "Self", .str "selfs"]) (by omega) p1 (by simp) (by simp)
    obtain ⟨w, rfl, hw⟩ : Sh x := by
      simp only [List.mem_cons, List.not_mem_nil, or_false] at hx
      rcases hx with rfl | rfl | rfl | rfl | rfl | rfl | rfl <;> exact ⟨_, rfl, by decide +kernel⟩
    refine ⟨w, L2, ?_, by omega, p2.mono (by omega)⟩
    simp [letters_eq, Rs.bind, opt, LO.rd, rdU, fzU, eVar, eC, op2, op1, eBin, eUn, eCmp, bop2, bCmp, eChain, bChain, trU, bTru, eAnd, eOr, eNot, bAnd, bOr, bNot, eIf, rdUs, fzUs, aNil, aCons, eLst, eTup, eLstL, opn, eFn, oNone, oSome, eSl, eJoin, Rt.andThen, ofR, optS, sNil, sSeq, sDrop, sRet, sIf, sSet, sPar, tfName, tfNil, tfCons, tfTup, sAsg, sSub, outR, fnF, cPos, cBoth, Sr.get, arrU, eCall, iSeq, iRng1, iRng2, sFor, eComp, tYesF, eMake, mkF, eRest, sFld, eFnU, boolU, truG, sBrk, sCnt, sRetN, eDic0, eDic, dPairs, keyU, bD, big, e1, eq_ints, hr, e2, q0, Pen.tk p2]
  · obtain ⟨z, L2, e2, hz, p2⟩ := join_ev (K := K) (a := a) (by omega) p1
    have hl := len_str z (by omega)
    obtain ⟨r3, L3, e3, h3, h3', p3⟩ := draw_dr (K := K) (a := a) (many := (z.length : Int) + 1) (by omega) p2 (by omega) (by omega)
    obtain ⟨y, L4, e4, hy, p4⟩ := pick_pk (K := K) (a := a) (xs := [.str "", .str "", .str "", .str "A", .str "1", .str " ", .str "-", .str "_", .str "~", .str "\n"]) (by omega) p3 (by simp) (by simp)
    obtain ⟨w, rfl, hw⟩ : Sh y := by
      simp only [List.mem_cons, List.not_mem_nil, or_false] at hy
      rcases hy with rfl | rfl | rfl | rfl | rfl | rfl | rfl | rfl | rfl | rfl <;> exact ⟨_, rfl, by decide +kernel⟩
    obtain ⟨s, hs, a1, a2⟩ := put_in z w r3 hz hw
    have s1 := sl_lo z r3 (by omega)
    have s2 := sl_hi z r3 (by omega)
    refine ⟨s, L4, ?_, hs, p4.mono (by omega)⟩
    have hr' : (r1 == 0) = false := beq_eq_false_iff_ne.mpr hr
    simp [letters_eq, Rs.bind, opt, LO.rd, rdU, fzU, eVar, eC, op2, op1, eBin, eUn, eCmp, bop2, bCmp, eChain, bChain, trU, bTru, eAnd, eOr, eNot, bAnd, bOr, bNot, eIf, rdUs, fzUs, aNil, aCons, eLst, eTup, eLstL, opn, eFn, oNone, oSome, eSl, eJoin, Rt.andThen, ofR, optS, sNil, sSeq, sDrop, sRet, sIf, sSet, sPar, tfName, tfNil, tfCons, tfTup, sAsg, sSub, outR, fnF, cPos, cBoth, Sr.get, arrU, eCall, iSeq, iRng1, iRng2, sFor, eComp, tYesF, eMake, mkF, eRest, sFld, eFnU, boolU, truG, sBrk, sCnt, sRetN, eDic0, eDic, dPairs, keyU, bD, big, e1, eq_ints, hr, hr', e2, hl, add_i, e3, s1, e4, a1, s2, a2, q0, Pen.tk p4]
end
end VL.P

set_option Elab.async false
set_option linter.all false
set_option maxRecDepth 100000
set_option maxHeartbeats 4000000
namespace VL.P
open PySem PySem.Spec PyProof.Rows L2 VL
open PySem.W (Frag)
section
variable {K : Frag} {mg : Str → Option Value} {a : Ad}
def lastB (K : Frag) (a : Ad) : SF := sIf (bAnd (bNot (bTru (eFn (isiD K) (aCons (eVar 5) (aCons (eC (.ty "str")) aNil))))) (bCmp neB (eFn reprD (aCons (eLst (aCons (eCall (m_is_name K a) [.p 0] 1 0 (cPos (aCons (eVar 5) aNil))) (aCons (eCall (m_number_of K a) [.p 0, .p 1, .p 2] 3 0 (cPos (aCons (eVar 5) (aCons (eVar 3) (aCons (eVar 4) aNil))))) aNil))) aNil)) (eFn reprD (aCons (eLst (aCons (eC (.bl false)) (aCons (eC .non) aNil))) aNil)))) (sRet (eC (.bl false))) sNil
def turnB (K : Frag) (a : Ad) : SF := sSeq (sSet 3 (eCall (m_l_pick K a) [.p 0, .p 1] 2 0 (cPos (aCons (eVar 1) (aCons (eLst (aCons (eUn negD (eBin powD (eC (.int 10)) (eC (.int 29)))) (aCons (eUn negD (eC (.int 7))) (aCons (eUn negD (eC (.int 1))) (aCons (eC (.int 0)) (aCons (eC (.int 1)) (aCons (eC (.int 10)) aNil))))))) aNil))))) (sSeq (sSet 4 (eBin addD (eVar 3) (eCall (m_l_pick K a) [.p 0, .p 1] 2 0 (cPos (aCons (eVar 1) (aCons (eLst (aCons (eUn negD (eC (.int 1))) (aCons (eC (.int 0)) (aCons (eC (.int 1)) (aCons (eC (.int 5000)) (aCons (eBin powD (eC (.int 10)) (eC (.int 30))) aNil)))))) aNil)))))) (sSeq (sSet 5 (eCall (m_l_thing K a) [.p 0] 1 0 (cPos (aCons (eVar 1) aNil)))) (sSeq (sIf (bOr (bNot (bTru (eCall (m_l_right K a) [.p 0, .p 1, .p 2] 3 0 (cPos (aCons (eVar 5) (aCons (eVar 3) (aCons (eVar 4) aNil))))))) (bOr (bNot (bTru (eCall (m_l_right K a) [.p 0, .p 1, .p 2] 3 0 (cPos (aCons (eVar 3) (aCons (eVar 3) (aCons (eVar 4) aNil))))))) (bNot (bTru (eCall (m_l_right K a) [.p 0, .p 1, .p 2] 3 0 (cPos (aCons (eVar 4) (aCons (eVar 3) (aCons (eVar 4) aNil))))))))) (sRet (eC (.bl false))) sNil) (sSeq (sIf (bOr (bNot (bTru (eCall (m_l_page_right K a) [.p 0, .p 1, .p 2] 3 0 (cPos (aCons (eCall (m_l_letters K a) [.p 0] 1 0 (cPos (aCons (eVar 1) aNil))) (aCons (eVar 3) (aCons (eVar 4) aNil))))))) (bNot (bTru (eCall (m_l_page_right K a) [.p 0, .p 1, .p 2] 3 0 (cPos (aCons (eCall (m_l_figures K a) [.p 0] 1 0 (cPos (aCons (eVar 1) aNil))) (aCons (eVar 3) (aCons (eVar 4) aNil)))))))) (sRet (eC (.bl false))) sNil) (sSeq (sIf (bNot (bTru (eCall (m_l_papers_right K a) [.p 0, .p 1] 2 0 (cPos (aCons (eVar 5) (aCons (eVar 3) aNil)))))) (sRet (eC (.bl false))) sNil) (lastB K a))))))
def tailG (K : Frag) (a : Ad) (f9 f10 : EF) : SF := sSeq (sSet 6 (eLst (aCons (eCall (m_is_integer K a) [.k 0] 0 1 (cBoth aNil (aCons (eC (.int 3)) aNil))) (aCons (eCall (m_is_name K a) [.k 0] 0 1 (cBoth aNil (aCons (eC (.str "abcdefgh")) aNil))) (aCons (eCall (m_is_within K a) [.k 0, .k 1, .k 2] 0 3 (cBoth aNil (aCons (eC (.int 5)) (aCons (eC (.int 5)) (aCons (eC (.int 5)) aNil))))) (aCons (eCall (m_is_amount K a) [.k 0] 0 1 (cBoth aNil (aCons (eC (.int 0)) aNil))) aNil)))))) (sSeq (sSet 6 (eBin addD (eVar 6) (eLst (aCons (eCall (m_number_of K a) [.k 0, .k 1, .k 2] 0 3 (cBoth aNil (aCons (eC (.str "-3")) (aCons (eUn negD (eC (.int 3))) (aCons (eC (.int 5)) aNil))))) (aCons (eCall (m_number_of K a) [.p 0, .p 1, .p 2] 3 0 (cPos (aCons f9 (aCons (eC (.int 0)) (aCons (eFn intL (aCons f10 aNil)) aNil))))) aNil))))) (sRet (eCmp eqB (eVar 6) (eLst (aCons (eC (.bl true)) (aCons (eC (.bl true)) (aCons (eC (.bl true)) (aCons (eC (.bl true)) (aCons (eUn negD (eC (.int 3))) (aCons (eFn intL (aCons f9 aNil)) aNil))))))))))
def tailB (K : Frag) (a : Ad) : SF := tailG K a (eBin smulD (eC (.str "9")) (eC (.int 900))) (eBin addD (eC (.str "1")) (eBin smulD (eC (.str "0")) (eC (.int 900))))
theorem law_eq : m_law K a = fnF 1 7 (sSeq (sSet 1 (eCall (m_l_pen K a) [.p 0] 1 0 (cPos (aCons (eVar 0) aNil)))) (sSeq (sFor (iRng1 (aCons (eC (.int 12)) aNil)) (tfName 2) (turnB K a)) (tailB K a))) := rfl
theorem v_pen (ns : List Int) : m_l_pen K a [.d (.scr ns)] [] = .ok (.l 0) (penL (cutG ns none (some 63)) 0 0) := by
  simp [m_l_pen, Rs.bind, opt, LO.rd, rdU, fzU, eVar, eC, op2, op1, eBin, eUn, eCmp, bop2, bCmp, eChain, bChain, trU, bTru, eAnd, eOr, eNot, bAnd, bOr, bNot, eIf, rdUs, fzUs, aNil, aCons, eLst, eTup, eLstL, opn, eFn, oNone, oSome, eSl, eJoin, Rt.andThen, ofR, optS, sNil, sSeq, sDrop, sRet, sIf, sSet, sPar, tfName, tfNil, tfCons, tfTup, sAsg, sSub, outR, fnF, cPos, cBoth, Sr.get, arrU, eCall, iSeq, iRng1, iRng2, sFor, eComp, tYesF, eMake, mkF, eRest, sFld, eFnU, boolU, truG, sBrk, sCnt, sRetN, eDic0, eDic, dPairs, keyU, bD, big, sliceD, listD, penL]
theorem repr2 : ∃ z, reprD [.lst [.bl false, .non]] = some (.str z) := ⟨_, rfl⟩
theorem ne_same (z : Str) : neB (.str z) (.str z) = some false := by rw [ne_strs]; simp
theorem last_ev {x : D} (hx : Pn x) (u0 u1 u2 u6 : Option U) (lo hi : Int) (L : LS) : lastB K a [u0, u1, u2, some (.d (.int lo)), some (.d (.int hi)), some (.d x), u6] L = .nx [u0, u1, u2, some (.d (.int lo)), some (.d (.int hi)), some (.d x), u6] L := by
  have h1 := isi_str (K := K) hx
  unfold lastB
  cases q : isS x with
  | true =>
    rw [q] at h1
    simp [Rs.bind, opt, LO.rd, rdU, fzU, eVar, eC, op2, op1, eBin, eUn, eCmp, bop2, bCmp, eChain, bChain, trU, bTru, eAnd, eOr, eNot, bAnd, bOr, bNot, eIf, rdUs, fzUs, aNil, aCons, eLst, eTup, eLstL, opn, eFn, oNone, oSome, eSl, eJoin, Rt.andThen, ofR, optS, sNil, sSeq, sDrop, sRet, sIf, sSet, sPar, tfName, tfNil, tfCons, tfTup, sAsg, sSub, outR, fnF, cPos, cBoth, Sr.get, arrU, eCall, iSeq, iRng1, iRng2, sFor, eComp, tYesF, eMake, mkF, eRest, sFld, eFnU, boolU, truG, sBrk, sCnt, sRetN, eDic0, eDic, dPairs, keyU, bD, big, h1, truB]
  | false =>
    rw [q] at h1
    have h2 := v_is_name_no (K := K) (a := a) hx q L
    have h3 := v_number_no (K := K) (a := a) hx q (.int lo) (.int hi) L
    obtain ⟨z, ez⟩ := repr2
    simp [Rs.bind, opt, LO.rd, rdU, fzU, eVar, eC, op2, op1, eBin, eUn, eCmp, bop2, bCmp, eChain, bChain, trU, bTru, eAnd, eOr, eNot, bAnd, bOr, bNot, eIf, rdUs, fzUs, aNil, aCons, eLst, eTup, eLstL, opn, eFn, oNone, oSome, eSl, eJoin, Rt.andThen, ofR, optS, sNil, sSeq, sDrop, sRet, sIf, sSet, sPar, tfName, tfNil, tfCons, tfTup, sAsg, sSub, outR, fnF, cPos, cBoth, Sr.get, arrU, eCall, iSeq, iRng1, iRng2, sFor, eComp, tYesF, eMake, mkF, eRest, sFld, eFnU, boolU, truG, sBrk, sCnt, sRetN, eDic0, eDic, dPairs, keyU, bD, big, h1, truB, h2, h3, ez, ne_same]
theorem turn_ev (T : Tp K mg a) {n : Nat} (hn : n + 100 < 2 ^ 20) {L : LS} (p : Pen n L) (u0 u2 u3 u4 u5 u6 : Option U) :
    ∃ v3 v4 v5 L', turnB K a [u0, some (.l 0), u2, u3, u4, u5, u6] L = .nx [u0, some (.l 0), u2, v3, v4, v5, u6] L' ∧ Pen (n + 60) L' := by
  obtain ⟨N, pw⟩ : ∃ N : Int, powD (.int 10) (.int 29) = some (.int N) := ⟨10 ^ 29, by
    simp only [powD]
    rw [if_pos ⟨by decide, by decide, by decide⟩]
    rfl⟩
  obtain ⟨M, pw2⟩ : ∃ N : Int, powD (.int 10) (.int 30) = some (.int N) := ⟨10 ^ 30, by
    simp only [powD]
    rw [if_pos ⟨by decide, by decide, by decide⟩]
    rfl⟩
  obtain ⟨x1, L1, e1, hx1, p1⟩ := pick_pk (K := K) (a := a) (xs := [.int (-N), .int (-7), .int (-1), .int 0, .int 1, .int 10]) (by omega) p (by simp) (by simp)
  obtain ⟨lo, rfl⟩ : ∃ lo, x1 = .int lo := by
    simp only [List.mem_cons, List.not_mem_nil, or_false] at hx1
    rcases hx1 with rfl | rfl | rfl | rfl | rfl | rfl <;> exact ⟨_, rfl⟩
  obtain ⟨x2, L2, e2, hx2, p2⟩ := pick_pk (K := K) (a := a) (xs := [.int (-1), .int 0, .int 1, .int 5000, .int M]) (by omega) p1 (by simp) (by simp)
  obtain ⟨di, rfl⟩ : ∃ lo, x2 = .int lo := by
    simp only [List.mem_cons, List.not_mem_nil, or_false] at hx2
    rcases hx2 with rfl | rfl | rfl | rfl | rfl <;> exact ⟨_, rfl⟩
  obtain ⟨x, L3, e3, hx, p3⟩ := v_thing (K := K) (a := a) (by omega) p2
  have r1 := v_right (K := K) (a := a) hx lo (lo + di) L3
  have r2 := v_right (K := K) (a := a) (x := .int lo) rfl lo (lo + di) L3
  have r3 := v_right (K := K) (a := a) (x := .int (lo + di)) rfl lo (lo + di) L3
  obtain ⟨s1, L4, e4, hs1, p4⟩ := v_letters (K := K) (a := a) (by omega) p3
  have r4 := v_page (K := K) (a := a) s1 hs1 lo (lo + di) L4
  obtain ⟨s2, L5, e5, hs2, p5⟩ := v_figures (K := K) (a := a) (by omega) p4
  have r5 := v_page (K := K) (a := a) s2 hs2 lo (lo + di) L5
  have r6 := v_papers T x (.int lo) L5
  have r7 := last_ev (K := K) (a := a) hx u0 (some (.l 0)) u2 u6 lo (lo + di) L5
  refine ⟨some (.d (.int lo)), some (.d (.int (lo + di))), some (.d x), L5, ?_, p5.mono (by omega)⟩
  simp [turnB, Rs.bind, opt, LO.rd, rdU, fzU, eVar, eC, op2, op1, eBin, eUn, eCmp, bop2, bCmp, eChain, bChain, trU, bTru, eAnd, eOr, eNot, bAnd, bOr, bNot, eIf, rdUs, fzUs, aNil, aCons, eLst, eTup, eLstL, opn, eFn, oNone, oSome, eSl, eJoin, Rt.andThen, ofR, optS, sNil, sSeq, sDrop, sRet, sIf, sSet, sPar, tfName, tfNil, tfCons, tfTup, sAsg, sSub, outR, fnF, cPos, cBoth, Sr.get, arrU, eCall, iSeq, iRng1, iRng2, sFor, eComp, tYesF, eMake, mkF, eRest, sFld, eFnU, boolU, truG, sBrk, sCnt, sRetN, eDic0, eDic, dPairs, keyU, bD, big, negD, pw, pw2, e1, e2, add_i, e3, r1, r2, r3, truB, e4, r4, e5, r5, r6, r7]
/-! ### the end: some words by name -/
@[irreducible] def nines : Str := repS "9" 900
@[irreducible] def zers : Str := repS "0" 900
@[irreducible] def tens : Str := "1" ++ zers
theorem lt_rep (x : Str) (n : Int) : (repS x n).cps.toList = (List.replicate n.toNat x.cps.toList).flatten := by
  have gen : ∀ (m : Nat) (acc : Array Nat), ((List.replicate m x.cps).foldl (· ++ ·) acc).toList = acc.toList ++ (List.replicate m x.cps.toList).flatten := by
    intro m
    induction m with
    | zero => intro acc; simp
    | succ m ih => intro acc; rw [List.replicate_succ, List.foldl_cons, ih]; simp [List.replicate_succ]
  have := gen n.toNat #[]
  simpa [repS] using this
theorem lt_nines : nines.cps.toList = List.replicate 900 57 := by
  unfold nines
  rw [lt_rep, show (Str.ofString "9").cps.toList = [57] by decide +kernel]
  exact List.flatten_replicate_singleton
theorem lt_zers : zers.cps.toList = List.replicate 900 48 := by
  unfold zers
  rw [lt_rep, show (Str.ofString "0").cps.toList = [48] by decide +kernel]
  exact List.flatten_replicate_singleton
theorem lt_tens : tens.cps.toList = 49 :: List.replicate 900 48 := by
  unfold tens
  rw [Str.cps_append, Array.toList_append, lt_zers, show (Str.ofString "1").cps.toList = [49] by decide +kernel]
  rfl
theorem len_nines : nines.length = 900 := by rw [len_lt]; show nines.cps.toList.length = 900; rw [lt_nines, List.length_replicate]
theorem len_zers : zers.length = 900 := by rw [len_lt]; show zers.cps.toList.length = 900; rw [lt_zers, List.length_replicate]
theorem w_tens : tens.length = 901 := by rw [len_lt]; show tens.cps.toList.length = 901; rw [lt_tens, List.length_cons, List.length_replicate]
theorem w_nines : figB nines = true ∧ nines.length = 900 := by
  refine ⟨?_, len_nines⟩
  have hf : lt (figS nines) = List.replicate 900 57 := by
    have := figS_lt nines
    rw [show lt nines = 57 :: List.replicate 899 57 from lt_nines] at this
    exact this
  have hl : (figS nines).length = 900 := by rw [len_lt, hf, List.length_replicate]
  unfold figB
  rw [hl, hf]
  have h1 : (List.replicate 900 57).all dgs = true := by
    rw [List.all_eq_true]
    intro c hc
    rw [(List.mem_replicate.mp hc).2]
    exact (dgs_iff 57).mpr (by decide)
  rw [h1]
  have h2 : (List.replicate 900 57).head? = some 57 := rfl
  rw [h2]
  simp
theorem zeros : ∀ (k x : Nat), (List.replicate k 48).foldl (fun acc c => acc * 10 + (c - 48)) x = x * 10 ^ k
  | 0, x => by simp
  | k + 1, x => by
    rw [List.replicate_succ, List.foldl_cons, zeros k, Nat.pow_succ]
    show (x * 10 + (48 - 48)) * 10 ^ k = x * (10 ^ k * 10)
    rw [Nat.sub_self, Nat.add_zero, Nat.mul_assoc, Nat.mul_comm 10]
theorem rep_digits (k d : Nat) (h : 48 ≤ d ∧ d ≤ 57) : PySem.NumText.AllDigits (List.replicate k d) := fun c hc => by rw [(List.mem_replicate.mp hc).2]; exact h
theorem w_big : ∃ n m : Int, intText? nines = some n ∧ intText? tens = some m ∧ 0 ≤ n ∧ n ≤ m := by
  have d1 := rep_digits 900 57 (by decide)
  have d2 : PySem.NumText.AllDigits (49 :: List.replicate 900 48) := fun c hc => by
    rcases List.mem_cons.mp hc with rfl | hc
    · decide
    · exact rep_digits 900 48 (by decide) c hc
  refine ⟨_, _, PySem.intText_digits (x := nines) (by rw [lt_nines]; exact d1) (by rw [lt_nines]; exact List.cons_ne_nil _ _) (by rw [w_nines.2]; decide), PySem.intText_digits (x := tens) (by rw [lt_tens]; exact d2) (by rw [lt_tens]; exact List.cons_ne_nil _ _) (by rw [w_tens]; decide), Int.natCast_nonneg _, Int.ofNat_le.mpr ?_⟩
  rw [lt_nines, lt_tens]
  have h1 := digits_lt _ d1
  rw [List.length_replicate] at h1
  have h2 : PySem.NumText.digitsVal (49 :: List.replicate 900 48) = 1 * 10 ^ 900 := zeros 900 1
  rw [h2, Nat.one_mul]
  exact Nat.le_of_lt h1
theorem w_three : writ "-3" = .int (-3) := by
  have h1 : figB "-3" = true := by decide +kernel
  have h2 : intText? "-3" = some (-3) := by decide +kernel
  unfold writ
  rw [h1, h2]; rfl
theorem ts1 : smulD (.str "9") (.int 900) = some (.str nines) := by
    have h9 : Str.length "9" = 1 := by decide +kernel
    simp [smulD, h9, big, nines]
theorem ts2 : smulD (.str "0") (.int 900) = some (.str zers) := by
    have h9 : Str.length "0" = 1 := by decide +kernel
    simp [smulD, h9, big, zers]
theorem ts3 : addD (.str "1") (.str zers) = some (.str tens) := by
    have h1 : Str.length "1" = 1 := by decide +kernel
    have h : Str.length "1" + zers.length ≤ 16777216 := by rw [h1, len_zers]; decide
    simp [addD, h, big, tens]
theorem tail_g (nines tens : Str) (b1 : figB nines = true) (l1 : nines.length = 900) (l2 : tens.length = 901) (hbig : ∃ n m : Int, intText? nines = some n ∧ intText? tens = some m ∧ 0 ≤ n ∧ n ≤ m) (f9 f10 : EF) (g9 : ∀ st L, f9 st L = .ok (.d (.str nines)) L) (g10 : ∀ st L, f10 st L = .ok (.d (.str tens)) L) (u0 u1 u2 u3 u4 u5 u6 : Option U) (L : LS) : tailG K a f9 f10 [u0, u1, u2, u3, u4, u5, u6] L = .rt (.d (.bl true)) L := by
  obtain ⟨n, m, t1, t2, t3, t4⟩ := hbig
  have f1 := v_is_figures (K := K) (a := a) nines (by omega) L
  rw [b1] at f1
  have i1 : intL [.str nines] = some (.int n) := by
    have hb : nines.length ≤ 16777216 := by omega
    simp [intL, big, hb, t1]
  have i2 : intL [.str tens] = some (.int m) := by
    have hb : tens.length ≤ 16777216 := by omega
    simp [intL, big, hb, t2]
  have n1 : m_number_of K a [.d (.str nines), .d (.int 0), .d (.int m)] L = .ok (.d (.int n)) L := by
    simp [m_number_of, Rs.bind, opt, LO.rd, rdU, fzU, eVar, eC, op2, op1, eBin, eUn, eCmp, bop2, bCmp, eChain, bChain, trU, bTru, eAnd, eOr, eNot, bAnd, bOr, bNot, eIf, rdUs, fzUs, aNil, aCons, eLst, eTup, eLstL, opn, eFn, oNone, oSome, eSl, eJoin, Rt.andThen, ofR, optS, sNil, sSeq, sDrop, sRet, sIf, sSet, sPar, tfName, tfNil, tfCons, tfTup, sAsg, sSub, outR, fnF, cPos, cBoth, Sr.get, arrU, eCall, iSeq, iRng1, iRng2, sFor, eComp, tYesF, eMake, mkF, eRest, sFld, eFnU, boolU, truG, sBrk, sCnt, sRetN, eDic0, eDic, dPairs, keyU, bD, big, f1, truB, i1, leB, t3, t4, take_len]
  have h3 : Str.length "-3" ≤ 400 := by decide +kernel
  have n2 := v_number_of (K := K) (a := a) "-3" h3 (-3) 5 L
  rw [w_three] at n2
  simp only [insd] at n2
  have n2 : m_number_of K a [.d (.str "-3"), .d (.int (-3)), .d (.int 5)] L = .ok (.d (.int (-3))) L := n2
  have c1 := v_is_integer (K := K) (a := a) (x := .int 3) rfl L
  have h8 : Str.length "abcdefgh" ≤ 1000 := by decide +kernel
  have c2 := v_is_name (K := K) (a := a) "abcdefgh" h8 L
  rw [show nameB "abcdefgh" = true by decide +kernel] at c2
  have c3 := v_is_within (K := K) (a := a) (x := .int 5) rfl 5 5 L
  have c4 := v_is_amount (K := K) (a := a) (x := .int 0) rfl L
  simp only [isI, within, amount] at c1 c3 c4
  have ad : addD (.lst [.bl true, .bl true, .bl true, .bl true]) (.lst [.int (-3), .int n]) = some (.lst [.bl true, .bl true, .bl true, .bl true, .int (-3), .int n]) := rfl
  have eqq : eqB (.lst [.bl true, .bl true, .bl true, .bl true, .int (-3), .int n]) (.lst [.bl true, .bl true, .bl true, .bl true, .int (-3), .int n]) = some true := by
    simp [eqB, toPy, toPyL, PyData.depth, PyData.depthAll, PyData.eqv, PyData.eqvAll]
  simp [tailG, Rs.bind, opt, LO.rd, rdU, fzU, eVar, eC, op2, op1, eBin, eUn, eCmp, bop2, bCmp, eChain, bChain, trU, bTru, eAnd, eOr, eNot, bAnd, bOr, bNot, eIf, rdUs, fzUs, aNil, aCons, eLst, eTup, eLstL, opn, eFn, oNone, oSome, eSl, eJoin, Rt.andThen, ofR, optS, sNil, sSeq, sDrop, sRet, sIf, sSet, sPar, tfName, tfNil, tfCons, tfTup, sAsg, sSub, outR, fnF, cPos, cBoth, Sr.get, arrU, eCall, iSeq, iRng1, iRng2, sFor, eComp, tYesF, eMake, mkF, eRest, sFld, eFnU, boolU, truG, sBrk, sCnt, sRetN, eDic0, eDic, dPairs, keyU, bD, big, c1, c2, c3, c4, negD, n2, g9, g10, i2, n1, ad, i1, eqq]
theorem tail_ev (u0 u1 u2 u3 u4 u5 u6 : Option U) (L : LS) : tailB K a [u0, u1, u2, u3, u4, u5, u6] L = .rt (.d (.bl true)) L :=
  tail_g nines tens w_nines.1 w_nines.2 w_tens w_big _ _ (fun st L => by simp only [eBin, eC, Rs.bind, op2, rdU, opt, ts1]) (fun st L => by simp only [eBin, eC, Rs.bind, op2, rdU, opt, ts2, ts3]) u0 u1 u2 u3 u4 u5 u6 L
theorem law_true (T : Tp K mg a) (ns : List Int) (h : ns.length ≤ 63) : ∃ L', m_law K a [.d (.scr ns)] [] = .ok (.d (.bl true)) L' := by
  have hp := v_pen (K := K) (a := a) ns
  have p0 : Pen 0 (penL (cutG ns none (some 63)) 0 0) := ⟨_, 0, 0, rfl, by omega, by omega, by omega⟩
  obtain ⟨st', L', e, v2, v3, v4, v5, v6, hst, pp⟩ := forF_inv (tf := tfName 2) (body := turnB K a) (fun j st L => ∃ v2 v3 v4 v5 v6, st = [some (.d (.scr ns)), some (.l 0), v2, v3, v4, v5, v6] ∧ Pen (60 * j) L) (rngD 0 12) 0 [some (.d (.scr ns)), some (.l 0), none, none, none, none, none] (penL (cutG ns none (some 63)) 0 0) ⟨none, none, none, none, none, rfl, p0⟩ (by
    rintro j st L hj1 hj2 ⟨v2, v3, v4, v5, v6, rfl, pj⟩ d hd
    have hj : j < 12 := by simpa [rngD] using hj2
    obtain ⟨w3, w4, w5, L2, e2, p2⟩ := turn_ev T (by omega) pj (some (.d (.scr ns))) (some (.d d)) v3 v4 v5 v6
    exact ⟨[some (.d (.scr ns)), some (.l 0), some (.d d), v3, v4, v5, v6], _, L2, rfl, .inl e2, _, _, _, _, _, rfl, p2.mono (by omega)⟩)
  subst hst
  have ht := tail_ev (K := K) (a := a) (some (.d (.scr ns))) (some (.l 0)) v2 v3 v4 v5 v6 L'
  have hin : inRng 12 = true := by decide
  refine ⟨L'.take 0, ?_⟩
  simp [law_eq, Rs.bind, opt, LO.rd, rdU, fzU, eVar, eC, op2, op1, eBin, eUn, eCmp, bop2, bCmp, eChain, bChain, trU, bTru, eAnd, eOr, eNot, bAnd, bOr, bNot, eIf, rdUs, fzUs, aNil, aCons, eLst, eTup, eLstL, opn, eFn, oNone, oSome, eSl, eJoin, Rt.andThen, ofR, optS, sNil, sSeq, sDrop, sRet, sIf, sSet, sPar, tfName, tfNil, tfCons, tfTup, sAsg, sSub, outR, fnF, cPos, cBoth, Sr.get, arrU, eCall, iSeq, iRng1, iRng2, sFor, eComp, tYesF, eMake, mkF, eRest, sFld, eFnU, boolU, truG, sBrk, sCnt, sRetN, eDic0, eDic, dPairs, keyU, bD, big, hp, hin, e, ht]
end
end VL.P

set_option Elab.async false
set_option linter.all false
set_option maxRecDepth 100000
set_option maxHeartbeats 4000000
open PySem PySem.Spec PyProof.Rows L2 VL
open PySem.W (Frag)
namespace VL.P
theorem fin {P : Program} {w : World} {K : Frag} {mg : Str → Option Value} {fa : Addr} (hmg : mg "law" = some (.ref fa)) (tp : ∃ a : Ad, Tp K mg a ∧ mg "law" = some (.ref a.f_law) ∧ ∀ (s : Shared) (u : Value), BindsTo s a.d_law ⟨[u], []⟩ [("_law_script", u)]) :
    ∃ (fd : FuncData) (m : FF), (∀ (s : Shared) (u : Value), BindsTo s fd ⟨[u], []⟩ [("_law_script", u)]) ∧ (∀ base : Heap, K.In base → base.Ns mainGlobals mg → NoDig base → KFn P w K mg base 5 fa fd ["_law_script"] m) ∧ ∀ ns : List Int, ns.length ≤ 63 → ∃ L', m [.d (.scr ns)] [] = .ok (.d (.bl true)) L' := by
  obtain ⟨a, T, e, hb⟩ := tp
  rw [e] at hmg
  cases hmg
  exact ⟨a.d_law, m_law K a, hb, fun base _ _ nd => k_law T nd, fun ns hl => law_true T ns hl⟩
end VL.P
open PySem PySem.W PyProof.Rows
set_option maxHeartbeats 0 in
theorem PySem.Challenge.cw_stayhouse_k01_looks_at_any_values_holds : PySem.Challenge.rw_stayhouse_k01_looks_at_any_values.Holds := by
  w_on; o_law; k_head; (case hw => w_witness2)
  k_fill
  refine VL.walk_vl (l := PySem.Challenge.rw_stayhouse_k01_looks_at_any_values) (n := 63) (k := 5) (x := "_law_script") rfl (by decide) rfl ⟨⟨rfl, by decide, by decide⟩, rfl⟩ (fun w h Y => PySem.W.kIn_of Y) ?F
  case F =>
    intro w mg fa h KX G hmg
    refine' VL.P.fin hmg (VL.P.mk_tp KX G ?a_l_draw ?l_l_draw ?e_l_draw ?p_l_draw ?a_l_pick ?l_l_pick ?e_l_pick ?p_l_pick ?a_l_figures ?l_l_figures ?e_l_figures ?p_l_figures ?a_l_letters ?l_l_letters ?e_l_letters ?p_l_letters ?a_l_written ?l_l_written ?e_l_written ?p_l_written ?a_is_integer ?l_is_integer ?e_is_integer ?p_is_integer ?a_is_amount ?l_is_amount ?e_is_amount ?p_is_amount ?a_is_name ?l_is_name ?e_is_name ?p_is_name ?a_is_figures ?l_is_figures ?e_is_figures ?p_is_figures ?a_number_of ?l_number_of ?e_number_of ?p_number_of ?a_l_page_right ?l_l_page_right ?e_l_page_right ?p_l_page_right ?l_Denial_bool ?e_Denial_bool ?p_Denial_bool ?l_Lacking_init ?e_Lacking_init ?p_Lacking_init ?l_Moved_init ?e_Moved_init ?p_Moved_init ?a_l_papers_right ?l_l_papers_right ?e_l_papers_right ?p_l_papers_right ?a_l_pen ?l_l_pen ?e_l_pen ?p_l_pen ?a_l_is_plain ?l_l_is_plain ?e_l_is_plain ?p_l_is_plain ?a_is_within ?l_is_within ?e_is_within ?p_is_within ?a_l_right ?l_l_right ?e_l_right ?p_l_right ?a_l_thing ?l_l_thing ?e_l_thing ?p_l_thing ?a_law ?l_law ?e_law ?p_law ?g_Paper ?g_Denial ?g_Moved ?pg_Moved ?hd_Moved ?po_Moved ?sa_Moved ?ha_Moved ?hn_Moved ?ht_Moved ?hm_Moved ?mk_Moved ?in_Moved ?if_Moved ?ck_Moved ?na_Moved_moves ?g_Lacking ?pg_Lacking ?hd_Lacking ?po_Lacking ?sa_Lacking ?ha_Lacking ?hn_Lacking ?ht_Lacking ?hm_Lacking ?mk_Lacking ?in_Lacking ?if_Lacking ?ck_Lacking ?na_Lacking_i ?na_Lacking_j ?isi_Moved_Denial ?isi_Moved_Lacking ?isi_Moved_Moved ?isi_Moved_Paper ?isi_Lacking_Denial ?isi_Lacking_Lacking ?isi_Lacking_Moved ?isi_Lacking_Paper ?nb_Moved ?nl_Moved ?nb_Paper ?nl_Paper ?mb_Denial ?mi_Denial ?mb_Lacking ?mi_Lacking ?v_LETTERS ?v_MOST_FIGURES ?v_MOST_LETTERS ?n_abs ?n_all ?n_bool ?n_int ?n_isinstance ?n_len ?n_list ?n_range ?n_repr ?n_str)
    (case a_l_draw => k_is)
    (case a_l_pick => k_is)
    (case a_l_figures => k_is)
    (case a_l_letters => k_is)
    (case a_l_written => k_is)
    (case a_is_integer => k_is)
    (case a_is_amount => k_is)
    (case a_is_name => k_is)
    (case a_is_figures => k_is)
    (case a_number_of => k_is)
    (case a_l_page_right => k_is)
    (case a_l_papers_right => k_is)
    (case a_l_pen => k_is)
    (case a_l_is_plain => k_is)
    (case a_is_within => k_is)
    (case a_l_right => k_is)
    (case a_l_thing => k_is)
    (case a_law => k_is)
    (case g_Paper => k_is)
    (case g_Denial => k_is)
    (case g_Moved => k_is)
    (case in_Moved => k_is)
    (case g_Lacking => k_is)
    (case in_Lacking => k_is)
    (case mb_Denial => k_is)
    (case mb_Lacking => k_is)
    (case v_LETTERS => k_is)
    (case v_MOST_FIGURES => k_is)
    (case v_MOST_LETTERS => k_is)
    (case l_l_draw => k_is)
    (case e_l_draw => k_is)
    (case p_l_draw => k_is)
    (case l_l_pick => k_is)
    (case e_l_pick => k_is)
    (case p_l_pick => k_is)
    (case l_l_figures => k_is)
    (case e_l_figures => k_is)
    (case p_l_figures => k_is)
    (case l_l_letters => k_is)
    (case e_l_letters => k_is)
    (case p_l_letters => k_is)
    (case l_l_written => k_is)
    (case e_l_written => k_is)
    (case p_l_written => k_is)
    (case l_is_integer => k_is)
    (case e_is_integer => k_is)
    (case p_is_integer => k_is)
    (case l_is_amount => k_is)
    (case e_is_amount => k_is)
    (case p_is_amount => k_is)
    (case l_is_name => k_is)
    (case e_is_name => k_is)
    (case p_is_name => k_is)
    (case l_is_figures => k_is)
    (case e_is_figures => k_is)
    (case p_is_figures => k_is)
    (case l_number_of => k_is)
    (case e_number_of => k_is)
    (case p_number_of => k_is)
    (case l_l_page_right => k_is)
    (case e_l_page_right => k_is)
    (case p_l_page_right => k_is)
    (case l_Denial_bool => k_is)
    (case e_Denial_bool => k_is)
    (case p_Denial_bool => k_is)
    (case l_Lacking_init => k_is)
    (case e_Lacking_init => k_is)
    (case p_Lacking_init => k_is)
    (case l_Moved_init => k_is)
    (case e_Moved_init => k_is)
    (case p_Moved_init => k_is)
    (case l_l_papers_right => k_is)
    (case e_l_papers_right => k_is)
    (case p_l_papers_right => k_is)
    (case l_l_pen => k_is)
    (case e_l_pen => k_is)
    (case p_l_pen => k_is)
    (case l_l_is_plain => k_is)
    (case e_l_is_plain => k_is)
    (case p_l_is_plain => k_is)
    (case l_is_within => k_is)
    (case e_is_within => k_is)
    (case p_is_within => k_is)
    (case l_l_right => k_is)
    (case e_l_right => k_is)
    (case p_l_right => k_is)
    (case l_l_thing => k_is)
    (case e_l_thing => k_is)
    (case p_l_thing => k_is)
    (case l_law => k_is)
    (case e_law => k_is)
    (case p_law => k_is)
    (case pg_Moved => k_is)
    (case hd_Moved => k_is)
    (case po_Moved => k_is)
    (case sa_Moved => k_is)
    (case ha_Moved => k_is)
    (case hn_Moved => k_is)
    (case ht_Moved => k_is)
    (case hm_Moved => k_is)
    (case mk_Moved => k_is)
    (case if_Moved => k_is)
    (case ck_Moved => k_is)
    (case na_Moved_moves => k_is)
    (case pg_Lacking => k_is)
    (case hd_Lacking => k_is)
    (case po_Lacking => k_is)
    (case sa_Lacking => k_is)
    (case ha_Lacking => k_is)
    (case hn_Lacking => k_is)
    (case ht_Lacking => k_is)
    (case hm_Lacking => k_is)
    (case mk_Lacking => k_is)
    (case if_Lacking => k_is)
    (case ck_Lacking => k_is)
    (case na_Lacking_i => k_is)
    (case na_Lacking_j => k_is)
    (case isi_Moved_Denial => kit_is)
    (case isi_Moved_Lacking => kit_is)
    (case isi_Moved_Moved => kit_is)
    (case isi_Moved_Paper => kit_is)
    (case isi_Lacking_Denial => kit_is)
    (case isi_Lacking_Lacking => kit_is)
    (case isi_Lacking_Moved => kit_is)
    (case isi_Lacking_Paper => kit_is)
    (case nb_Moved => k_is)
    (case nl_Moved => k_is)
    (case nb_Paper => k_is)
    (case nl_Paper => k_is)
    (case mi_Denial => k_is)
    (case mi_Lacking => k_is)
    (case n_abs => k_is)
    (case n_all => k_is)
    (case n_bool => k_is)
    (case n_int => k_is)
    (case n_isinstance => k_is)
    (case n_len => k_is)
    (case n_list => k_is)
    (case n_range => k_is)
    (case n_repr => k_is)
    (case n_str => k_is)
