import PyProof.Rows.All
import Wide.All
import OpenK.AllK
import Wide.FinOn
import HandS.ForMost
import HandS.Exc
import HandS.IsInst
import HandS.ExcIs
import HandS.ExcField
import HandS.RaiseMore
import HandS.CallSlots
import HandS.Wide
import HandS.Flow
import KE.DataEq
import KE.DataAny
import KE.KExcIs
import PyProof.ReprRoads
import KE.KIntText
import PyProof.StrOps2
import PyProof.FitsInt
import KE.KExcSuper
import KE.KSuper
import HandS.ExcInit
import HandS.Property
import HandS.ExcValue
import HandS.ExcBuiltin
import HandS.Style
import HandS.TupMul
import HandS.TupAny
import HandS.Zip
import KE.OsRunLaw
import PySem.Challenge.RW_stayhouse_k00_errors_and_their_fields
set_option Elab.async false
set_option linter.all false
set_option maxRecDepth 100000
set_option maxHeartbeats 4000000
/-! The value layer: Python values as plain data; a def is mirrored by a function on data. -/
namespace VL
open PySem PySem.Spec PyProof.Rows L2
open PySem.W (Frag)

/-- a value: what never changes any more -/
inductive D where
  | non | bl (b : Bool) | int (i : Int) | str (x : Str)
  | lst (xs : List D) | tup (xs : List D)
  | dic (ks : List Key) (xs : List D)
  | dit (ks : List (List Key)) (xs : List D)
  | ins (C : Addr) (ns : List Str) (xs : List D)
  | exc (C : Addr) (ns : List Str) (xs : List D) | ex0 (c : Value)
  | obj (a : Addr) | ty (n : String) | scr (ns : List Int)
  deriving Inhabited

/-- an object that still changes; z: one that has come to rest -/
inductive LO where
  | l (xs : List D) | d (ks : List Key) (xs : List D) | t (ks : List (List Key)) (xs : List D) | i (C : Addr) (ns : List Str) (xs : List D) | z (d : D)
abbrev LS := List LO
/-- what a slot holds: a value, or a changing object by its number -/
inductive U where
  | d (x : D) | l (n : Nat)

/-- the object of an exception, at a: its class, its own dict -/
def ExcO (a C d : Addr) : Heap → Prop := fun h => ∃ oe vs, h.get? a = some oe ∧ oe.cls = .ref C ∧ oe.dict = some d ∧ oe.data = .fields vs

/-- an exception without a dict of its own -/
def ExcO0 (a : Addr) (c : Value) : Heap → Prop := fun h => ∃ oe vs, h.get? a = some oe ∧ oe.cls = c ∧ oe.dict = none ∧ oe.data = .fields vs
/-- what is asked of its class -/
def Ex0C (K : Frag) : Value → Prop
  | .ref C => ExcC K C
  | .type n => n = "ValueError"
  | _ => False
def KL (K : Frag) (a : Addr) (xs : List V) : Prop :=
  ∃ (o : Obj) (its : Array Value) (n : Nat), K.lookup a = some o ∧ o.cls = .type "list" ∧ o.dict = none ∧ o.data = .seq its n ∧ its.size ≤ sizeLine ∧ Vals xs its.toList
def KT (K : Frag) (a : Addr) (xs : List V) : Prop :=
  ∃ (o : Obj) (its : Array Value) (n : Nat), K.lookup a = some o ∧ o.cls = .type "tuple" ∧ o.data = .seq its n ∧ its.size ≤ sizeLine ∧ Vals xs its.toList
/-- what an own class must say -/
structure OwnC (K : Frag) (C : Addr) : Prop where
  cl : Cls K C
  ha : PySem.W.findIn K (.ref C) "__class__" = some (some (.builtin "object.__class__"))
  hn : PySem.W.specialIn K (.builtin "object.__class__") "__get__" = some (some (.builtin "getset_descriptor.__get__"))
  ht : PySem.W.takesIn K (.builtin "object.__class__") = some true
  hm : PySem.W.mroIn K C (.type "object") = some true
def ScAt (K : Frag) (F : Addr → Prop) (H : Hp) (a : Addr) (vs : List V) : Prop := (F a ∧ ∃ o, H a = some (.frz o (.lst vs))) ∨ KL K a vs
def LsAt (K : Frag) (F : Addr → Prop) (H : Hp) (a : Addr) (vs : List V) : Prop := F a ∧ H a = some (.lst vs)
def TpAt (K : Frag) (F : Addr → Prop) (H : Hp) (a : Addr) (vs : List V) : Prop := (F a ∧ Rd H a (.tup vs)) ∨ KT K a vs

mutual
def Rep (K : Frag) (F : Addr → Prop) (H : Hp) : D → V → Prop
  | .non, v => v = .non
  | .bl b, v => v = .bl b
  | .int i, v => v = .int i
  | .str x, v => v = .str x
  | .lst xs, v => ∃ a vs, v = .ref a ∧ LsAt K F H a vs ∧ RepL K F H xs vs
  | .tup xs, v => ∃ a vs, v = .ref a ∧ TpAt K F H a vs ∧ RepL K F H xs vs
  | .dic ks xs, v => ∃ a kvs, v = .ref a ∧ F a ∧ H a = some (.dK kvs) ∧ kvs.map (·.1) = ks ∧ RepL K F H xs (kvs.map (·.2))
  | .dit ks xs, v => ∃ a kvs, v = .ref a ∧ F a ∧ H a = some (.dT kvs) ∧ kvs.map (·.1) = ks ∧ RepL K F H xs (kvs.map (·.2))
  | .ins C ns xs, v => ∃ a dx fs, v = .ref a ∧ F a ∧ H a = some (.ins C dx fs) ∧ OwnC K C ∧ fs.map (·.1) = ns ∧ RepL K F H xs (fs.map (·.2))
  | .exc C ns xs, v => ∃ a d fs, v = .ref a ∧ F a ∧ F d ∧ H a = some (.ext (ExcO a C d)) ∧ H d = some (.xd fs) ∧ ExcC K C ∧ fs.map (·.1) = ns ∧ RepL K F H xs (fs.map (·.2))
  | .ex0 c, v => ∃ a, v = .ref a ∧ F a ∧ H a = some (.ext (ExcO0 a c)) ∧ Ex0C K c
  | .obj a, v => v = .ref a
  | .ty n, v => v = .ty n
  | .scr ns, v => ∃ a, v = .ref a ∧ ScAt K F H a (ns.map V.int)
def RepL (K : Frag) (F : Addr → Prop) (H : Hp) : List D → List V → Prop
  | [], vs => vs = []
  | d :: ds, vs => ∃ v r, vs = v :: r ∧ Rep K F H d v ∧ RepL K F H ds r
end

section
variable {K : Frag} {F F' : Addr → Prop} {H H' : Hp}
theorem ScAt.sq {a : Addr} {vs : List V} (h : ScAt K F H a vs) : SqL K H a vs := by
  rcases h with ⟨_, h⟩ | h
  · exact .inl (.inr h)
  · exact .inr h
theorem TpAt.sq {a : Addr} {vs : List V} (h : TpAt K F H a vs) : SqT K H a vs := by
  rcases h with ⟨_, h⟩ | h
  · exact .inl h
  · exact .inr h
theorem Rd.mv {a : Addr} {u : HO} (h : Rd H a u) (e : H' a = H a) : Rd H' a u := by
  rcases h with h | ⟨o, h⟩
  · exact .inl (e.trans h)
  · exact .inr ⟨o, e.trans h⟩
theorem LsAt.mono (k : ∀ a, F a → F' a ∧ H' a = H a) {a : Addr} {vs : List V} (h : LsAt K F H a vs) : LsAt K F' H' a vs := ⟨(k a h.1).1, (k a h.1).2.trans h.2⟩
theorem ScAt.mono (k : ∀ a, F a → F' a ∧ H' a = H a) {a : Addr} {vs : List V} (h : ScAt K F H a vs) : ScAt K F' H' a vs := by
  rcases h with ⟨f, o, h⟩ | h
  · exact .inl ⟨(k a f).1, o, (k a f).2.trans h⟩
  · exact .inr h
theorem TpAt.mono (k : ∀ a, F a → F' a ∧ H' a = H a) {a : Addr} {vs : List V} (h : TpAt K F H a vs) : TpAt K F' H' a vs := by
  rcases h with ⟨f, h⟩ | h
  · exact .inl ⟨(k a f).1, Rd.mv h (k a f).2⟩
  · exact .inr h
mutual
theorem Rep.mono (k : ∀ a, F a → F' a ∧ H' a = H a) : ∀ (d : D) {v : V}, Rep K F H d v → Rep K F' H' d v
  | .non, _, h => h
  | .bl _, _, h => h
  | .int _, _, h => h
  | .str _, _, h => h
  | .lst xs, _, ⟨a, vs, e, h, r⟩ => ⟨a, vs, e, h.mono k, RepL.mono k xs r⟩
  | .tup xs, _, ⟨a, vs, e, h, r⟩ => ⟨a, vs, e, h.mono k, RepL.mono k xs r⟩
  | .dic ks xs, _, ⟨a, vs, e, f, h, q, r⟩ => ⟨a, vs, e, (k a f).1, (k a f).2.trans h, q, RepL.mono k xs r⟩
  | .dit ks xs, _, ⟨a, vs, e, f, h, q, r⟩ => ⟨a, vs, e, (k a f).1, (k a f).2.trans h, q, RepL.mono k xs r⟩
  | .ins C ns xs, _, ⟨a, dx, fs, e, f, h, oc, q, r⟩ => ⟨a, dx, fs, e, (k a f).1, (k a f).2.trans h, oc, q, RepL.mono k xs r⟩
  | .exc C ns xs, _, ⟨a, d, fs, e, f, f2, h, h2, oc, q, r⟩ => ⟨a, d, fs, e, (k a f).1, (k d f2).1, (k a f).2.trans h, (k d f2).2.trans h2, oc, q, RepL.mono k xs r⟩
  | .ex0 _, _, ⟨a, e, f, h, c⟩ => ⟨a, e, (k a f).1, (k a f).2.trans h, c⟩
  | .obj _, _, h => h
  | .ty _, _, h => h
  | .scr _, _, ⟨a, e, h⟩ => ⟨a, e, h.mono k⟩
theorem RepL.mono (k : ∀ a, F a → F' a ∧ H' a = H a) : ∀ (ds : List D) {vs : List V}, RepL K F H ds vs → RepL K F' H' ds vs
  | [], _, h => h
  | d :: ds, _, ⟨v, r, e, h, t⟩ => ⟨v, r, e, Rep.mono k d h, RepL.mono k ds t⟩
end
theorem RepL.length : ∀ {ds : List D} {vs : List V}, RepL K F H ds vs → vs.length = ds.length
  | [], _, h => by cases h; rfl
  | d :: ds, _, ⟨v, r, e, _, t⟩ => by subst e; simp [RepL.length t]
theorem RepL.get : ∀ {ds : List D} {vs : List V}, RepL K F H ds vs → ∀ {i : Nat} {d : D}, ds[i]? = some d → ∃ v, vs[i]? = some v ∧ Rep K F H d v
  | [], _, _, _, _, e => by simp at e
  | d :: ds, _, ⟨v, r, e, h, t⟩, 0, _, q => by subst e; simp at q; subst q; exact ⟨v, rfl, h⟩
  | d :: ds, _, ⟨v, r, e, h, t⟩, i + 1, _, q => by subst e; exact RepL.get t (i := i) (by simpa using q)
theorem RepL.append : ∀ {ds es : List D} {vs us : List V}, RepL K F H ds vs → RepL K F H es us → RepL K F H (ds ++ es) (vs ++ us)
  | [], _, _, _, h, q => by cases h; exact q
  | d :: ds, _, _, _, ⟨v, r, e, h, t⟩, q => by subst e; exact ⟨v, _, rfl, h, RepL.append t q⟩
theorem RepL.one {d : D} {v : V} (h : Rep K F H d v) : RepL K F H [d] [v] := ⟨v, [], rfl, h, rfl⟩
theorem RepL.take : ∀ {ds : List D} {vs : List V} (n : Nat), RepL K F H ds vs → RepL K F H (ds.take n) (vs.take n)
  | _, _, 0, _ => rfl
  | [], _, _ + 1, h => by cases h; rfl
  | d :: ds, _, n + 1, ⟨v, r, e, h, t⟩ => by subst e; exact ⟨v, _, rfl, h, RepL.take n t⟩
theorem RepL.drop : ∀ {ds : List D} {vs : List V} (n : Nat), RepL K F H ds vs → RepL K F H (ds.drop n) (vs.drop n)
  | _, _, 0, h => h
  | [], _, _ + 1, h => by cases h; rfl
  | d :: ds, _, n + 1, ⟨v, r, e, h, t⟩ => by subst e; exact RepL.drop n t
theorem RepL.set : ∀ {ds : List D} {vs : List V} (i : Nat) {d : D} {v : V}, RepL K F H ds vs → Rep K F H d v → RepL K F H (ds.set i d) (vs.set i v)
  | [], _, _, _, _, h, _ => by cases h; rfl
  | _ :: ds, _, 0, _, _, ⟨v, r, e, h, t⟩, q => by subst e; exact ⟨_, _, rfl, q, t⟩
  | _ :: ds, _, i + 1, _, _, ⟨v, r, e, h, t⟩, q => by subst e; exact ⟨_, _, rfl, h, RepL.set i t q⟩
end

/-- what is read: the object itself need not have come to rest -/
def Rdr (K : Frag) (F : Addr → Prop) (H : Hp) : D → V → Prop
  | .lst xs, v => ∃ a vs, v = .ref a ∧ H a = some (.lst vs) ∧ RepL K F H xs vs
  | .tup xs, v => ∃ a vs, v = .ref a ∧ SqT K H a vs ∧ RepL K F H xs vs
  | .dic ks xs, v => ∃ a kvs, v = .ref a ∧ H a = some (.dK kvs) ∧ kvs.map (·.1) = ks ∧ RepL K F H xs (kvs.map (·.2))
  | .dit ks xs, v => ∃ a kvs, v = .ref a ∧ H a = some (.dT kvs) ∧ kvs.map (·.1) = ks ∧ RepL K F H xs (kvs.map (·.2))
  | .ins C ns xs, v => ∃ a dx fs, v = .ref a ∧ H a = some (.ins C dx fs) ∧ OwnC K C ∧ fs.map (·.1) = ns ∧ RepL K F H xs (fs.map (·.2))
  | d, v => Rep K F H d v
theorem Rep.rdr {K : Frag} {F : Addr → Prop} {H : Hp} : ∀ {d : D} {v : V}, Rep K F H d v → Rdr K F H d v
  | .non, _, h => h
  | .bl _, _, h => h
  | .int _, _, h => h
  | .str _, _, h => h
  | .lst xs, _, ⟨a, vs, e, h, r⟩ => ⟨a, vs, e, h.2, r⟩
  | .tup xs, _, ⟨a, vs, e, h, r⟩ => ⟨a, vs, e, h.sq, r⟩
  | .dic ks xs, _, ⟨a, vs, e, f, h, q, r⟩ => ⟨a, vs, e, h, q, r⟩
  | .dit ks xs, _, ⟨a, vs, e, f, h, q, r⟩ => ⟨a, vs, e, h, q, r⟩
  | .ins C ns xs, _, ⟨a, dx, fs, e, f, h, oc, q, r⟩ => ⟨a, dx, fs, e, h, oc, q, r⟩
  | .exc C ns xs, _, h => h
  | .ex0 _, _, h => h
  | .obj _, _, h => h
  | .ty _, _, h => h
  | .scr _, _, h => h

/-! ### the whole state -/
def LAt (K : Frag) (F : Addr → Prop) (H : Hp) (a : Addr) : LO → Prop
  | .l xs => ¬ F a ∧ ∃ vs, H a = some (.lst vs) ∧ RepL K F H xs vs
  | .d ks xs => ¬ F a ∧ ∃ kvs, H a = some (.dK kvs) ∧ kvs.map (·.1) = ks ∧ RepL K F H xs (kvs.map (·.2))
  | .t ks xs => ¬ F a ∧ ∃ kvs, H a = some (.dT kvs) ∧ kvs.map (·.1) = ks ∧ RepL K F H xs (kvs.map (·.2))
  | .i C ns xs => ¬ F a ∧ ∃ dx fs, H a = some (.ins C dx fs) ∧ OwnC K C ∧ fs.map (·.1) = ns ∧ RepL K F H xs (fs.map (·.2))
  | .z d => Rep K F H d (.ref a)
def LO.on : LO → Bool
  | .z _ => false
  | _ => true
structure Ok (K : Frag) (F : Addr → Prop) (r : Nat → Addr) (H : Hp) (L : LS) : Prop where
  at_ : ∀ n lo, L[n]? = some lo → LAt K F H (r n) lo
  inj : ∀ m n lo lo', L[m]? = some lo → L[n]? = some lo' → lo.on = true → lo'.on = true → r m = r n → m = n
  stands : ∀ a, F a → H a ≠ none
/-- a changing object of ours stands at a -/
def Lv (ρ : Nat → Addr) (L : LS) (a : Addr) : Prop := ∃ n lo, L[n]? = some lo ∧ lo.on = true ∧ ρ n = a
structure Step (F : Addr → Prop) (r : Nat → Addr) (H : Hp) (L : LS) (F' : Addr → Prop) (r' : Nat → Addr) (H' : Hp) (L' : LS) : Prop where
  fz : ∀ a, F a → F' a ∧ H' a = H a
  len : L.length ≤ L'.length
  same : ∀ n, n < L.length → r' n = r n
  keep : ∀ a u, H a = some u → ¬ Lv r L a → H' a = some u
  new : ∀ n lo, L.length ≤ n → L'[n]? = some lo → lo.on = true → H (r' n) = none
  off : ∀ n lo, n < L.length → L'[n]? = some lo → lo.on = true → ∃ l0, L[n]? = some l0 ∧ l0.on = true
  trk : ∀ a, H' a = none → H a = none
  fr : ∀ a, F' a → F a ∨ H a = none ∨ Lv r L a
theorem Step.refl {F : Addr → Prop} {r : Nat → Addr} {H : Hp} {L : LS} : Step F r H L F r H L :=
  ⟨fun _ h => ⟨h, rfl⟩, Nat.le_refl _, fun _ _ => rfl, fun _ _ h _ => h, fun n lo h e _ => absurd (List.getElem?_eq_some_iff.mp e).1 (Nat.not_lt.mpr h), fun n lo _ e t => ⟨lo, e, t⟩, fun _ h => h, fun _ h => .inl h⟩
theorem Step.lv {F F1 : Addr → Prop} {r r1 : Nat → Addr} {H H1 : Hp} {L L1 : LS} (s : Step F r H L F1 r1 H1 L1) {a : Addr} (h : Lv r1 L1 a) : H a = none ∨ Lv r L a := by
  obtain ⟨n, lo, e, t, rfl⟩ := h
  by_cases hn : n < L.length
  · obtain ⟨l0, e0, t0⟩ := s.off n lo hn e t
    exact .inr ⟨n, l0, e0, t0, (s.same n hn).symm⟩
  · exact .inl (s.new n lo (Nat.not_lt.mp hn) e t)
theorem Step.trans {F F1 F2 : Addr → Prop} {r r1 r2 : Nat → Addr} {H H1 H2 : Hp} {L L1 L2 : LS} (a : Step F r H L F1 r1 H1 L1) (b : Step F1 r1 H1 L1 F2 r2 H2 L2) : Step F r H L F2 r2 H2 L2 where
  fz := fun x h => ⟨(b.fz x (a.fz x h).1).1, (b.fz x (a.fz x h).1).2.trans (a.fz x h).2⟩
  len := Nat.le_trans a.len b.len
  same := fun n h => (b.same n (Nat.lt_of_lt_of_le h a.len)).trans (a.same n h)
  keep := fun x u e h => b.keep x u (a.keep x u e h) fun z => (a.lv z).elim (fun q => by rw [q] at e; cases e) h
  new := fun n lo h e t => by
    by_cases hn : n < L1.length
    · obtain ⟨l1, e1, t1⟩ := b.off n lo hn e t
      rw [b.same n hn]
      exact a.new n l1 h e1 t1
    · exact a.trk _ (b.new n lo (Nat.not_lt.mp hn) e t)
  off := fun n lo h e t => by
    obtain ⟨l1, e1, t1⟩ := b.off n lo (Nat.lt_of_lt_of_le h a.len) e t
    exact a.off n l1 h e1 t1
  trk := fun x h => a.trk x (b.trk x h)
  fr := fun x h => by
    rcases b.fr x h with q | q | q
    · exact a.fr x q
    · exact .inr (.inl (a.trk x q))
    · exact .inr (a.lv q)

def RepU (K : Frag) (F : Addr → Prop) (r : Nat → Addr) (H : Hp) (L : LS) : U → V → Prop
  | .d x, v => Rep K F H x v
  | .l n, v => n < L.length ∧ v = .ref (r n)
theorem RepU.mono {K : Frag} {F F' : Addr → Prop} {r r' : Nat → Addr} {H H' : Hp} {L L' : LS} (s : Step F r H L F' r' H' L') {u : U} {v : V} (h : RepU K F r H L u v) : RepU K F' r' H' L' u v := by
  cases u with
  | d x => exact Rep.mono s.fz x h
  | l n => exact ⟨Nat.lt_of_lt_of_le h.1 s.len, by rw [s.same n h.1]; exact h.2⟩
/-- the slots -/
abbrev SS := List (Option U)
structure RepSt (K : Frag) (F : Addr → Prop) (r : Nat → Addr) (H : Hp) (L : LS) (σ : L2.St) (st : SS) : Prop where
  len : σ.length = st.length
  at_ : ∀ (i : Nat) u, st[i]? = some (some u) → ∃ v, σ[i]? = some (some v) ∧ RepU K F r H L u v
theorem RepSt.mono {K : Frag} {F F' : Addr → Prop} {r r' : Nat → Addr} {H H' : Hp} {L L' : LS} (s : Step F r H L F' r' H' L') {σ : L2.St} {st : SS} (h : RepSt K F r H L σ st) : RepSt K F' r' H' L' σ st :=
  ⟨h.len, fun i u e => let ⟨v, e1, r1⟩ := h.at_ i u e; ⟨v, e1, r1.mono s⟩⟩
theorem RepSt.set {K : Frag} {F : Addr → Prop} {r : Nat → Addr} {H : Hp} {L : LS} {σ : L2.St} {st : SS} (h : RepSt K F r H L σ st) (i : Nat) {u : U} {v : V} (hu : RepU K F r H L u v) : RepSt K F r H L (σ.set i (some v)) (st.set i (some u)) := by
  refine ⟨by simp [h.len], fun j w e => ?_⟩
  by_cases q : j = i
  · subst q
    by_cases hl : j < st.length
    · rw [List.getElem?_set_self hl] at e
      have e' : u = w := Option.some.inj (Option.some.inj e)
      subst e'
      exact ⟨v, List.getElem?_set_self (by rw [h.len]; exact hl), hu⟩
    · rw [List.getElem?_eq_none (by simpa using hl)] at e
      cases e
  · rw [List.getElem?_set_ne (Ne.symm q)] at e ⊢
    exact h.at_ j w e

/-- what comes of a piece of code: a value, an exception of an own class, or nothing is said -/
inductive Rs (α : Type) where
  | ok (a : α) (L : LS)
  | ex (C : Addr) (ns : List Str) (xs : List D) (L : LS)
  | no
@[simp] def Rs.bind {α β : Type} : Rs α → (α → LS → Rs β) → Rs β
  | .ok a L, g => g a L
  | .ex C ns xs L, _ => .ex C ns xs L
  | .no, _ => .no
/-- an expression's mirror -/
abbrev EF := SS → LS → Rs U
abbrev TF := SS → LS → Rs Bool
abbrev AF := SS → LS → Rs (List U)

/-- the exception that is in the air -/
def Thrown (K : Frag) (F : Addr → Prop) (H : Hp) (ns : List Str) (xs : List D) (d : Option Addr) : Prop :=
  ∃ dd fs, d = some dd ∧ F dd ∧ H dd = some (.xd fs) ∧ fs.map (·.1) = ns ∧ RepL K F H xs (fs.map (·.2))

/-- what is wanted behind a result r, from the state (F, r, H, L) on -/
def GE {α : Type} (P : Frag → (Addr → Prop) → (Nat → Addr) → Hp → LS → α → β → Prop) (K : Frag) (W : WX) (σ : L2.St) (F : Addr → Prop) (ρ : Nat → Addr) (H : Hp) (L : LS) (Q : β → Hp → Prop) : Rs α → Prop
  | .ok a L' => ∀ F' ρ' H' b, Step F ρ H L F' ρ' H' L' → Ok K F' ρ' H' L' → P K F' ρ' H' L' a b → Q b H'
  | .ex C ns xs L' => ∀ F' ρ' H' d, Step F ρ H L F' ρ' H' L' → Ok K F' ρ' H' L' → Thrown K F' H' ns xs d → W (.ref C) d σ H'
  | .no => False
theorem GE.on {α β : Type} {P : Frag → (Addr → Prop) → (Nat → Addr) → Hp → LS → α → β → Prop} {K : Frag} {W : WX} {σ : L2.St} {F F' : Addr → Prop} {ρ ρ' : Nat → Addr} {H H' : Hp} {L L' : LS} {Q : β → Hp → Prop} {x : Rs α}
    (s : Step F ρ H L F' ρ' H' L') (h : GE P K W σ F ρ H L Q x) : GE P K W σ F' ρ' H' L' Q x := by
  cases x with
  | ok a L2 => exact fun F2 ρ2 H2 b s2 => h F2 ρ2 H2 b (s.trans s2)
  | ex C ns xs L2 => exact fun F2 ρ2 H2 d s2 => h F2 ρ2 H2 d (s.trans s2)
  | no => exact h
end VL

set_option Elab.async false
set_option linter.all false
set_option maxRecDepth 100000
set_option maxHeartbeats 4000000
namespace VL
open PySem PySem.Spec PyProof.Rows L2
open PySem.W (Frag)

abbrev PP (α β : Type) := Frag → (Addr → Prop) → (Nat → Addr) → Hp → LS → α → β → Prop
def PB : PP Bool Bool := fun _ _ _ _ _ a b => a = b
def RepUs (K : Frag) (F : Addr → Prop) (ρ : Nat → Addr) (H : Hp) (L : LS) : List U → List V → Prop
  | [], vs => vs = []
  | u :: us, vs => ∃ v r, vs = v :: r ∧ RepU K F ρ H L u v ∧ RepUs K F ρ H L us r
theorem RepUs.mono {K : Frag} {F F' : Addr → Prop} {r r' : Nat → Addr} {H H' : Hp} {L L' : LS} (s : Step F r H L F' r' H' L') : ∀ {us : List U} {vs : List V}, RepUs K F r H L us vs → RepUs K F' r' H' L' us vs
  | [], _, h => h
  | _ :: _, _, ⟨v, t, e, h, q⟩ => ⟨v, t, e, h.mono s, RepUs.mono s q⟩
theorem RepUs.length {K : Frag} {F : Addr → Prop} {r : Nat → Addr} {H : Hp} {L : LS} : ∀ {us : List U} {vs : List V}, RepUs K F r H L us vs → vs.length = us.length
  | [], _, h => by cases h; rfl
  | _ :: _, _, ⟨v, t, e, h, q⟩ => by subst e; simp [RepUs.length q]

/-- the reading that a mirror gives -/
def RG {α β : Type} (P : PP α β) (K : Frag) (W : WX) (f : SS → LS → Rs α) : L2.St → Hp → (β → Hp → Prop) → Prop := fun σ H Q =>
  ∃ F ρ L st, Ok K F ρ H L ∧ RepSt K F ρ H L σ st ∧ GE P K W σ F ρ H L Q (f st L)
section
variable {K : Frag} {W : WX} {σ : L2.St} {F : Addr → Prop} {ρ : Nat → Addr} {H : Hp} {L : LS}
theorem GE.mono {α β : Type} {P : PP α β} {Q Q' : β → Hp → Prop} {x : Rs α} (h : GE P K W σ F ρ H L Q x) (q : ∀ b H, Q b H → Q' b H) : GE P K W σ F ρ H L Q' x := by
  cases x with
  | ok a L2 => exact fun F2 ρ2 H2 b s2 o p => q _ _ (h F2 ρ2 H2 b s2 o p)
  | ex C ns xs L2 => exact h
  | no => exact h
theorem RG.mono {α β : Type} {P : PP α β} {f : SS → LS → Rs α} {Q Q' : β → Hp → Prop} (h : RG P K W f σ H Q) (q : ∀ b H, Q b H → Q' b H) : RG P K W f σ H Q' := by
  obtain ⟨F, ρ, L, st, o, r, g⟩ := h
  exact ⟨F, ρ, L, st, o, r, g.mono q⟩
/-- the state behind a part, and what is still wanted -/
def Nx {α β γ δ : Type} (P : PP α β) (P2 : PP γ δ) (K : Frag) (W : WX) (σ : L2.St) (F : Addr → Prop) (ρ : Nat → Addr) (H : Hp) (L : LS) (Q : δ → Hp → Prop) (g : α → LS → Rs γ) (b : β) (H1 : Hp) : Prop :=
  ∃ F1 ρ1 L1 a, Step F ρ H L F1 ρ1 H1 L1 ∧ Ok K F1 ρ1 H1 L1 ∧ P K F1 ρ1 H1 L1 a b ∧ GE P2 K W σ F1 ρ1 H1 L1 Q (g a L1)
theorem GE.bind {α β γ δ : Type} {P : PP α β} {P2 : PP γ δ} {Q : δ → Hp → Prop} {x : Rs α} {g : α → LS → Rs γ}
    (h : GE P2 K W σ F ρ H L Q (x.bind g)) : GE P K W σ F ρ H L (Nx P P2 K W σ F ρ H L Q g) x := by
  cases x with
  | ok a L2 => exact fun F2 ρ2 H2 b s2 o p => ⟨F2, ρ2, L2, a, s2, o, p, GE.on s2 h⟩
  | ex C ns xs L2 => exact h
  | no => exact h
/-- the first part of a mirror is read, the rest is wanted behind it -/
theorem RG.of {α β : Type} {P : PP α β} {f : SS → LS → Rs α} {st : SS} {Q : β → Hp → Prop} (o : Ok K F ρ H L) (r : RepSt K F ρ H L σ st) (h : GE P K W σ F ρ H L Q (f st L)) : RG P K W f σ H Q := ⟨F, ρ, L, st, o, r, h⟩
theorem RG.one {α β γ δ : Type} {P : PP α β} {P2 : PP γ δ} {f : SS → LS → Rs α} {st : SS} {Q : δ → Hp → Prop} {Q' : β → Hp → Prop} {g : α → LS → Rs γ} (o : Ok K F ρ H L) (r : RepSt K F ρ H L σ st) (h : GE P2 K W σ F ρ H L Q ((f st L).bind g))
    (q : ∀ b H1 F1 ρ1 L1 a, Step F ρ H L F1 ρ1 H1 L1 → Ok K F1 ρ1 H1 L1 → RepSt K F1 ρ1 H1 L1 σ st → P K F1 ρ1 H1 L1 a b → GE P2 K W σ F1 ρ1 H1 L1 Q (g a L1) → Q' b H1) : RG P K W f σ H Q' :=
  ⟨F, ρ, L, st, o, r, (GE.bind (P := P) h).mono fun b H1 ⟨F1, ρ1, L1, a, s1, o1, p1, h1⟩ => q b H1 F1 ρ1 L1 a s1 o1 (r.mono s1) p1 h1⟩
def opt {α β : Type} : Option α → (α → Rs β) → Rs β
  | some a, f => f a
  | none, _ => .no
@[simp] theorem opt_some {α β : Type} (a : α) (f : α → Rs β) : opt (some a) f = f a := rfl
@[simp] theorem opt_none {α β : Type} (f : α → Rs β) : opt none f = .no := rfl
theorem GE.opt {α γ δ : Type} {P : PP γ δ} {Q : δ → Hp → Prop} {x : Option α} {f : α → Rs γ} (h : GE P K W σ F ρ H L Q (opt x f)) : ∃ a, x = some a ∧ GE P K W σ F ρ H L Q (f a) := by
  cases x with
  | some a => exact ⟨a, rfl, h⟩
  | none => exact h.elim
theorem GE.fin {α β : Type} {P : PP α β} {Q : β → Hp → Prop} {a : α} {b : β} (h : GE P K W σ F ρ H L Q (.ok a L)) (o : Ok K F ρ H L) (p : P K F ρ H L a b) : Q b H := h F ρ H b Step.refl o p
theorem GE.finD {Q : VK} {d : D} {b : V} (h : GE RepU K W σ F ρ H L Q (.ok (.d d) L)) (o : Ok K F ρ H L) (p : Rep K F H d b) : Q b H := h F ρ H b Step.refl o p
end

/-! ### the judgements -/
abbrev KE (X : Cx) (W : WX) (e : Expr) (f : EF) : Prop := PE X e (RG RepU X.K W f)
abbrev KB (X : Cx) (W : WX) (e : Expr) (f : TF) : Prop := PT X e (RG PB X.K W f)
abbrev KW (X : Cx) (W : WX) (e : Expr) (f : TF) : Prop := PW X e (RG PB X.K W f)
abbrev KA (X : Cx) (W : WX) (es : List Expr) (f : AF) : Prop := PA X es (RG RepUs X.K W f)

theorem pe_wk {X : Cx} {e : Expr} {t t' : TE} (h : PE X e t) (i : ∀ σ H Q, t' σ H Q → t σ H Q) : PE X e t' := ⟨fun pins s σ H Q I q => h.run pins s σ H Q I (i σ H Q q)⟩
theorem pt_wk {X : Cx} {e : Expr} {t t' : TT} (h : PT X e t) (i : ∀ σ H Q, t' σ H Q → t σ H Q) : PT X e t' := ⟨fun pins s σ H Q I q => h.run pins s σ H Q I (i σ H Q q)⟩
theorem pw_wk {X : Cx} {e : Expr} {t t' : TT} (h : PW X e t) (i : ∀ σ H Q, t' σ H Q → t σ H Q) : PW X e t' := ⟨fun wh pins s σ H Q I q => h.run wh pins s σ H Q I (i σ H Q q)⟩
theorem pa_wk {X : Cx} {e : List Expr} {t t' : TA} (h : PA X e t) (i : ∀ σ H Q, t' σ H Q → t σ H Q) : PA X e t' := ⟨fun p pins s σ H Q I q => h.run p pins s σ H Q I (i σ H Q q)⟩
theorem ps_wk {X : Cx} {e : Stmt} {t t' : TS} (h : PS X e t) (i : ∀ D σ H, t' D σ H → t D σ H) : PS X e t' := ⟨fun pins s σ H D I q => h.run pins s σ H D I (i D σ H q)⟩
theorem pss_wk {X : Cx} {e : List Stmt} {t t' : TS} (h : PSs X e t) (i : ∀ D σ H, t' D σ H → t D σ H) : PSs X e t' := ⟨fun pins s σ H D I q => h.run pins s σ H D I (i D σ H q)⟩

/-! ### what stands at a number -/
def LO.rd : LO → D
  | .l xs => .lst xs
  | .d ks xs => .dic ks xs
  | .t ks xs => .dit ks xs
  | .i C ns xs => .ins C ns xs
  | .z y => y
def rdU (L : LS) : U → Option D
  | .d x => some x
  | .l n => L[n]?.map LO.rd
theorem rdr_of {K : Frag} {F : Addr → Prop} {ρ : Nat → Addr} {H : Hp} {L : LS} (o : Ok K F ρ H L) {u : U} {v : V} {d : D} (r : RepU K F ρ H L u v) (e : rdU L u = some d) : Rdr K F H d v := by
  cases u with
  | d x => cases e; exact Rep.rdr r
  | l n =>
    obtain ⟨hn, rfl⟩ := r
    cases q : L[n]? with
    | none => simp [rdU, q] at e
    | some lo =>
      simp [rdU, q] at e
      have h := o.at_ n lo q
      cases lo with
      | l xs => subst e; obtain ⟨_, vs, h1, h2⟩ := h; exact ⟨_, vs, rfl, h1, h2⟩
      | d ks xs => subst e; obtain ⟨_, vs, h1, h2, h3⟩ := h; exact ⟨_, vs, rfl, h1, h2, h3⟩
      | t ks xs => subst e; obtain ⟨_, vs, h1, h2, h3⟩ := h; exact ⟨_, vs, rfl, h1, h2, h3⟩
      | i C ns xs => subst e; obtain ⟨_, dx, fs, h1, oc, h2, h3⟩ := h; exact ⟨_, dx, fs, rfl, h1, oc, h2, h3⟩
      | z dd => subst e; exact Rep.rdr h

def fzU (L : LS) : U → Option (D × LS)
  | .d x => some (x, L)
  | .l n => match L[n]? with
    | some lo => some (lo.rd, L.set n (.z lo.rd))
    | none => none

section
variable {K : Frag} {F : Addr → Prop} {ρ : Nat → Addr} {H : Hp} {L : LS}
theorem fz_step {F' : Addr → Prop} {n : Nat} {lo : LO} (e : L[n]? = some lo) (k : ∀ a, F a → F' a ∧ H a = H a) (fr : ∀ a, F' a → F a ∨ H a = none ∨ Lv ρ L a) : Step F ρ H L F' ρ H (L.set n (.z lo.rd)) := by
  have hn : n < L.length := (List.getElem?_eq_some_iff.mp e).1
  refine ⟨k, by simp, fun _ _ => rfl, fun _ _ h _ => h, fun m l h q _ => ?_, fun m l h q t => ?_, fun _ h => h, fr⟩
  · have := (List.getElem?_eq_some_iff.mp q).1
    simp at this
    omega
  · by_cases hm : m = n
    · subst hm; rw [List.getElem?_set_self hn] at q; cases q; cases t
    · rw [List.getElem?_set_ne (Ne.symm hm)] at q; exact ⟨l, q, t⟩
/-- a further thing comes to rest at a: it stood there, and no changing object stands there but n -/
theorem fz_ok (o : Ok K F ρ H L) {n : Nat} {lo : LO} (e : L[n]? = some lo) : ∃ F', Step F ρ H L F' ρ H (L.set n (.z lo.rd)) ∧ Ok K F' ρ H (L.set n (.z lo.rd)) ∧ Rep K F' H lo.rd (.ref (ρ n)) := by
  have hn : n < L.length := (List.getElem?_eq_some_iff.mp e).1
  have h := o.at_ n lo e
  by_cases hz : lo.on = false
  · obtain ⟨d, rfl⟩ : ∃ d, lo = .z d := by
      cases lo with
      | z d => exact ⟨d, rfl⟩
      | l xs => exact absurd hz (by simp [LO.on])
      | d ks xs => exact absurd hz (by simp [LO.on])
      | t ks xs => exact absurd hz (by simp [LO.on])
      | i C ns xs => exact absurd hz (by simp [LO.on])
    refine ⟨F, fz_step e (fun _ x => ⟨x, rfl⟩) fun _ x => .inl x, ⟨fun m lo' q => ?_, fun m k lo' lo2 q1 q2 t1 t2 q => ?_, o.stands⟩, h⟩
    · by_cases hm : m = n
      · subst hm; rw [List.getElem?_set_self hn] at q; cases q; exact h
      · rw [List.getElem?_set_ne (Ne.symm hm)] at q; exact o.at_ m lo' q
    · have z : ∀ {j : Nat} {l3 : LO}, (L.set n (.z (LO.rd (.z d))))[j]? = some l3 → l3.on = true → L[j]? = some l3 := fun {j l3} q t => by
        by_cases hj : j = n
        · subst hj; rw [List.getElem?_set_self hn] at q; cases q; cases t
        · rwa [List.getElem?_set_ne (Ne.symm hj)] at q
      exact o.inj m k lo' lo2 (z q1 t1) (z q2 t2) t1 t2 q
  · have on : lo.on = true := by cases t : lo.on <;> simp_all
    let F' : Addr → Prop := fun a => F a ∨ a = ρ n
    have k : ∀ a, F a → F' a ∧ H a = H a := fun a f => ⟨.inl f, rfl⟩
    have hH : H (ρ n) ≠ none := by
      cases lo with
      | l xs => obtain ⟨_, vs, h1, _⟩ := h; rw [h1]; simp
      | d ks xs => obtain ⟨_, vs, h1, _⟩ := h; rw [h1]; simp
      | t ks xs => obtain ⟨_, vs, h1, _⟩ := h; rw [h1]; simp
      | i C ns xs => obtain ⟨_, dx, fs, h1, _⟩ := h; rw [h1]; simp
      | z d => cases on
    have hr : Rep K F' H lo.rd (.ref (ρ n)) := by
      cases lo with
      | l xs => obtain ⟨_, vs, h1, h2⟩ := h; exact ⟨_, vs, rfl, ⟨.inr rfl, h1⟩, RepL.mono k xs h2⟩
      | d ks xs => obtain ⟨_, vs, h1, h2, h3⟩ := h; exact ⟨_, vs, rfl, .inr rfl, h1, h2, RepL.mono k xs h3⟩
      | t ks xs => obtain ⟨_, vs, h1, h2, h3⟩ := h; exact ⟨_, vs, rfl, .inr rfl, h1, h2, RepL.mono k xs h3⟩
      | i C ns xs => obtain ⟨_, dx, fs, h1, oc, h2, h3⟩ := h; exact ⟨_, dx, fs, rfl, .inr rfl, h1, oc, h2, RepL.mono k xs h3⟩
      | z d => cases on
    refine ⟨F', fz_step e k (fun a f => f.elim .inl fun z => .inr (.inr ⟨n, lo, e, on, z.symm⟩)), ⟨fun m lo' q => ?_, fun m j lo' lo2 q1 q2 t1 t2 q => ?_, fun a f => f.elim (o.stands a) fun z => by subst z; exact hH⟩, hr⟩
    · by_cases hm : m = n
      · subst hm; rw [List.getElem?_set_self hn] at q; cases q; exact hr
      · rw [List.getElem?_set_ne (Ne.symm hm)] at q
        have h' := o.at_ m lo' q
        have nf : lo'.on = true → ¬ F (ρ m) → ¬ F' (ρ m) := fun t f z => z.elim f fun z => hm (o.inj m n lo' lo q e t on z)
        cases lo' with
        | l xs => obtain ⟨f, vs, h1, h2⟩ := h'; exact ⟨nf rfl f, vs, h1, RepL.mono k xs h2⟩
        | d ks xs => obtain ⟨f, vs, h1, h2, h3⟩ := h'; exact ⟨nf rfl f, vs, h1, h2, RepL.mono k xs h3⟩
        | t ks xs => obtain ⟨f, vs, h1, h2, h3⟩ := h'; exact ⟨nf rfl f, vs, h1, h2, RepL.mono k xs h3⟩
        | i C ns xs => obtain ⟨f, dx, fs, h1, oc, h2, h3⟩ := h'; exact ⟨nf rfl f, dx, fs, h1, oc, h2, RepL.mono k xs h3⟩
        | z d => exact Rep.mono k d h'
    · have z : ∀ {j : Nat} {l3 : LO}, (L.set n (.z lo.rd))[j]? = some l3 → l3.on = true → L[j]? = some l3 := fun {j l3} q t => by
        by_cases hj : j = n
        · subst hj; rw [List.getElem?_set_self hn] at q; cases q; cases t
        · rwa [List.getElem?_set_ne (Ne.symm hj)] at q
      exact o.inj m j lo' lo2 (z q1 t1) (z q2 t2) t1 t2 q
theorem fzU_ok (o : Ok K F ρ H L) {u : U} {v : V} {d : D} {L' : LS} (r : RepU K F ρ H L u v) (e : fzU L u = some (d, L')) : ∃ F', Step F ρ H L F' ρ H L' ∧ Ok K F' ρ H L' ∧ Rep K F' H d v := by
  cases u with
  | d x => cases e; exact ⟨F, Step.refl, o, r⟩
  | l n =>
    obtain ⟨hn, rfl⟩ := r
    cases q : L[n]? with
    | none => simp [fzU, q] at e
    | some lo =>
      simp [fzU, q] at e
      obtain ⟨rfl, rfl⟩ := e
      exact fz_ok o q
/-- a new object p, at rest -/
def F1 (F : Addr → Prop) (p : Addr) : Addr → Prop := fun a => F a ∨ a = p
theorem new_k (o : Ok K F ρ H L) {p : Addr} (hp : H p = none) (u : HO) : ∀ a, F a → F1 F p a ∧ upd H p u a = H a := fun a f => ⟨.inl f, upd_ne fun z => o.stands a f (z ▸ hp)⟩
theorem new_ok (o : Ok K F ρ H L) {p : Addr} (hp : H p = none) (u : HO) : Step F ρ H L (F1 F p) ρ (upd H p u) L ∧ Ok K (F1 F p) ρ (upd H p u) L := by
  have k := new_k o hp u
  refine ⟨⟨k, Nat.le_refl _, fun _ _ => rfl, fun a w e _ => by rw [upd_ne (ne_of_none e hp)]; exact e, fun n lo h e _ => absurd (List.getElem?_eq_some_iff.mp e).1 (Nat.not_lt.mpr h), fun n lo _ e t => ⟨lo, e, t⟩, fun a h => ?_, fun a h => h.elim .inl fun z => .inr (.inl (z ▸ hp))⟩, ⟨fun m lo q => ?_, o.inj, fun a f => f.elim (fun f => by rw [(k a f).2]; exact o.stands a f) fun z => by subst z; rw [upd_same]; simp⟩⟩
  · by_cases z : a = p
    · subst z; rw [upd_same] at h; cases h
    · rw [upd_ne z] at h; exact h
  have h := o.at_ m lo q
  have ne : ∀ {w : HO}, H (ρ m) = some w → ρ m ≠ p := fun e z => by rw [z, hp] at e; cases e
  cases lo with
  | l xs => obtain ⟨f, vs, h1, h2⟩ := h; exact ⟨fun z => z.elim f (ne h1), vs, by rw [upd_ne (ne h1)]; exact h1, RepL.mono k xs h2⟩
  | d ks xs => obtain ⟨f, vs, h1, h2, h3⟩ := h; exact ⟨fun z => z.elim f (ne h1), vs, by rw [upd_ne (ne h1)]; exact h1, h2, RepL.mono k xs h3⟩
  | t ks xs => obtain ⟨f, vs, h1, h2, h3⟩ := h; exact ⟨fun z => z.elim f (ne h1), vs, by rw [upd_ne (ne h1)]; exact h1, h2, RepL.mono k xs h3⟩
  | i C ns xs => obtain ⟨f, dx, fs, h1, oc, h2, h3⟩ := h; exact ⟨fun z => z.elim f (ne h1), dx, fs, by rw [upd_ne (ne h1)]; exact h1, oc, h2, RepL.mono k xs h3⟩
  | z d => exact Rep.mono k d h
/-- a new object p, not tracked among ours, changes nothing -/
theorem new_lst (o : Ok K F ρ H L) {p : Addr} (hp : H p = none) {xs : List D} {vs : List V} (r : RepL K F H xs vs) : Rep K (F1 F p) (upd H p (.lst vs)) (.lst xs) (.ref p) :=
  ⟨p, vs, rfl, ⟨.inr rfl, upd_same⟩, RepL.mono (new_k o hp _) xs r⟩
theorem new_tup (o : Ok K F ρ H L) {p : Addr} (hp : H p = none) {xs : List D} {vs : List V} (r : RepL K F H xs vs) : Rep K (F1 F p) (upd H p (.tup vs)) (.tup xs) (.ref p) :=
  ⟨p, vs, rfl, .inl ⟨.inr rfl, .inl upd_same⟩, RepL.mono (new_k o hp _) xs r⟩
end
end VL

set_option Elab.async false
set_option linter.all false
set_option maxRecDepth 100000
set_option maxHeartbeats 4000000
namespace VL
open PySem PySem.Spec PyProof.Rows L2
open PySem.W (Frag)

section
variable {X : Cx} {W : WX} {a b c : Expr} {fa fb fc : EF} {pos : Pos}

/-! ### names, constants -/
def eVar (i : Nat) : EF := fun st L => match st[i]? with
  | some (some u) => .ok u L
  | _ => .no
theorem ke_var (i : Nat) {x : Str} (hN : X.N[i]? = some x := by rfl) (hv : Vis X.env.scope x := by first | exact Or.inl rfl | exact Or.inr (Or.inl rfl) | exact Or.inr (Or.inr rfl)) (hd : (x == ("__debug__" : Str)) = false := by decide)
    (hcd : (x == ("__classdict__" : Str)) = false := by decide) : KE X W (.Name x pos) (eVar i) := by
  refine pe_wk (pe_var hN hv hd hcd) fun σ H Q ⟨F, ρ, L, st, o, r, h⟩ => ?_
  unfold eVar at h
  split at h
  · rename_i u e
    obtain ⟨v, e1, r1⟩ := r.at_ i u e
    exact ⟨v, e1, h.fin o r1⟩
  · exact h.elim
/-- a variable whose object comes to rest as it is read -/
def fz (r : Rs U) : Rs U := r.bind fun u L => opt (fzU L u) fun p => .ok (.d p.1) p.2
def eC (d : D) : EF := fun _ L => .ok (.d d) L
theorem ke_c {e : Expr} {d : D} {v : V} (h : PE X e (tC v)) (hr : ∀ K F H, Rep K F H d v) : KE X W e (eC d) := pe_wk h fun σ H Q ⟨F, ρ, L, st, o, r, h⟩ => h.fin (b := v) o (hr _ _ _)
theorem ke_int {i j pos} : KE X W (.Constant (.int i) j pos) (eC (.int i)) := ke_c pe_int fun _ _ _ => rfl
theorem ke_bl {i j pos} : KE X W (.Constant (.bool i) j pos) (eC (.bl i)) := ke_c pe_bl fun _ _ _ => rfl
theorem ke_non {j pos} : KE X W (.Constant .none j pos) (eC .non) := ke_c pe_non fun _ _ _ => rfl
theorem ke_str {i j pos} : KE X W (.Constant (.str i) j pos) (eC (.str i)) := ke_c pe_str fun _ _ _ => rfl
theorem ke_obj {x : Str} {f : Addr} (hm : X.mg x = some (.ref f)) (hg : Gl X x := by rfl) (hd : (x == ("__debug__" : Str)) = false := by decide) : KE X W (.Name x pos) (eC (.obj f)) := ke_c (pe_glob (v := .ref f) hg hm rfl hd) fun _ _ _ => rfl
theorem ke_ty {x : Str} {n : String} (hm : X.mg x = none) (hv : bootBuiltins x = some (.type n)) (hg : Gl X x := by rfl) (hn : x ≠ "__name__" := by decide) (hd : (x == ("__debug__" : Str)) = false := by decide) : KE X W (.Name x pos) (eC (.ty n)) :=
  ke_c (pe_bltn (v := .ty n) hg hm hv rfl hn hd) fun _ _ _ => rfl

/-! ### operators on what is read -/
def rD2 (K : Frag) (g : D → D → Option D) : R2 := fun x y H Q => ∃ F ρ L dx dy d, Ok K F ρ H L ∧ Rdr K F H dx x ∧ Rdr K F H dy y ∧ g dx dy = some d ∧
  ∀ F' H' z, Step F ρ H L F' ρ H' L → Ok K F' ρ H' L → Rep K F' H' d z → Q z H'
def rD1 (K : Frag) (g : D → Option D) : V → Hp → VK → Prop := fun x H Q => ∃ F ρ L dx d, Ok K F ρ H L ∧ Rdr K F H dx x ∧ g dx = some d ∧
  ∀ F' H' z, Step F ρ H L F' ρ H' L → Ok K F' ρ H' L → Rep K F' H' d z → Q z H'
def op2 (g : D → D → Option D) (x y : U) (L : LS) : Rs U := opt (rdU L x) fun dx => opt (rdU L y) fun dy => opt (g dx dy) fun d => .ok (.d d) L
def op1 (g : D → Option D) (x : U) (L : LS) : Rs U := opt (rdU L x) fun dx => opt (g dx) fun d => .ok (.d d) L
def eBin (g : D → D → Option D) (fa fb : EF) : EF := fun st L => (fa st L).bind fun x L1 => (fb st L1).bind fun y L2 => op2 g x y L2
def eUn (g : D → Option D) (fa : EF) : EF := fun st L => (fa st L).bind fun x L1 => op1 g x L1
theorem op2_ok {g : D → D → Option D} {K : Frag} {W : WX} {σ : L2.St} {F : Addr → Prop} {ρ : Nat → Addr} {H : Hp} {L : LS} {x y : U} {v w : V} {Q : VK} (o : Ok K F ρ H L) (px : RepU K F ρ H L x v) (py : RepU K F ρ H L y w) (h : GE RepU K W σ F ρ H L Q (op2 g x y L)) : rD2 K g v w H Q := by
  obtain ⟨dx, e1, h⟩ := h.opt
  obtain ⟨dy, e2, h⟩ := h.opt
  obtain ⟨d, e3, h⟩ := h.opt
  exact ⟨F, ρ, L, dx, dy, d, o, rdr_of o px e1, rdr_of o py e2, e3, fun F' H' z s o' r => h F' ρ H' z s o' r⟩
theorem op1_ok {g : D → Option D} {K : Frag} {W : WX} {σ : L2.St} {F : Addr → Prop} {ρ : Nat → Addr} {H : Hp} {L : LS} {x : U} {v : V} {Q : VK} (o : Ok K F ρ H L) (px : RepU K F ρ H L x v) (h : GE RepU K W σ F ρ H L Q (op1 g x L)) : rD1 K g v H Q := by
  obtain ⟨dx, e1, h⟩ := h.opt
  obtain ⟨d, e3, h⟩ := h.opt
  exact ⟨F, ρ, L, dx, d, o, rdr_of o px e1, e3, fun F' H' z s o' r => h F' ρ H' z s o' r⟩
theorem two_ok {g : D → D → Option D} {σ : L2.St} {H : Hp} {Q : VK} (h : RG RepU X.K W (eBin g fa fb) σ H Q) : tOp (rD2 X.K g) (RG RepU X.K W fa) (RG RepU X.K W fb) σ H Q := by
  obtain ⟨F, ρ, L, st, o, r, h⟩ := h
  refine RG.one o r h fun x H1 F1 ρ1 L1 u s1 o1 r1 p1 h1 => ?_
  refine RG.one o1 r1 h1 fun y H2 F2 ρ2 L2 u2 s2 o2 r2 p2 h2 => ?_
  exact op2_ok o2 (p1.mono s2) p2 h2
theorem ke_bin {op : Operator} {g : D → D → Option D} (ho : OpR X (binaryOp op) (rD2 X.K g)) (ha : KE X W a fa) (hb : KE X W b fb) : KE X W (.BinOp a op b pos) (eBin g fa fb) := pe_wk (pe_op ho ha hb) fun σ H Q h => two_ok h
theorem ke_un {op : UnaryOp} {g : D → Option D} (ho : UnR X (unaryOp op) (rD1 X.K g)) (ha : KE X W a fa) : KE X W (.UnaryOp op a pos) (eUn g fa) := by
  refine pe_wk (pe_un ho ha) fun σ H Q ⟨F, ρ, L, st, o, r, h⟩ => ?_
  refine RG.one o r h fun x H1 F1 ρ1 L1 u s1 o1 r1 p1 h1 => ?_
  exact op1_ok o1 p1 h1

/-- how a rule of the layer for two values comes to data -/
theorem OpR.toD {f : Value → Value → Sem Value} {r : R2} {g : D → D → Option D} (h : OpR X f r)
    (q : ∀ F ρ L H dx dy d x y Q, Ok X.K F ρ H L → Rdr X.K F H dx x → Rdr X.K F H dy y → g dx dy = some d → (∀ F' H' z, Step F ρ H L F' ρ H' L → Ok X.K F' ρ H' L → Rep X.K F' H' d z → Q z H') → r x y H Q) : OpR X f (rD2 X.K g) := by
  intro pins s σ H x y v u Q I rx ry ⟨F, ρ, L, dx, dy, d, o, r1, r2, e, k⟩
  exact h pins s σ H x y v u Q I rx ry (q F ρ L H dx dy d x y Q o r1 r2 e k)
end

/-! ### what the operators reckon -/
abbrev big : Nat := 16777216
theorem big_eq : sizeLine = big := sizeLine_eq
def smallI (i : Int) : Bool := decide (-(2 ^ 64) < i) && decide (i < 2 ^ 64)
theorem smallI_of {i : Int} (h : smallI i = true) : -(2 ^ 64) < i ∧ i < 2 ^ 64 := by
  simp only [smallI, Bool.and_eq_true, decide_eq_true_eq] at h
  exact h
def addD : D → D → Option D
  | .int i, .int j => some (.int (i + j))
  | .str x, .str y => if x.length + y.length ≤ big then some (.str (x ++ y)) else none
  | .lst x, .lst y => if x.length + y.length ≤ big then some (.lst (x ++ y)) else none
  | _, _ => none
def subD : D → D → Option D
  | .int i, .int j => some (.int (i - j))
  | _, _ => none
def mulD : D → D → Option D
  | .int i, .int j => if smallI i || smallI j then some (.int (i * j)) else none
  | .lst x, .int k => if -(2 ^ 63) ≤ k ∧ k < 2 ^ 63 ∧ x.length * k.toNat ≤ big then some (.lst (List.replicate k.toNat x).flatten) else none
  | _, _ => none
def modD : D → D → Option D
  | .int i, .int j => if 0 < j then some (.int (i % j)) else none
  | _, _ => none
def divD : D → D → Option D
  | .int i, .int j => if 0 < j ∧ j < 1073741824 then some (.int (i / j)) else none
  | _, _ => none
def powD : D → D → Option D
  | .int i, .int j => if 0 ≤ j ∧ j ≤ 1000000 ∧ i.natAbs < 2 ^ 64 then some (.int (i ^ j.toNat)) else none
  | _, _ => none
def negD : D → Option D
  | .int i => some (.int (-i))
  | _ => none
section
variable {X : Cx}
theorem RepL.rep {K : Frag} {F : Addr → Prop} {H : Hp} {ds : List D} {vs : List V} (h : RepL K F H ds vs) : ∀ k : Nat, RepL K F H (List.replicate k ds).flatten (List.replicate k vs).flatten
  | 0 => rfl
  | k + 1 => by
    rw [List.replicate_succ, List.replicate_succ, List.flatten_cons, List.flatten_cons]
    exact h.append (RepL.rep h k)
theorem od_add : OpR X (binaryOp .Add) (rD2 X.K addD) := by
  refine OpR.toD (op_add.or (op_add_str.or op_cat)) fun F ρ L H dx dy d x y Q o r1 r2 e k => ?_
  cases dx <;> cases dy <;> simp only [addD] at e <;> try cases e
  · cases r1; cases r2
    exact .inl ⟨_, _, rfl, rfl, k F H _ Step.refl o rfl⟩
  · cases r1; cases r2
    split at e
    · rename_i hz
      cases e
      exact .inr (.inl ⟨_, _, rfl, rfl, by rw [big_eq]; exact hz, k F H _ Step.refl o rfl⟩)
    · cases e
  · rename_i xs ys
    obtain ⟨p, vs, rfl, h1, q1⟩ := r1
    obtain ⟨p2, vs2, rfl, h2, q2⟩ := r2
    split at e
    · rename_i hz
      cases e
      refine .inr (.inr ⟨_, _, _, _, rfl, rfl, h1, h2, by rw [big_eq, q1.length, q2.length]; exact hz, fun t ht => ?_⟩)
      obtain ⟨s, o'⟩ := new_ok o ht (.lst (vs ++ vs2))
      exact k _ _ _ s o' (new_lst o ht (q1.append q2))
    · cases e
theorem od_sub : OpR X (binaryOp .Sub) (rD2 X.K subD) := by
  refine OpR.toD op_sub fun F ρ L H dx dy d x y Q o r1 r2 e k => ?_
  cases dx <;> cases dy <;> simp only [subD] at e <;> try cases e
  cases r1; cases r2
  exact ⟨_, _, rfl, rfl, k F H _ Step.refl o rfl⟩
theorem od_mul : OpR X (binaryOp .Mult) (rD2 X.K mulD) := by
  refine OpR.toD (op_mul.or op_rep) fun F ρ L H dx dy d x y Q o r1 r2 e k => ?_
  cases dx <;> cases dy <;> simp only [mulD] at e <;> try cases e
  · cases r1; cases r2
    split at e
    · rename_i hz
      cases e
      refine .inl ⟨_, _, rfl, rfl, ?_, k F H _ Step.refl o rfl⟩
      rcases Bool.or_eq_true_iff.mp hz with z | z
      · exact .inl (smallI_of z)
      · exact .inr (smallI_of z)
    · cases e
  · obtain ⟨p, vs, rfl, h1, q1⟩ := r1
    cases r2
    split at e
    · rename_i hz
      cases e
      refine .inr ⟨_, _, _, rfl, rfl, h1, hz.1, hz.2.1, by rw [big_eq, q1.length]; exact hz.2.2, fun t ht => ?_⟩
      obtain ⟨s, o'⟩ := new_ok o ht (.lst (List.replicate (Int.toNat _) vs).flatten)
      exact k _ _ _ s o' (new_lst o ht (q1.rep _))
    · cases e
theorem od_mod : OpR X (binaryOp .Mod) (rD2 X.K modD) := by
  refine OpR.toD op_mod fun F ρ L H dx dy d x y Q o r1 r2 e k => ?_
  cases dx <;> cases dy <;> simp only [modD] at e <;> try cases e
  cases r1; cases r2
  split at e
  · rename_i hz
    cases e
    exact ⟨_, _, rfl, rfl, hz, k F H _ Step.refl o rfl⟩
  · cases e
theorem od_div : OpR X (binaryOp .FloorDiv) (rD2 X.K divD) := by
  refine OpR.toD op_fdiv fun F ρ L H dx dy d x y Q o r1 r2 e k => ?_
  cases dx <;> cases dy <;> simp only [divD] at e <;> try cases e
  cases r1; cases r2
  split at e
  · rename_i hz
    cases e
    exact ⟨_, _, rfl, rfl, hz, k F H _ Step.refl o rfl⟩
  · cases e
theorem od_pow : OpR X (binaryOp .Pow) (rD2 X.K powD) := by
  refine OpR.toD op_pow fun F ρ L H dx dy d x y Q o r1 r2 e k => ?_
  cases dx <;> cases dy <;> simp only [powD] at e <;> try cases e
  cases r1; cases r2
  split at e
  · rename_i hz
    cases e
    exact ⟨_, _, rfl, rfl, hz, k F H _ Step.refl o rfl⟩
  · cases e
theorem od_neg : UnR X (unaryOp .USub) (rD1 X.K negD) := by
  intro pins s σ H x v Q I rx ⟨F, ρ, L, dx, d, o, r1, e, k⟩
  cases dx <;> simp only [negD] at e <;> try cases e
  cases r1
  exact un_neg pins s σ H _ v Q I rx ⟨_, rfl, k F H _ Step.refl o rfl⟩
end
end VL

set_option Elab.async false
set_option linter.all false
set_option maxRecDepth 100000
set_option maxHeartbeats 4000000
namespace VL
open PySem PySem.Spec PyProof.Rows L2
open PySem.W (Frag)

/-! ### plain data -/
mutual
def toPy : D → Option PyData
  | .non => some .none
  | .bl b => some (.bool b)
  | .int i => some (.int i)
  | .str x => some (.str x)
  | .lst xs => (toPyL xs).map .list
  | .tup xs => (toPyL xs).map .tuple
  | _ => none
def toPyL : List D → Option (List PyData)
  | [] => some []
  | d :: ds => (toPy d).bind fun p => (toPyL ds).map (p :: ·)
end
mutual
theorem toPy_dp {K : Frag} {F : Addr → Prop} {H : Hp} : ∀ (d : D) {v : V} {p : PyData}, Rdr K F H d v → toPy d = some p → Dp K H v p
  | .non, _, _, h, e => by cases h; simp only [toPy] at e; cases e; exact .non
  | .bl b, _, _, h, e => by cases h; simp only [toPy] at e; cases e; exact .bl _
  | .int b, _, _, h, e => by cases h; simp only [toPy] at e; cases e; exact .int _
  | .str b, _, _, h, e => by cases h; simp only [toPy] at e; cases e; exact .str _
  | .lst xs, _, _, ⟨a, vs, e1, h, r⟩, e => by
    subst e1
    simp only [toPy, Option.map_eq_some_iff] at e
    obtain ⟨ps, e2, rfl⟩ := e
    exact .lst (.inl (.inl h)) (toPyL_dp xs r e2)
  | .tup xs, _, _, ⟨a, vs, e1, h, r⟩, e => by
    subst e1
    simp only [toPy, Option.map_eq_some_iff] at e
    obtain ⟨ps, e2, rfl⟩ := e
    exact .tup h (toPyL_dp xs r e2)
  | .dic _ _, _, _, _, e => by simp [toPy] at e
  | .dit _ _, _, _, _, e => by simp [toPy] at e
  | .ins _ _ _, _, _, _, e => by simp [toPy] at e
  | .exc _ _ _, _, _, _, e => by simp [toPy] at e
  | .ex0 _, _, _, _, e => by simp [toPy] at e
  | .obj _, _, _, _, e => by simp [toPy] at e
  | .ty _, _, _, _, e => by simp [toPy] at e
  | .scr _, _, _, _, e => by simp [toPy] at e
theorem toPyL_dp {K : Frag} {F : Addr → Prop} {H : Hp} : ∀ (ds : List D) {vs : List V} {ps : List PyData}, RepL K F H ds vs → toPyL ds = some ps → DpAll K H vs ps
  | [], _, _, h, e => by cases h; simp only [toPyL] at e; cases e; exact .nil
  | d :: ds, _, _, ⟨v, r, e1, h, t⟩, e => by
    subst e1
    simp only [toPyL, Option.bind_eq_some_iff, Option.map_eq_some_iff] at e
    obtain ⟨p, e2, ps, e3, rfl⟩ := e
    exact .cons (toPy_dp d (Rep.rdr h) e2) (toPyL_dp ds t e3)
end
mutual
theorem toPy_plain : ∀ (d : D) {p : PyData}, toPy d = some p → p.plain = true
  | .non, _, e => by simp only [toPy] at e; cases e; rfl
  | .bl b, _, e => by simp only [toPy] at e; cases e; rfl
  | .int b, _, e => by simp only [toPy] at e; cases e; rfl
  | .str b, _, e => by simp only [toPy] at e; cases e; rfl
  | .lst xs, _, e => by
    simp only [toPy, Option.map_eq_some_iff] at e
    obtain ⟨ps, e2, rfl⟩ := e
    simp only [PyData.plain]; exact toPyL_plain xs e2
  | .tup xs, _, e => by
    simp only [toPy, Option.map_eq_some_iff] at e
    obtain ⟨ps, e2, rfl⟩ := e
    simp only [PyData.plain]; exact toPyL_plain xs e2
  | .dic _ _, _, e => by simp [toPy] at e
  | .dit _ _, _, e => by simp [toPy] at e
  | .ins _ _ _, _, e => by simp [toPy] at e
  | .exc _ _ _, _, e => by simp [toPy] at e
  | .ex0 _, _, e => by simp [toPy] at e
  | .obj _, _, e => by simp [toPy] at e
  | .ty _, _, e => by simp [toPy] at e
  | .scr _, _, e => by simp [toPy] at e
theorem toPyL_plain : ∀ (ds : List D) {ps : List PyData}, toPyL ds = some ps → PyData.plainAll ps = true
  | [], _, e => by simp only [toPyL] at e; cases e; rfl
  | d :: ds, _, e => by
    simp only [toPyL, Option.bind_eq_some_iff, Option.map_eq_some_iff] at e
    obtain ⟨p, e2, ps, e3, rfl⟩ := e
    simp only [PyData.plainAll, toPy_plain d e2, toPyL_plain ds e3]; rfl
end

/-! ### comparisons -/
def eqB (dx dy : D) : Option Bool := (toPy dx).bind fun p => (toPy dy).bind fun q => if p.depth ≤ 64 then some (PyData.eqv p q) else none
def neB (dx dy : D) : Option Bool := (eqB dx dy).map (!·)
def ltB : D → D → Option Bool
  | .int i, .int j => some (decide (i < j))
  | .str x, .str y => some (decide (x.cps.toList < y.cps.toList))
  | _, _ => none
def gtB : D → D → Option Bool
  | .int i, .int j => some (decide (j < i))
  | _, _ => none
def geB : D → D → Option Bool
  | .int i, .int j => some (decide (j ≤ i))
  | _, _ => none
abbrev bD (gb : D → D → Option Bool) : D → D → Option D := fun x y => (gb x y).map D.bl

section
variable {X : Cx} {W : WX} {a b c : Expr} {fa fb fc : EF} {pos : Pos}
theorem od_eq (hu : X.A.units + 64 < cLine) : OpR X (compareOp .Eq) (rD2 X.K (bD eqB)) := by
  intro pins s σ H x y v u Q I rx ry ⟨F, ρ, L, dx, dy, d, o, r1, r2, e, k⟩
  simp only [bD, eqB, Option.map_eq_some_iff, Option.bind_eq_some_iff] at e
  obtain ⟨kk, ⟨p, e1, q, e2, e3⟩, rfl⟩ := e
  split at e3
  · rename_i hd
    cases e3
    obtain ⟨as, q1⟩ := Dp.reads I p x v (toPy_dp dx r1 e1) rx
    obtain ⟨bs, q2⟩ := Dp.reads I q y u (toPy_dp dy r2 e2) ry
    exact PySem.SeqAt.eq_plain q1 q2 (toPy_plain dx e1) (toPy_plain dy e2) (by have : min p.depth q.depth ≤ p.depth := Nat.min_le_left _ _; omega) ⟨.bl _, H, I, rfl, k F H _ Step.refl o rfl⟩
  · cases e3
theorem od_ne (hu : X.A.units + 64 < cLine) : OpR X (compareOp .NotEq) (rD2 X.K (bD neB)) := by
  intro pins s σ H x y v u Q I rx ry ⟨F, ρ, L, dx, dy, d, o, r1, r2, e, k⟩
  simp only [bD, neB, eqB, Option.map_eq_some_iff, Option.bind_eq_some_iff] at e
  obtain ⟨kk, ⟨k0, ⟨p, e1, q, e2, e3⟩, rfl⟩, rfl⟩ := e
  split at e3
  · rename_i hd
    cases e3
    obtain ⟨as, q1⟩ := Dp.reads I p x v (toPy_dp dx r1 e1) rx
    obtain ⟨bs, q2⟩ := Dp.reads I q y u (toPy_dp dy r2 e2) ry
    exact PySem.SeqAt.ne_plain q1 q2 (toPy_plain dx e1) (toPy_plain dy e2) (by have : min p.depth q.depth ≤ p.depth := Nat.min_le_left _ _; omega) ⟨.bl _, H, I, rfl, k F H _ Step.refl o rfl⟩
  · cases e3
theorem od_lt : OpR X (compareOp .Lt) (rD2 X.K (bD ltB)) := by
  refine OpR.toD (op_lt.or op_lt_str) fun F ρ L H dx dy d x y Q o r1 r2 e k => ?_
  cases dx <;> cases dy <;> simp only [bD, ltB, Option.map] at e <;> try cases e
  · cases r1; cases r2
    exact .inl ⟨_, _, rfl, rfl, k F H _ Step.refl o rfl⟩
  · cases r1; cases r2
    exact .inr ⟨_, _, rfl, rfl, k F H _ Step.refl o rfl⟩
theorem od_gt : OpR X (compareOp .Gt) (rD2 X.K (bD gtB)) := by
  refine OpR.toD op_gt fun F ρ L H dx dy d x y Q o r1 r2 e k => ?_
  cases dx <;> cases dy <;> simp only [bD, gtB, Option.map] at e <;> try cases e
  cases r1; cases r2
  exact ⟨_, _, rfl, rfl, k F H _ Step.refl o rfl⟩
theorem od_ge : OpR X (compareOp .GtE) (rD2 X.K (bD geB)) := by
  refine OpR.toD op_ge fun F ρ L H dx dy d x y Q o r1 r2 e k => ?_
  cases dx <;> cases dy <;> simp only [bD, geB, Option.map] at e <;> try cases e
  cases r1; cases r2
  exact ⟨_, _, rfl, rfl, k F H _ Step.refl o rfl⟩
/-! ### a comparison as a value, as a test; chains -/
def eCmp (gb : D → D → Option Bool) (fa fb : EF) : EF := eBin (bD gb) fa fb
def bop2 (gb : D → D → Option Bool) (x y : U) (L : LS) : Rs Bool := opt (rdU L x) fun dx => opt (rdU L y) fun dy => opt (gb dx dy) fun k => .ok k L
def bCmp (gb : D → D → Option Bool) (fa fb : EF) : TF := fun st L => (fa st L).bind fun x L1 => (fb st L1).bind fun y L2 => bop2 gb x y L2
theorem bop2_ok {gb : D → D → Option Bool} {K : Frag} {W : WX} {σ : L2.St} {F : Addr → Prop} {ρ : Nat → Addr} {H : Hp} {L : LS} {x y : U} {v w : V} {Q : Bool → Hp → Prop} (o : Ok K F ρ H L) (px : RepU K F ρ H L x v) (py : RepU K F ρ H L y w) (h : GE PB K W σ F ρ H L Q (bop2 gb x y L)) :
    rD2 K (bD gb) v w H (fun z H' => ∃ k, z = .bl k ∧ Q k H') := by
  obtain ⟨dx, e1, h⟩ := h.opt
  obtain ⟨dy, e2, h⟩ := h.opt
  obtain ⟨k, e3, h⟩ := h.opt
  exact ⟨F, ρ, L, dx, dy, .bl k, o, rdr_of o px e1, rdr_of o py e2, by simp [bD, e3], fun F' H' z s o' r => ⟨k, r, h F' ρ H' k s o' rfl⟩⟩
theorem ke_cmp {op : CmpOp} {gb : D → D → Option Bool} (ho : OpR X (compareOp op) (rD2 X.K (bD gb))) (ha : KE X W a fa) (hb : KE X W b fb) (hm : behindInMarks op b = false) : KE X W (.Compare a [op] [b] pos) (eCmp gb fa fb) := pe_wk (pe_cmpR ho ha hb hm) fun σ H Q h => two_ok h
theorem kb_cmp {op : CmpOp} {gb : D → D → Option Bool} (ho : OpR X (compareOp op) (rD2 X.K (bD gb))) (ha : KE X W a fa) (hb : KE X W b fb) (hm : behindInMarks op b = false) : KB X W (.Compare a [op] [b] pos) (bCmp gb fa fb) := by
  refine pt_wk (pt_cmpR ho ha hb hm) fun σ H Q ⟨F, ρ, L, st, o, r, h⟩ => ?_
  refine RG.one o r h fun x H1 F1 ρ1 L1 u s1 o1 r1 p1 h1 => ?_
  refine RG.one o1 r1 h1 fun y H2 F2 ρ2 L2 u2 s2 o2 r2 p2 h2 => ?_
  exact bop2_ok o2 (p1.mono s2) p2 h2
def eChain (gb gc : D → D → Option Bool) (fa fb fc : EF) : EF := fun st L => (fa st L).bind fun x L1 => (fb st L1).bind fun y L2 => (bop2 gb x y L2).bind fun k L3 => if k then (fc st L3).bind fun z L4 => op2 (bD gc) y z L4 else .ok (.d (.bl false)) L3
def bChain (gb gc : D → D → Option Bool) (fa fb fc : EF) : TF := fun st L => (fa st L).bind fun x L1 => (fb st L1).bind fun y L2 => (bop2 gb x y L2).bind fun k L3 => if k then (fc st L3).bind fun z L4 => bop2 gc y z L4 else .ok false L3
/-! ### truth -/
def truB : D → Option Bool
  | .non => some false
  | .bl b => some b
  | .int i => some (i != 0)
  | .str x => if x.length ≤ big then some ((x.length : Int) != 0) else none
  | .lst xs => some (!xs.isEmpty)
  | .tup xs => some (!xs.isEmpty)
  | .dic ks xs => some (!ks.isEmpty)
  | _ => none
theorem isEmpty_len {α β : Type} {xs : List α} {ys : List β} (h : ys.length = xs.length) : (!ys.isEmpty) = !xs.isEmpty := by
  cases xs <;> cases ys <;> simp_all
theorem truB_ok {K : Frag} {F : Addr → Prop} {H : Hp} {d : D} {x : V} {k : Bool} (r : Rdr K F H d x) (e : truB d = some k) : TruV K x H k := by
  cases d with
  | non => cases r; cases e; rfl
  | bl _ => cases r; cases e; rfl
  | int _ => cases r; cases e; rfl
  | str y =>
    cases r
    have e : (if y.length ≤ big then some ((y.length : Int) != 0) else none) = some k := e
    split at e
    · rename_i h; cases e; exact ⟨by rw [big_eq]; exact h, rfl⟩
    · cases e
  | lst xs => obtain ⟨a, vs, rfl, h, q⟩ := r; cases e; exact .inl ⟨vs, .inl (.inl h), (isEmpty_len q.length).symm⟩
  | tup xs => obtain ⟨a, vs, rfl, h, q⟩ := r; cases e; exact .inr (.inl ⟨vs, h, (isEmpty_len q.length).symm⟩)
  | dic ks xs => obtain ⟨a, kvs, rfl, h, hk, q⟩ := r; cases e; exact .inr (.inr ⟨kvs, h, by subst hk; cases kvs <;> rfl⟩)
  | _ => simp only [truB] at e; cases e
def trU (x : U) (L : LS) : Option Bool := (rdU L x).bind truB
theorem trU_ok {K : Frag} {F : Addr → Prop} {ρ : Nat → Addr} {H : Hp} {L : LS} {x : U} {v : V} {k : Bool} (o : Ok K F ρ H L) (p : RepU K F ρ H L x v) (e : trU x L = some k) : TruV K v H k := by
  obtain ⟨d, e1, e2⟩ := Option.bind_eq_some_iff.mp e
  exact truB_ok (rdr_of o p e1) e2
def bTru (fa : EF) : TF := fun st L => (fa st L).bind fun x L1 => opt (trU x L1) fun k => .ok k L1
theorem kb_tru (ha : KE X W a fa) (he : ∀ whole, isTrue a X.env whole = (do let v ← whole; standAt a.pos; holding [v] (truthy v)) := by intro _; rfl) : KB X W a (bTru fa) := by
  refine pt_wk (pt_truth ha he) fun σ H Q ⟨F, ρ, L, st, o, r, h⟩ => ?_
  refine RG.one o r h fun x H1 F1 ρ1 L1 u s1 o1 r1 p1 h1 => ?_
  obtain ⟨k, e, h1⟩ := h1.opt
  exact ⟨k, trU_ok o1 p1 e, h1.fin o1 rfl⟩

/-! ### and, or, not, if -/
variable {rest : List Expr} {ta tb tc : TF}
def eAnd (fa fb : EF) : EF := fun st L => (fa st L).bind fun x L1 => opt (trU x L1) fun k => if k then fb st L1 else .ok x L1
def eOr (fa fb : EF) : EF := fun st L => (fa st L).bind fun x L1 => opt (trU x L1) fun k => if k then .ok x L1 else fb st L1
def eNot (fa : EF) : EF := fun st L => (fa st L).bind fun x L1 => opt (trU x L1) fun k => .ok (.d (.bl (!k))) L1
theorem ke_one {op} (h : KE X W a fa) : KE X W (.BoolOp op [a] pos) fa := pe_one h
theorem ke_and (ha : KE X W a fa) (hb : KE X W (.BoolOp .And (b :: rest) pos) fb) : KE X W (.BoolOp .And (a :: b :: rest) pos) (eAnd fa fb) := by
  refine pe_wk (pe_andT ha hb) fun σ H Q ⟨F, ρ, L, st, o, r, h⟩ => ?_
  refine RG.one o r h fun x H1 F1 ρ1 L1 u s1 o1 r1 p1 h1 => ?_
  obtain ⟨k, e, h1⟩ := h1.opt
  refine ⟨k, trU_ok o1 p1 e, ?_⟩
  cases k with
  | true => exact iteT (RG.of o1 r1 h1)
  | false => exact iteF (h1.fin o1 p1)
theorem ke_not (ha : KE X W a fa) : KE X W (.UnaryOp .Not a pos) (eNot fa) := by
  refine pe_wk (pe_notT ha) fun σ H Q ⟨F, ρ, L, st, o, r, h⟩ => ?_
  refine RG.one o r h fun x H1 F1 ρ1 L1 u s1 o1 r1 p1 h1 => ?_
  obtain ⟨k, e, h1⟩ := h1.opt
  exact ⟨k, trU_ok o1 p1 e, h1 F1 ρ1 H1 (V.bl (!k)) Step.refl o1 (show Rep X.K F1 H1 (.bl (!k)) (.bl (!k)) from rfl)⟩
def bAnd (ta tb : TF) : TF := fun st L => (ta st L).bind fun k L1 => if k then tb st L1 else .ok false L1
def bOr (ta tb : TF) : TF := fun st L => (ta st L).bind fun k L1 => if k then .ok true L1 else tb st L1
def bNot (ta : TF) : TF := fun st L => (ta st L).bind fun k L1 => .ok (!k) L1
theorem kw_and1 (ha : KB X W a ta) : KW X W (.BoolOp .And [a] pos) ta := pw_and1 ha
theorem kw_or1 (ha : KB X W a ta) : KW X W (.BoolOp .Or [a] pos) ta := pw_or1 ha
theorem kw_and (ha : KB X W a ta) (hb : KW X W (.BoolOp .And (b :: rest) pos) tb) : KW X W (.BoolOp .And (a :: b :: rest) pos) (bAnd ta tb) := by
  refine pw_wk (pw_and ha hb) fun σ H Q ⟨F, ρ, L, st, o, r, h⟩ => ?_
  refine RG.one (P := PB) o r h fun x H1 F1 ρ1 L1 u s1 o1 r1 p1 h1 => ?_
  obtain rfl : u = x := p1
  cases u with
  | true => exact iteT (RG.of o1 r1 h1)
  | false => exact iteF (h1.fin o1 rfl)
theorem kw_or (ha : KB X W a ta) (hb : KW X W (.BoolOp .Or (b :: rest) pos) tb) : KW X W (.BoolOp .Or (a :: b :: rest) pos) (bOr ta tb) := by
  refine pw_wk (pw_or ha hb) fun σ H Q ⟨F, ρ, L, st, o, r, h⟩ => ?_
  refine RG.one (P := PB) o r h fun x H1 F1 ρ1 L1 u s1 o1 r1 p1 h1 => ?_
  obtain rfl : u = x := p1
  cases u with
  | true => exact iteT (h1.fin o1 rfl)
  | false => exact iteF (RG.of o1 r1 h1)
theorem kb_w (h : KW X W a ta) : KB X W a ta := PW.pt h
theorem kb_not (ha : KB X W a ta) : KB X W (.UnaryOp .Not a pos) (bNot ta) := by
  refine pt_wk (pt_not ha) fun σ H Q ⟨F, ρ, L, st, o, r, h⟩ => ?_
  refine RG.one (P := PB) o r h fun x H1 F1 ρ1 L1 u s1 o1 r1 p1 h1 => ?_
  obtain rfl : u = x := p1
  exact h1.fin o1 rfl
def eIf (t : TF) (fa fb : EF) : EF := fun st L => (t st L).bind fun k L1 => if k then fa st L1 else fb st L1
end
end VL

set_option Elab.async false
set_option linter.all false
set_option maxRecDepth 100000
set_option maxHeartbeats 4000000
namespace VL
open PySem PySem.Spec PyProof.Rows L2
open PySem.W (Frag)

/-! ### lists of what is read, of what comes to rest -/
def RdrL (K : Frag) (F : Addr → Prop) (H : Hp) : List D → List V → Prop
  | [], vs => vs = []
  | d :: ds, vs => ∃ v r, vs = v :: r ∧ Rdr K F H d v ∧ RdrL K F H ds r
def rdUs (L : LS) : List U → Option (List D)
  | [] => some []
  | u :: us => (rdU L u).bind fun d => (rdUs L us).map (d :: ·)
def fzUs (L : LS) : List U → Option (List D × LS)
  | [] => some ([], L)
  | u :: us => (fzU L u).bind fun p => (fzUs p.2 us).map fun q => (p.1 :: q.1, q.2)
section
variable {K : Frag} {F : Addr → Prop} {ρ : Nat → Addr} {H : Hp} {L : LS}
theorem rdrs_of (o : Ok K F ρ H L) : ∀ {us : List U} {vs : List V} {ds : List D}, RepUs K F ρ H L us vs → rdUs L us = some ds → RdrL K F H ds vs
  | [], _, _, h, e => by cases h; cases e; rfl
  | u :: us, _, _, ⟨v, r, e1, h, t⟩, e => by
    subst e1
    simp only [rdUs, Option.bind_eq_some_iff, Option.map_eq_some_iff] at e
    obtain ⟨d, e2, ds, e3, rfl⟩ := e
    exact ⟨v, r, rfl, rdr_of o h e2, rdrs_of o t e3⟩
theorem fzUs_ok : ∀ {us : List U} {vs : List V} {ds : List D} {F : Addr → Prop} {L L' : LS}, Ok K F ρ H L → RepUs K F ρ H L us vs → fzUs L us = some (ds, L') → ∃ F', Step F ρ H L F' ρ H L' ∧ Ok K F' ρ H L' ∧ RepL K F' H ds vs
  | [], _, _, F, L, L', o, h, e => by cases h; cases e; exact ⟨F, Step.refl, o, rfl⟩
  | u :: us, _, _, F, L, L', o, ⟨v, r, e1, h, t⟩, e => by
    subst e1
    simp only [fzUs, Option.bind_eq_some_iff, Option.map_eq_some_iff] at e
    obtain ⟨⟨d, L1⟩, e2, ⟨ds, L2⟩, e3, e4⟩ := e
    obtain ⟨rfl, rfl⟩ := Prod.mk.inj e4
    obtain ⟨F1, s1, o1, r1⟩ := fzU_ok o h e2
    obtain ⟨F2, s2, o2, r2⟩ := fzUs_ok (us := us) o1 (t.mono s1) e3
    exact ⟨F2, s1.trans s2, o2, v, r, rfl, Rep.mono s2.fz d r1, r2⟩
/-- a new object that still changes -/
def ρ1 (ρ : Nat → Addr) (L : LS) (p : Addr) : Nat → Addr := fun n => if n = L.length then p else ρ n
theorem live_ok (o : Ok K F ρ H L) {p : Addr} (hp : H p = none) {u : HO} {lo : LO} (on : lo.on = true) (h : LAt K F (upd H p u) p lo) : Step F ρ H L F (ρ1 ρ L p) (upd H p u) (L ++ [lo]) ∧ Ok K F (ρ1 ρ L p) (upd H p u) (L ++ [lo]) := by
  have k : ∀ a, F a → F a ∧ upd H p u a = H a := fun a f => ⟨f, upd_ne fun z => o.stands a f (z ▸ hp)⟩
  have old : ∀ n, n < L.length → ρ1 ρ L p n = ρ n := fun n h => if_neg (Nat.ne_of_lt h)
  have new : ρ1 ρ L p L.length = p := if_pos rfl
  have gt : ∀ {m lo'}, (L ++ [lo])[m]? = some lo' → (m < L.length ∧ L[m]? = some lo') ∨ (m = L.length ∧ lo' = lo) := fun {m lo'} e => by
    by_cases hm : m < L.length
    · rw [List.getElem?_append_left hm] at e; exact .inl ⟨hm, e⟩
    · have hm' : m = L.length := by
        have := (List.getElem?_eq_some_iff.mp e).1
        simp at this; omega
      subst hm'
      rw [List.getElem?_append_right (Nat.le_refl _)] at e
      simp at e
      exact .inr ⟨rfl, e.symm⟩
  have npl : ∀ {m lo'}, L[m]? = some lo' → lo'.on = true → ρ m ≠ p := fun {m lo'} e t z => by
    have h := o.at_ m lo' e
    cases lo' with
    | l xs => obtain ⟨_, vs, h1, _⟩ := h; rw [z, hp] at h1; cases h1
    | d ks xs => obtain ⟨_, vs, h1, _⟩ := h; rw [z, hp] at h1; cases h1
    | t ks xs => obtain ⟨_, vs, h1, _⟩ := h; rw [z, hp] at h1; cases h1
    | i C ns xs => obtain ⟨_, dx, fs, h1, _⟩ := h; rw [z, hp] at h1; cases h1
    | z d => cases t
  refine ⟨⟨k, by simp, fun n h => old n h, fun a w e _ => by rw [upd_ne (ne_of_none e hp)]; exact e, fun n l h e _ => ?_, fun n l h e t => ?_, fun a h => ?_, fun a f => .inl f⟩, ⟨fun m lo' e => ?_, fun m n lo1 lo2 e1 e2 t1 t2 q => ?_, fun a f => by rw [(k a f).2]; exact o.stands a f⟩⟩
  · rcases gt e with ⟨hm, _⟩ | ⟨hm, _⟩
    · omega
    · rw [hm, new]; exact hp
  · rw [List.getElem?_append_left h] at e; exact ⟨l, e, t⟩
  · by_cases z : a = p
    · subst z; rw [upd_same] at h; cases h
    · rw [upd_ne z] at h; exact h
  · rcases gt e with ⟨hm, e⟩ | ⟨rfl, rfl⟩
    · rw [old m hm]
      have h' := o.at_ m lo' e
      cases lo' with
      | l xs => have ne := npl e rfl; obtain ⟨f, vs, h1, h2⟩ := h'; exact ⟨f, vs, by rw [upd_ne ne]; exact h1, RepL.mono k xs h2⟩
      | d ks xs => have ne := npl e rfl; obtain ⟨f, vs, h1, h2, h3⟩ := h'; exact ⟨f, vs, by rw [upd_ne ne]; exact h1, h2, RepL.mono k xs h3⟩
      | t ks xs => have ne := npl e rfl; obtain ⟨f, vs, h1, h2, h3⟩ := h'; exact ⟨f, vs, by rw [upd_ne ne]; exact h1, h2, RepL.mono k xs h3⟩
      | i C ns xs => have ne := npl e rfl; obtain ⟨f, dx, fs, h1, oc, h2, h3⟩ := h'; exact ⟨f, dx, fs, by rw [upd_ne ne]; exact h1, oc, h2, RepL.mono k xs h3⟩
      | z d => exact Rep.mono k d h'
    · rw [new]; exact h
  · rcases gt e1 with ⟨h1, f1⟩ | ⟨h1, g1⟩ <;> rcases gt e2 with ⟨h2, f2⟩ | ⟨h2, g2⟩
    · rw [old m h1, old n h2] at q; exact o.inj m n _ _ f1 f2 t1 t2 q
    · rw [old m h1, h2, new] at q; exact absurd q (npl f1 t1)
    · rw [old n h2, h1, new] at q; exact absurd q.symm (npl f2 t2)
    · rw [h1, h2]
theorem nF (o : Ok K F ρ H L) {p : Addr} (hp : H p = none) : ¬ F p := fun f => o.stands p f hp
end

section
variable {X : Cx} {W : WX} {a b c e : Expr} {fa fb fc : EF} {pos : Pos} {es : List Expr} {f : AF}
/-! ### arguments, displays -/
def aNil : AF := fun _ L => .ok [] L
def aCons (fa : EF) (f : AF) : AF := fun st L => (fa st L).bind fun u L1 => (f st L1).bind fun us L2 => .ok (u :: us) L2
theorem ka_nil : KA X W [] aNil := pa_wk pa_nil fun σ H Q ⟨F, ρ, L, st, o, r, h⟩ => h.fin (b := []) o rfl
theorem ka_cons (ha : KE X W e fa) (hr : KA X W es f) (hs : starEach (e :: es) X.env = (false, eval e X.env) :: starEach es X.env := by rfl) : KA X W (e :: es) (aCons fa f) := by
  refine pa_wk (pa_cons ha hr hs) fun σ H Q ⟨F, ρ, L, st, o, r, h⟩ => ?_
  refine RG.one o r h fun x H1 F1 ρ1 L1 u s1 o1 r1 p1 h1 => ?_
  refine RG.one o1 r1 h1 fun y H2 F2 ρ2 L2 u2 s2 o2 r2 p2 h2 => ?_
  exact h2.fin o2 ⟨x, y, rfl, p1.mono s2, p2⟩
def eLst (f : AF) : EF := fun st L => (f st L).bind fun us L1 => opt (fzUs L1 us) fun p => if p.1.length ≤ big then .ok (.d (.lst p.1)) p.2 else .no
def eTup (f : AF) : EF := fun st L => (f st L).bind fun us L1 => opt (fzUs L1 us) fun p => if p.1.length ≤ big then .ok (.d (.tup p.1)) p.2 else .no
/-- a list that still changes -/
def eLstL (f : AF) : EF := fun st L => (f st L).bind fun us L1 => opt (fzUs L1 us) fun p => if p.1.length ≤ big then .ok (.l p.2.length) (p.2 ++ [.l p.1]) else .no
theorem ge_if {α β : Type} {P : PP α β} {K : Frag} {W : WX} {σ : L2.St} {F : Addr → Prop} {ρ : Nat → Addr} {H : Hp} {L : LS} {Q : β → Hp → Prop} {c : Prop} [Decidable c] {x : Rs α} (h : GE P K W σ F ρ H L Q (if c then x else .no)) : c ∧ GE P K W σ F ρ H L Q x := by
  by_cases hc : c
  · rw [if_pos hc] at h; exact ⟨hc, h⟩
  · rw [if_neg hc] at h; exact h.elim
theorem ke_lst (h : KA X W es f) : KE X W (.List es pos) (eLst f) := by
  refine pe_wk (pe_lst h) fun σ H Q ⟨F, ρ, L, st, o, r, h⟩ => ?_
  refine RG.one o r h fun x H1 F1 ρ1 L1 u s1 o1 r1 p1 h1 => ?_
  obtain ⟨⟨ds, L2⟩, e1, h1⟩ := h1.opt
  obtain ⟨hz, h1⟩ := ge_if h1
  obtain ⟨F2, s2, o2, q2⟩ := fzUs_ok o1 p1 e1
  refine ⟨by rw [big_eq, q2.length]; exact hz, fun p hp => ?_⟩
  obtain ⟨s3, o3⟩ := new_ok o2 hp (.lst x)
  exact h1 _ _ _ _ (s2.trans s3) o3 (new_lst o2 hp q2)
theorem ke_tup {x1} (h : KA X W es f) : KE X W (.Tuple es x1 pos) (eTup f) := by
  refine pe_wk (pe_tup h) fun σ H Q ⟨F, ρ, L, st, o, r, h⟩ => ?_
  refine RG.one o r h fun x H1 F1 ρ1 L1 u s1 o1 r1 p1 h1 => ?_
  obtain ⟨⟨ds, L2⟩, e1, h1⟩ := h1.opt
  obtain ⟨hz, h1⟩ := ge_if h1
  obtain ⟨F2, s2, o2, q2⟩ := fzUs_ok o1 p1 e1
  refine ⟨by rw [big_eq, q2.length]; exact hz, fun p hp => ?_⟩
  obtain ⟨s3, o3⟩ := new_ok o2 hp (.tup x)
  exact h1 _ _ _ _ (s2.trans s3) o3 (new_tup o2 hp q2)
theorem ke_lstL (h : KA X W es f) : KE X W (.List es pos) (eLstL f) := by
  refine pe_wk (pe_lst h) fun σ H Q ⟨F, ρ, L, st, o, r, h⟩ => ?_
  refine RG.one o r h fun x H1 F1 ρ1 L1 u s1 o1 r1 p1 h1 => ?_
  obtain ⟨⟨ds, L2⟩, e1, h1⟩ := h1.opt
  obtain ⟨hz, h1⟩ := ge_if h1
  obtain ⟨F2, s2, o2, q2⟩ := fzUs_ok o1 p1 e1
  refine ⟨by rw [big_eq, q2.length]; exact hz, fun p hp => ?_⟩
  have k : ∀ a, F2 a → F2 a ∧ upd H1 p (.lst x) a = H1 a := fun a f => ⟨f, upd_ne fun z => o2.stands a f (z ▸ hp)⟩
  obtain ⟨s3, o3⟩ := live_ok o2 hp (u := .lst x) (lo := .l ds) rfl ⟨nF o2 hp, x, upd_same, RepL.mono k ds q2⟩
  refine h1 _ _ _ _ (s2.trans s3) o3 ⟨by simp, ?_⟩
  show V.ref p = V.ref (if L2.length = L2.length then p else _)
  rw [if_pos rfl]

/-! ### built-ins by name -/
def rDn (K : Frag) (g : List D → Option D) : List V → Hp → VK → Prop := fun xs H Q => ∃ F ρ L ds d, Ok K F ρ H L ∧ RdrL K F H ds xs ∧ g ds = some d ∧
  ∀ F' H' z, Step F ρ H L F' ρ H' L → Ok K F' ρ H' L → Rep K F' H' d z → Q z H'
def opn (g : List D → Option D) (us : List U) (L : LS) : Rs U := opt (rdUs L us) fun ds => opt (g ds) fun d => .ok (.d d) L
def eFn (g : List D → Option D) (f : AF) : EF := fun st L => (f st L).bind fun us L1 => opn g us L1
theorem opn_ok {g : List D → Option D} {K : Frag} {W : WX} {σ : L2.St} {F : Addr → Prop} {ρ : Nat → Addr} {H : Hp} {L : LS} {us : List U} {vs : List V} {Q : VK} (o : Ok K F ρ H L) (px : RepUs K F ρ H L us vs) (h : GE RepU K W σ F ρ H L Q (opn g us L)) : rDn K g vs H Q := by
  obtain ⟨ds, e1, h⟩ := h.opt
  obtain ⟨d, e3, h⟩ := h.opt
  exact ⟨F, ρ, L, ds, d, o, rdrs_of o px e1, e3, fun F' H' z s o' r => h F' ρ H' z s o' r⟩
theorem CallR.toD {f : Value} {r : List V → Hp → VK → Prop} {g : List D → Option D} (h : CallR X f r)
    (q : ∀ F ρ L H ds d xs Q, Ok X.K F ρ H L → RdrL X.K F H ds xs → g ds = some d → (∀ F' H' z, Step F ρ H L F' ρ H' L → Ok X.K F' ρ H' L → Rep X.K F' H' d z → Q z H') → r xs H Q) : CallR X f (rDn X.K g) := by
  intro pins s σ H xs us Q I rs ⟨F, ρ, L, ds, d, o, r1, e, k⟩
  exact h pins s σ H xs us Q I rs (q F ρ L H ds d xs Q o r1 e k)
theorem ke_callB {x : Str} {id : String} {p : Pos} {g : List D → Option D} (hc : CallR X (.builtin id) (rDn X.K g)) (hm : X.mg x = none) (hv : bootBuiltins x = some (.builtin id)) (ha : KA X W (e :: es) f) (hg : Gl X x := by rfl) (hn : x ≠ "__name__" := by decide) (hdb : (x == ("__debug__" : Str)) = false := by decide)
    (he : starEach (e :: es) X.env = (false, eval e X.env) :: starEach es X.env := by rfl) (hpl : (backTo pos (starEach es X.env)).any (·.1) = false := by rfl) : KE X W (.Call (.Name x p) (e :: es) [] pos) (eFn g f) := by
  refine pe_wk (pe_callB hc hg hm hv ha hn hdb he hpl) fun σ H Q ⟨F, ρ, L, st, o, r, h⟩ => ?_
  refine RG.one o r h fun x H1 F1 ρ1 L1 u s1 o1 r1 p1 h1 => ?_
  exact opn_ok o1 p1 h1
theorem ke_callT {x : Str} {T : String} {p : Pos} {g : List D → Option D} (hc : CallR X (.type T) (rDn X.K g)) (hm : X.mg x = none) (hv : bootBuiltins x = some (.type T)) (ha : KA X W (e :: es) f) (hg : Gl X x := by rfl) (hn : x ≠ "__name__" := by decide) (hdb : (x == ("__debug__" : Str)) = false := by decide)
    (he : starEach (e :: es) X.env = (false, eval e X.env) :: starEach es X.env := by rfl) (hpl : (backTo pos (starEach es X.env)).any (·.1) = false := by rfl) : KE X W (.Call (.Name x p) (e :: es) [] pos) (eFn g f) := by
  refine pe_wk (pe_callTy hc hg hm hv ha hn hdb he hpl) fun σ H Q ⟨F, ρ, L, st, o, r, h⟩ => ?_
  refine RG.one o r h fun x H1 F1 ρ1 L1 u s1 o1 r1 p1 h1 => ?_
  exact opn_ok o1 p1 h1
end

/-! ### len, abs, int, str, list, tuple, all, any, isinstance -/
def lenD : List D → Option D
  | [.str x] => if x.length ≤ big then some (.int x.length) else none
  | [.lst xs] => some (.int xs.length)
  | [.tup xs] => some (.int xs.length)
  | [.dic ks _] => some (.int ks.length)
  | _ => none
def absD : List D → Option D
  | [.int i] => some (.int (if i < 0 then -i else i))
  | _ => none
def listD : List D → Option D
  | [.lst xs] => some (.lst xs)
  | [.tup xs] => some (.lst xs)
  | [.scr ns] => some (.lst (ns.map .int))
  | _ => none
def strsD : List D → Option (List Str)
  | [] => some []
  | .str b :: ds => (strsD ds).map (b :: ·)
  | _ => none
/-- the type of a value -/
def tyD : D → Option Value
  | .non => some (.type "NoneType")
  | .bl _ => some (.type "bool")
  | .int _ => some (.type "int")
  | .str _ => some (.type "str")
  | .lst _ => some (.type "list")
  | .tup _ => some (.type "tuple")
  | .dic _ _ => some (.type "dict")
  | .dit _ _ => some (.type "dict")
  | .ins C _ _ => some (.ref C)
  | .exc C _ _ => some (.ref C)
  | .ex0 c => some c
  | _ => none
def clsD : D → Option Value
  | .ty n => some (.type n)
  | .obj C => some (.ref C)
  | _ => none
section
variable {X : Cx} {K : Frag} {F : Addr → Prop} {H : Hp}
theorem RepL.of_ints : ∀ (ns : List Int), RepL K F H (ns.map D.int) (ns.map V.int)
  | [] => rfl
  | n :: ns => ⟨_, _, rfl, rfl, RepL.of_ints ns⟩
theorem one_of {d : D} {xs : List V} (h : RdrL K F H [d] xs) : ∃ v, xs = [v] ∧ Rdr K F H d v := by
  obtain ⟨v, r, rfl, h, e⟩ := h
  cases e
  exact ⟨v, rfl, h⟩
theorem two_of {d e : D} {xs : List V} (h : RdrL K F H [d, e] xs) : ∃ v w, xs = [v, w] ∧ Rdr K F H d v ∧ Rdr K F H e w := by
  obtain ⟨v, r, rfl, h, w, t, rfl, h2, e⟩ := h
  cases e
  exact ⟨v, w, rfl, h, h2⟩
theorem cd_len : CallR X (.builtin "len") (rDn X.K lenD) := by
  refine CallR.toD (call_len.or call_lenD) fun F ρ L H ds d xs Q o r e k => ?_
  unfold lenD at e
  split at e <;> try cases e
  · rename_i x
    obtain ⟨v, rfl, h⟩ := one_of r
    cases h
    split at e
    · rename_i hz; cases e; exact .inl ⟨_, _, rfl, ⟨by rw [big_eq]; exact hz, rfl⟩, k F H _ Step.refl o rfl⟩
    · cases e
  · obtain ⟨v, rfl, a, vs, rfl, h, q⟩ := one_of r
    exact .inl ⟨_, _, rfl, .inl ⟨vs, .inl (.inl h), rfl⟩, by rw [q.length]; exact k F H _ Step.refl o rfl⟩
  · obtain ⟨v, rfl, a, vs, rfl, h, q⟩ := one_of r
    exact .inl ⟨_, _, rfl, .inr ⟨vs, h, rfl⟩, by rw [q.length]; exact k F H _ Step.refl o rfl⟩
  · obtain ⟨v, rfl, a, kvs, rfl, h, hk, q⟩ := one_of r
    subst hk
    refine .inr ⟨a, kvs, rfl, h, ?_⟩
    have z := k F H (.int ((kvs.map (fun x : Key × V => x.1)).length : Nat)) Step.refl o rfl
    rw [List.length_map] at z
    exact z
theorem cd_abs : CallR X (.builtin "abs") (rDn X.K absD) := by
  refine CallR.toD call_abs fun F ρ L H ds d xs Q o r e k => ?_
  unfold absD at e
  split at e <;> try cases e
  obtain ⟨v, rfl, h⟩ := one_of r
  cases h
  exact ⟨_, rfl, k F H _ Step.refl o rfl⟩
theorem cd_list : CallR X (.type "list") (rDn X.K listD) := by
  refine CallR.toD call_list_of fun F ρ L H ds d xs Q o r e k => ?_
  unfold listD at e
  split at e <;> try cases e
  · obtain ⟨v, rfl, a, vs, rfl, h, q⟩ := one_of r
    refine ⟨a, vs, rfl, .inl (.inl (.inl h)), fun l hl => ?_⟩
    obtain ⟨s, o'⟩ := new_ok o hl (.lst vs)
    exact k _ _ _ s o' (new_lst o hl q)
  · obtain ⟨v, rfl, a, vs, rfl, h, q⟩ := one_of r
    refine ⟨a, vs, rfl, .inr h, fun l hl => ?_⟩
    obtain ⟨s, o'⟩ := new_ok o hl (.lst vs)
    exact k _ _ _ s o' (new_lst o hl q)
  · rename_i ns
    obtain ⟨v, rfl, a, rfl, h⟩ := one_of r
    refine ⟨a, ns.map V.int, rfl, .inl h.sq, fun l hl => ?_⟩
    obtain ⟨s, o'⟩ := new_ok o hl (.lst (ns.map V.int))
    exact k _ _ _ s o' (new_lst o hl (RepL.of_ints ns))
end
end VL

set_option Elab.async false
set_option linter.all false
set_option maxRecDepth 100000
set_option maxHeartbeats 4000000
namespace VL
open PySem PySem.Spec PyProof.Rows L2
open PySem.W (Frag)

/-! ### isinstance -/
section
variable {X : Cx} {pins : List (Addr × Obj)} {σ : L2.St} {H : Hp} {s : Shared} {F : Addr → Prop}
theorem exc_inst {a C d : Addr} {fs : List (Str × V)} (I : Inv X pins σ H s) (h1 : H a = some (.ext (ExcO a C d))) (h2 : H d = some (.xd fs)) :
    ∃ (oe od : Obj) (mA : Str → Option Value), PySem.W.InstAt s.heap a oe C (some od) ∧ (∀ f, RelO (fs.lookup f) (mA f)) ∧ ∀ name, PySem.W.lookIn name od = some (mA name) := by
  obtain ⟨⟨oe, vs, g1, g2, g3, g4⟩, _⟩ := I.hok a _ h1
  have hx : ObjOk X.prog X.w H s.heap d (.xd fs) := I.hok d _ h2
  obtain ⟨mA, hns, hr⟩ := hx
  obtain ⟨od, ho, hl⟩ := lookIn_ns hns
  exact ⟨oe, od, mA, ⟨g1, g2, by unfold PySem.W.notCls; rw [g4] <;> rfl, by rw [g3]; exact ho⟩, hr, hl⟩
theorem kit_D {d : D} {x : V} {u t : Value} (I : Inv X pins σ H s) (rx : RelV x u) (r : Rdr X.K F H d x) (e : tyD d = some t) : ∃ P : Heap → Prop, PySem.W.KitX X.K u t P ∧ P s.heap ∧ u ≠ .builtin "__main__.__loader__#opaque" := by
  cases d with
  | non => cases r; cases e; exact kit_of I rx (.base .non)
  | bl b => cases r; cases e; exact kit_of I rx (.base (.bl b))
  | int b => cases r; cases e; exact kit_of I rx (.base (.int b))
  | str b => cases r; cases e; exact kit_of I rx (.base (.str b))
  | lst xs => obtain ⟨a, vs, rfl, h, _⟩ := r; cases e; exact kit_of I rx (.base (.lst h))
  | tup xs =>
    obtain ⟨a, vs, rfl, h, _⟩ := r; cases e
    rcases h with (h | ⟨o, h⟩) | ⟨o, its, n, hk, hc, _⟩
    · exact kit_of I rx (.base (.tup h))
    · exact kit_of I rx (.fTuple h)
    · exact kit_of I rx (.kTuple hk hc)
  | dic ks xs => obtain ⟨a, vs, rfl, h, _⟩ := r; cases e; exact kit_of I rx (.base (.dK h))
  | dit ks xs => obtain ⟨a, vs, rfl, h, _⟩ := r; cases e; exact kit_of I rx (.base (.dT h))
  | ins C ns xs => obtain ⟨a, dx, fs, rfl, h, oc, _⟩ := r; cases e; exact kit_of I rx (.base (.ins h oc.cl oc.ha oc.hn oc.ht oc.hm))
  | exc C ns xs =>
    obtain ⟨a, dd, fs, rfl, _, _, h, h2, oc, _⟩ := r; cases e
    cases (show u = Value.ref a from rx)
    obtain ⟨oe, od, mA, J, _⟩ := exc_inst I h h2
    obtain ⟨cd, hc, _⟩ := PySem.W.any_some oc.hd
    exact ⟨_, PySem.W.kitx_exc (by rw [hc]; rfl) oc.hg oc.hk oc.hs oc.ha oc.hn oc.ht oc.hm, J, fun z => nomatch z⟩
  | ex0 c =>
    obtain ⟨a, rfl, _, h, oc⟩ := r
    cases (show u = Value.ref a from rx)
    obtain ⟨⟨oe, vs, g1, g2, g3, g4⟩, _⟩ := I.hok a _ h
    cases c with
    | ref C =>
      cases e
      have oc : ExcC X.K C := oc
      obtain ⟨cd, hc, _⟩ := PySem.W.any_some oc.hd
      exact ⟨_, PySem.W.kitx_exc (ox := oe) (od := none) (by rw [hc]; rfl) oc.hg oc.hk oc.hs oc.ha oc.hn oc.ht oc.hm, ⟨g1, g2, by unfold PySem.W.notCls; rw [g4] <;> rfl, by rw [g3]; trivial⟩, fun z => nomatch z⟩
    | type n =>
      cases e
      have oc : n = "ValueError" := oc
      subst oc
      exact ⟨_, PySem.W.kitx_bexc PySem.F.excAttr_ValueError (by rw [typeLookup_type, builtinLookup_eq_fast]; kernel_rfl) (by rw [isSubtype_type]; kernel_rfl) (by decide), ⟨oe, g1, g2⟩, fun z => nomatch z⟩
    | _ => exact False.elim oc
  | obj a => cases e
  | ty n => cases e
  | scr ns => cases e
theorem cls_D {d : D} {x : V} {w t : Value} (rx : RelV x w) (r : Rdr X.K F H d x) (e : clsD d = some t) : w = t := by
  cases d <;> simp only [clsD] at e <;> cases e
  · cases r; exact rx
  · cases r; exact rx
end

/-! ### subscripts -/
def ixD : D → D → Option D
  | .lst xs, .int i => atI xs i
  | .tup xs, .int i => atI xs i
  | .str z, .int i => if z.length ≤ big then (atI z.cps.toList i).map fun c => .str ⟨#[c]⟩ else none
  | _, _ => none
theorem RepL.atI {K : Frag} {F : Addr → Prop} {H : Hp} {ds : List D} {vs : List V} (h : RepL K F H ds vs) {i : Int} {d : D} (e : atI ds i = some d) : ∃ v, L2.atI vs i = some v ∧ Rep K F H d v := by
  unfold L2.atI at e ⊢
  rw [h.length]
  obtain ⟨j, e1, e2⟩ := Option.bind_eq_some_iff.mp e
  obtain ⟨v, e3, r⟩ := h.get e2
  exact ⟨v, by rw [e1]; exact e3, r⟩
section
variable {X : Cx} {W : WX} {a b c e : Expr} {fa fb fc : EF} {pos : Pos}
theorem xd_seq : IxR X (rD2 X.K ixD) := by
  intro value slice pins s σ H x y v u Q I rx ry ⟨F, ρ, L, dx, dy, d, o, r1, r2, e, k⟩ hs
  refine ix_seq value slice pins s σ H x y v u Q I rx ry ?_ hs
  cases dx <;> cases dy <;> simp only [ixD] at e <;> try cases e
  · cases r1; cases r2
    split at e
    · rename_i hz
      obtain ⟨cc, e1, rfl⟩ := Option.map_eq_some_iff.mp e
      exact .inr (.inr ⟨_, _, cc, rfl, rfl, by rw [big_eq]; exact hz, e1, k F H _ Step.refl o rfl⟩)
    · cases e
  · obtain ⟨p, vs, rfl, h1, q1⟩ := r1
    cases r2
    obtain ⟨w, e2, rw'⟩ := q1.atI e
    exact .inl ⟨p, vs, _, w, rfl, rfl, .inl (.inl h1), e2, k F H _ Step.refl o rw'⟩
  · obtain ⟨p, vs, rfl, h1, q1⟩ := r1
    cases r2
    obtain ⟨w, e2, rw'⟩ := q1.atI e
    exact .inr (.inl ⟨p, vs, _, w, rfl, rfl, h1, e2, k F H _ Step.refl o rw'⟩)
theorem ke_ix {g : D → D → Option D} (hr : IxR X (rD2 X.K g)) (ha : KE X W a fa) (hb : KE X W b fb) (hs : PlainIx b := by exact fun _ _ => rfl) : KE X W (.Subscript a b pos) (eBin g fa fb) := pe_wk (pe_ix hr ha hb hs) fun σ H Q h => two_ok h

/-! ### slices -/
def cutG {α : Type} (xs : List α) (lo hi : Option Int) : List α := (xs.drop (HT.sIx xs.length 0 lo)).take (HT.sIx xs.length xs.length hi - HT.sIx xs.length 0 lo)
def sliceD : D → Option Int → Option Int → Option D
  | .str z, lo, hi => if z.length ≤ big then some (.str (cutS z lo hi)) else none
  | .lst xs, lo, hi => some (.lst (cutG xs lo hi))
  | .scr ns, lo, hi => some (.lst ((cutG ns lo hi).map .int))
  | _, _, _ => none
theorem RepL.cut {K : Frag} {F : Addr → Prop} {H : Hp} {ds : List D} {vs : List V} (h : RepL K F H ds vs) (lo hi : Option Int) : RepL K F H (cutG ds lo hi) (cutV vs lo hi) := by
  unfold cutG cutV
  rw [h.length]
  exact (h.drop _).take _
theorem cut_map {α β : Type} (f : α → β) (xs : List α) (lo hi : Option Int) : cutG (xs.map f) lo hi = (cutG xs lo hi).map f := by
  unfold cutG
  rw [List.length_map, List.map_take, List.map_drop]
abbrev OF := SS → LS → Rs (Option Int)
def PI' : PP (Option Int) (Option Int) := fun _ _ _ _ _ a b => a = b
abbrev KO (X : Cx) (W : WX) (e : Option Expr) (f : OF) : Prop := PO X e (RG PI' X.K W f)
def oNone : OF := fun _ L => .ok none L
def oSome (fa : EF) : OF := fun st L => (fa st L).bind fun x L1 => match x with
  | .d (.int i) => .ok (some i) L1
  | _ => .no
theorem po_wk {e : Option Expr} {t t' : TO} (h : PO X e t) (i : ∀ σ H Q, t' σ H Q → t σ H Q) : PO X e t' := ⟨fun pins s σ H Q I q => h.run pins s σ H Q I (i σ H Q q)⟩
theorem ko_none : KO X W none oNone := po_wk po_none fun σ H Q ⟨F, ρ, L, st, o, r, h⟩ => h.fin (b := none) o rfl
theorem ko_some (ha : KE X W a fa) : KO X W (some a) (oSome fa) := by
  refine po_wk (po_some ha) fun σ H Q ⟨F, ρ, L, st, o, r, h⟩ => ?_
  refine RG.one o r h fun x H1 F1 ρ1 L1 u s1 o1 r1 p1 h1 => ?_
  split at h1
  · exact ⟨_, p1, h1.fin o1 rfl⟩
  · exact h1.elim
def eSl (fa : EF) (fl fh : OF) : EF := fun st L => (fa st L).bind fun x L1 => (fl st L1).bind fun lo L2 => (fh st L2).bind fun hi L3 => opt (rdU L3 x) fun d => opt (sliceD d lo hi) fun r => .ok (.d r) L3
theorem ke_slice {lo hi : Option Expr} {fl fh : OF} {p2 : Pos} (ha : KE X W a fa) (hl : KO X W lo fl) (hh : KO X W hi fh) : KE X W (.Subscript a (.Slice lo hi none p2) pos) (eSl fa fl fh) := by
  refine pe_wk (pe_slice (sl_str.or sl_list) ha hl hh) fun σ H Q ⟨F, ρ, L, st, o, r, h⟩ => ?_
  refine RG.one o r h fun x H1 F1 ρ1 L1 u s1 o1 r1 p1 h1 => ?_
  refine RG.one (P := PI') o1 r1 h1 fun y H2 F2 ρ2 L2 u2 s2 o2 r2 p2 h2 => ?_
  refine RG.one (P := PI') o2 r2 h2 fun z H3 F3 ρ3 L3 u3 s3 o3 r3 p3 h3 => ?_
  obtain rfl : u2 = y := p2
  obtain rfl : u3 = z := p3
  obtain ⟨d, e1, h3⟩ := h3.opt
  obtain ⟨rr, e2, h3⟩ := h3.opt
  have rd := rdr_of o3 ((p1.mono s2).mono s3) e1
  cases d with
  | str zz =>
    cases rd
    have e2 : (if zz.length ≤ big then some (D.str (cutS zz u2 u3)) else none) = some rr := e2
    split at e2
    · rename_i hz; cases e2; exact .inl ⟨_, rfl, by rw [big_eq]; exact hz, h3.finD o3 rfl⟩
    · cases e2
  | lst xs =>
    cases e2
    obtain ⟨p, vs, rfl, g1, q1⟩ := rd
    refine .inr ⟨p, vs, rfl, .inl (.inl g1), fun t ht => ?_⟩
    obtain ⟨s4, o4⟩ := new_ok o3 ht (.lst (cutV vs u2 u3))
    exact h3 _ _ _ _ s4 o4 (new_lst o3 ht (q1.cut u2 u3))
  | scr ns =>
    cases e2
    obtain ⟨p, rfl, g1⟩ := rd
    refine .inr ⟨p, ns.map V.int, rfl, g1.sq, fun t ht => ?_⟩
    obtain ⟨s4, o4⟩ := new_ok o3 ht (.lst (cutV (ns.map V.int) u2 u3))
    refine h3 _ _ _ _ s4 o4 (new_lst o3 ht ?_)
    have z := (RepL.of_ints (K := X.K) (F := F3) (H := H3) ns).cut u2 u3
    rw [cut_map] at z
    exact z
  | _ => cases e2

/-! ### fields -/
def lookF (ns : List Str) (xs : List D) (f : Str) : Option D := (ns.zip xs).lookup f
def fldD (K : Frag) (f : Str) : D → Option D
  | .ins C ns xs => (match PySem.W.findIn K (.ref C) f with
    | some none => lookF ns xs f
    | _ => none)
  | .exc C ns xs => (match PySem.W.findIn K (.ref C) f with
    | some none => lookF ns xs f
    | _ => none)
  | _ => none
theorem lookF_ok {K : Frag} {F : Addr → Prop} {H : Hp} {f : Str} : ∀ {fs : List (Str × V)} {xs : List D} {d : D}, RepL K F H xs (fs.map (·.2)) → lookF (fs.map (·.1)) xs f = some d → ∃ v, fs.lookup f = some v ∧ Rep K F H d v
  | [], xs, d, _, e => by simp [lookF] at e
  | (n, v) :: fs, [], d, _, e => by simp [lookF] at e
  | (n, v) :: fs, x :: xs, d, ⟨v', r, e1, h, t⟩, e => by
    simp only [List.map_cons] at e1
    obtain ⟨rfl, rfl⟩ := List.cons.inj e1
    simp only [lookF, List.map_cons, List.zip_cons_cons, List.lookup_cons] at e ⊢
    split at e
    · cases e; exact ⟨v, rfl, h⟩
    · exact lookF_ok t e
theorem ke_fld {f : Str} (ha : KE X W a fa) (hb : attributeBase a f X.env (eval a X.env) = eval a X.env := by rfl) : KE X W (.Attribute a f pos) (eUn (fldD X.K f) fa) := by
  refine ⟨fun pins s σ H Q I ⟨F, ρ, L, st, o, r, h⟩ => ?_⟩
  refine attr_of hb (thn (PE.run ha pins s σ H _ I (RG.one (Q' := Nx RepU RepU X.K W σ F ρ H L Q fun x L1 => op1 (fldD X.K f) x L1) o r h fun x H1 F1 ρ1 L1 u s1 o1 r1 p1 h1 => ⟨F1, ρ1, L1, u, s1, o1, p1, h1⟩)) fun u s1 ⟨x, H1, I1, rx, F1, ρ1, L1, uu, st1, o1, p1, h1⟩ => ?_)
  obtain ⟨d, e1, h1⟩ := h1.opt
  obtain ⟨rr, e2, h9⟩ := h1.opt
  have rd := rdr_of o1 p1 e1
  cases d <;> simp only [fldD] at e2 <;> try cases e2
  · rename_i C ns xs
    obtain ⟨p, dx, fs, rfl, g1, oc, rfl, q⟩ := rd
    split at e2
    · rename_i hn
      obtain ⟨v, l, rv⟩ := lookF_ok q e2
      obtain rfl : u = Value.ref p := rx
      exact getattr_ok I1 g1 oc.cl hn l fun u' s2 I2 ru => ⟨v, H1, I2, ru, h9.finD o1 rv⟩
    · cases e2
  · rename_i C ns xs
    obtain ⟨p, dd, fs, rfl, f1, f2, g1, g2, oc, rfl, q⟩ := rd
    split at e2
    · rename_i hn
      obtain ⟨v, l, rv⟩ := lookF_ok q e2
      obtain rfl : u = Value.ref p := rx
      obtain ⟨oe, od, mA, J, hr, hl⟩ := exc_inst I1 g1 g2
      obtain ⟨w, hw, rw'⟩ := RelO.some_of (v := v) (o := mA f) (by rw [← l]; exact hr f)
      exact HandSPX.exc_get I1.kIn J oc.hg oc.hk oc.hs (PySem.W.findObj_own oc.hd hn rfl (by rw [hl, hw])) (handed_of rw') ⟨v, H1, I1.tok _, rw', h9.finD o1 rv⟩
    · cases e2

/-! ### sep.join(list of texts) -/
def joinD : D → D → Option D
  | .str a, .lst xs => (strsD xs).bind fun ys => if (ys.map (·.length)).sum + ys.length * a.length ≤ 16777216 then some (.str (Txt.join a ys)) else none
  | _, _ => none
def eJoin (fa fb : EF) : EF := fun st L => (fa st L).bind fun x L1 => match x with
  | .d (.str z) => (fb st L1).bind fun y L2 => op2 joinD x y L2
  | _ => .no
end
end VL

set_option Elab.async false
set_option linter.all false
set_option maxRecDepth 100000
set_option maxHeartbeats 4000000
namespace VL
open PySem PySem.Spec PyProof.Rows L2
open PySem.W (Frag)

/-- how a statement ends -/
inductive Rt where
  | nx (st : SS) (L : LS) | rt (u : U) (L : LS) | bk (st : SS) (L : LS) | ct (st : SS) (L : LS)
  | ex (C : Addr) (ns : List Str) (xs : List D) (st : SS) (L : LS) | no
abbrev SF := SS → LS → Rt
@[simp] def Rt.andThen : Rt → SF → Rt
  | .nx st L, g => g st L
  | r, _ => r
@[simp] def ofR {α : Type} : Rs α → SS → (α → LS → Rt) → Rt
  | .ok a L, _, k => k a L
  | .ex C ns xs L, st, _ => .ex C ns xs st L
  | .no, _, _ => .no
@[simp] def optS {α : Type} : Option α → (α → Rt) → Rt
  | some a, k => k a
  | none, _ => .no

def GS (K : Frag) (W : WX) (E : Ends) (F : Addr → Prop) (ρ : Nat → Addr) (H : Hp) (L : LS) : Rt → Prop
  | .nx st' L' => ∀ F' ρ' H' σ', Step F ρ H L F' ρ' H' L' → Ok K F' ρ' H' L' → RepSt K F' ρ' H' L' σ' st' → E.nx σ' H'
  | .bk st' L' => ∀ F' ρ' H' σ', Step F ρ H L F' ρ' H' L' → Ok K F' ρ' H' L' → RepSt K F' ρ' H' L' σ' st' → E.bk σ' H'
  | .ct st' L' => ∀ F' ρ' H' σ', Step F ρ H L F' ρ' H' L' → Ok K F' ρ' H' L' → RepSt K F' ρ' H' L' σ' st' → E.ct σ' H'
  | .rt u L' => ∀ F' ρ' H' v, Step F ρ H L F' ρ' H' L' → Ok K F' ρ' H' L' → RepU K F' ρ' H' L' u v → E.rt v H'
  | .ex C ns xs st' L' => ∀ F' ρ' H' σ' d, Step F ρ H L F' ρ' H' L' → Ok K F' ρ' H' L' → RepSt K F' ρ' H' L' σ' st' → Thrown K F' H' ns xs d → W (.ref C) d σ' H'
  | .no => False
def RS (K : Frag) (W : WX) (f : SF) : TS := fun E σ H => ∃ F ρ L st, Ok K F ρ H L ∧ RepSt K F ρ H L σ st ∧ GS K W E F ρ H L (f st L)
abbrev KS (X : Cx) (W : WX) (s : Stmt) (f : SF) : Prop := PS X s (RS X.K W f)
abbrev KSs (X : Cx) (W : WX) (s : List Stmt) (f : SF) : Prop := PSs X s (RS X.K W f)

section
variable {K : Frag} {W : WX} {E : Ends} {σ : L2.St} {F F' : Addr → Prop} {ρ ρ' : Nat → Addr} {H H' : Hp} {L L' : LS}
theorem GS.on {x : Rt} (s : Step F ρ H L F' ρ' H' L') (h : GS K W E F ρ H L x) : GS K W E F' ρ' H' L' x := by
  cases x with
  | nx st L2 => exact fun F2 ρ2 H2 b s2 => h F2 ρ2 H2 b (s.trans s2)
  | bk st L2 => exact fun F2 ρ2 H2 b s2 => h F2 ρ2 H2 b (s.trans s2)
  | ct st L2 => exact fun F2 ρ2 H2 b s2 => h F2 ρ2 H2 b (s.trans s2)
  | rt u L2 => exact fun F2 ρ2 H2 b s2 => h F2 ρ2 H2 b (s.trans s2)
  | ex C ns xs st L2 => exact fun F2 ρ2 H2 σ2 d s2 => h F2 ρ2 H2 σ2 d (s.trans s2)
  | no => exact h
theorem GS.nxt {st : SS} (h : GS K W E F ρ H L (.nx st L)) (o : Ok K F ρ H L) (r : RepSt K F ρ H L σ st) : E.nx σ H := h F ρ H σ Step.refl o r
/-- an expression read within a statement -/
theorem RS.one {α β : Type} {P : PP α β} {f : SS → LS → Rs α} {st : SS} {Q' : β → Hp → Prop} {g : α → LS → Rt} (o : Ok K F ρ H L) (r : RepSt K F ρ H L σ st) (h : GS K W E F ρ H L (ofR (f st L) st g))
    (q : ∀ b H1 F1 ρ1 L1 a, Step F ρ H L F1 ρ1 H1 L1 → Ok K F1 ρ1 H1 L1 → RepSt K F1 ρ1 H1 L1 σ st → P K F1 ρ1 H1 L1 a b → GS K W E F1 ρ1 H1 L1 (g a L1) → Q' b H1) : RG P K W f σ H Q' := by
  refine ⟨F, ρ, L, st, o, r, ?_⟩
  cases e : f st L with
  | ok a L1 =>
    rw [e] at h
    exact fun F1 ρ1 H1 b s1 o1 p1 => q b H1 F1 ρ1 L1 a s1 o1 (r.mono s1) p1 (GS.on s1 h)
  | ex C ns xs L1 =>
    rw [e] at h
    exact fun F1 ρ1 H1 d s1 o1 t => h F1 ρ1 H1 σ d s1 o1 (r.mono s1) t
  | no => rw [e] at h; exact h
theorem GS.optS {α : Type} {x : Option α} {f : α → Rt} (h : GS K W E F ρ H L (optS x f)) : ∃ a, x = some a ∧ GS K W E F ρ H L (f a) := by
  cases x with
  | some a => exact ⟨a, rfl, h⟩
  | none => exact h.elim
end

section
variable {X : Cx} {W : WX} {a b c e o : Expr} {fa fb fc fe : EF} {tc : TF} {pos : Pos} {st : Stmt} {rest : List Stmt} {f g : SF}
/-! ### blocks -/
def sNil : SF := fun st L => .nx st L
def sSeq (f g : SF) : SF := fun st L => (f st L).andThen g
theorem kss_nil : KSs X W [] sNil := pss_wk pss_nil fun D σ H ⟨F, ρ, L, st, o, r, h⟩ => h.nxt o r
theorem kss_cons (h1 : KS X W st f) (h2 : KSs X W rest g) : KSs X W (st :: rest) (sSeq f g) := by
  refine pss_wk (pss_cons h1 h2) fun D σ H ⟨F, ρ, L, st, o, r, h⟩ => ⟨F, ρ, L, st, o, r, ?_⟩
  unfold sSeq at h
  cases e : f st L with
  | nx st2 L2 =>
    rw [e] at h
    exact fun F2 ρ2 H2 σ2 s2 o2 r2 => ⟨F2, ρ2, L2, st2, o2, r2, GS.on s2 h⟩
  | bk st2 L2 => rw [e] at h; exact h
  | ct st2 L2 => rw [e] at h; exact h
  | rt u L2 => rw [e] at h; exact h
  | ex C ns xs st2 L2 => rw [e] at h; exact h
  | no => rw [e] at h; exact h
theorem kss_one (h1 : KS X W st f) : KSs X W [st] f := pss_one h1
def sDrop (fe : EF) : SF := fun st L => ofR (fe st L) st fun _ L1 => .nx st L1
theorem ks_expr (he : KE X W e fe) (hs : swapsWith e none pos.line X.env = pure false := by rfl) : KS X W (.Expr e pos) (sDrop fe) := by
  refine ps_wk (ps_expr he hs) fun D σ H ⟨F, ρ, L, st, o, r, h⟩ => ?_
  refine RS.one o r h fun x H1 F1 ρ1 L1 u s1 o1 r1 p1 h1 => ?_
  exact h1.nxt o1 r1
def sRet (fe : EF) : SF := fun st L => ofR (fe st L) st fun u L1 => .rt u L1
theorem ks_ret (he : KE X W e fe) : KS X W (.Return (some e) pos) (sRet fe) := by
  refine ps_wk (ps_ret he) fun D σ H ⟨F, ρ, L, st, o, r, h⟩ => ?_
  refine RS.one o r h fun x H1 F1 ρ1 L1 u s1 o1 r1 p1 h1 => ?_
  exact h1 F1 ρ1 H1 x Step.refl o1 p1
def sIf (t : TF) (f g : SF) : SF := fun st L => ofR (t st L) st fun k L1 => if k then f st L1 else g st L1
theorem ks_if {sa sb : List Stmt} (hc : KB X W c tc) (ha : KSs X W sa f) (hb : KSs X W sb g) : KS X W (.If c sa sb pos) (sIf tc f g) := by
  refine ps_wk (ps_if hc ha hb) fun D σ H ⟨F, ρ, L, st, o, r, h⟩ => ?_
  refine RS.one (P := PB) o r h fun x H1 F1 ρ1 L1 u s1 o1 r1 p1 h1 => ?_
  obtain rfl : u = x := p1
  cases u with
  | true => exact iteT ⟨F1, ρ1, L1, st, o1, r1, h1⟩
  | false => exact iteF ⟨F1, ρ1, L1, st, o1, r1, h1⟩
/-! ### x = e -/
def sSet (i : Nat) (fe : EF) : SF := fun st L => ofR (fe st L) st fun u L1 => .nx (st.set i (some u)) L1
theorem ks_set (i : Nat) {x : Str} {pos' : Pos} (hN : X.N.Nodup) (he : KE X W e fe) (hi : X.N[i]? = some x := by rfl) (hx : Loc X.env.scope x := by first | exact Or.inl rfl | exact Or.inr rfl) (hs : swapsWith e (some (.Name x pos')) pos.line X.env = pure false := by rfl)
    (hf : X.fn x = true ∨ X.env.scope.names.lookup x = some .local := by first | exact .inl rfl | exact .inr rfl | assumption) : KS X W (.Assign [.Name x pos'] e pos) (sSet i fe) := by
  refine ps_wk (ps_set hN hi hx he hs hf) fun D σ H ⟨F, ρ, L, st, o, r, h⟩ => ?_
  refine RS.one o r h fun x H1 F1 ρ1 L1 u s1 o1 r1 p1 h1 => ?_
  exact h1.nxt o1 (r1.set i p1)
/-- a, b = x, y -/
def sPar (i j : Nat) (fa : AF) : SF := fun st L => ofR (fa st L) st fun us L1 => match us with
  | [u, v] => .nx ((st.set i (some u)).set j (some v)) L1
  | _ => .no
theorem ks_par (i j : Nat) {x y : Str} {fa : AF} {px py pt : Pos} {kt k2 pt2} (hN : X.N.Nodup) (ha : KA X W [a, b] fa)
    (hc : X.calm = true := by rfl) (hi : X.N[i]? = some x := by rfl) (hj : X.N[j]? = some y := by rfl) (hij : i ≠ j := by decide)
    (hx : X.env.scope.names.lookup x = some .local := by rfl) (hy : X.env.scope.names.lookup y = some .local := by rfl)
    (hw : swappedStores [.Tuple [.Name x px, .Name y py] kt pt] (.Tuple [a, b] k2 pt2) X.env = pure (some [x, y]) := by rfl)
    (hs : swapsWithSole [.Tuple [.Name x px, .Name y py] kt pt] (.Tuple [a, b] k2 pt2) pos.line X.env = pure false := by rfl) :
    KS X W (.Assign [.Tuple [.Name x px, .Name y py] kt pt] (.Tuple [a, b] k2 pt2) pos) (sPar i j fa) := by
  refine ps_wk (ps_par hc hN hi hj hij hx hy ha hw hs) fun D σ H ⟨F, ρ, L, st, o, r, h⟩ => ?_
  refine RS.one (P := RepUs) o r h fun vs H1 F1 ρ1 L1 us s1 o1 r1 p1 h1 => ?_
  split at h1
  · rename_i u v
    obtain ⟨v1, t1, rfl, q1, v2, t2, rfl, q2, e⟩ := p1
    cases e
    exact ⟨v1, v2, rfl, h1.nxt o1 ((r1.set i q1).set j q2)⟩
  · exact h1.elim

/-! ### targets -/
theorem wipe_set (σ : L2.St) (i : Nat) : ∀ vs : List Nat, (wipe σ vs).set i none = wipe (σ.set i none) vs
  | [] => rfl
  | v :: vs => by
    show ((wipe σ vs).set v none).set i none = (wipe (σ.set i none) vs).set v none
    rw [← wipe_set σ i vs]
    by_cases h : v = i
    · subst h; rfl
    · rw [List.set_comm _ _ h]
theorem wipe_app (σ : L2.St) : ∀ a b : List Nat, wipe σ (a ++ b) = wipe (wipe σ b) a
  | [], _ => rfl
  | v :: a, b => by
    show (wipe σ (a ++ b)).set v none = (wipe (wipe σ b) a).set v none
    rw [wipe_app σ a b]
theorem wipe_comm (σ : L2.St) (b : List Nat) : ∀ a : List Nat, wipe (wipe σ b) a = wipe (wipe σ a) b
  | [] => rfl
  | v :: a => by
    show (wipe (wipe σ b) a).set v none = wipe ((wipe σ a).set v none) b
    rw [wipe_comm σ b a, wipe_set]
abbrev TgF := D → SS → Option SS
def RT (K : Frag) (is : List Nat) (tf : TgF) : TG := fun v σ H Q => ∃ F ρ L st d st', Ok K F ρ H L ∧ RepSt K F ρ H L σ st ∧ Rep K F H d v ∧ tf d st = some st' ∧ ∀ σ', RepSt K F ρ H L σ' st' → wipe σ' is = wipe σ is → Q σ' H
/-- is: the slots that are stored to -/
abbrev KG (X : Cx) (tg : Expr) (is : List Nat) (tf : TgF) : Prop := PG X tg (RT X.K is tf)
theorem pg_wk {tg : Expr} {t t' : TG} (h : PG X tg t) (i : ∀ v σ H Q, t' v σ H Q → t v σ H Q) : PG X tg t' := ⟨fun pins s σ H v u Q I r q => h.run pins s σ H v u Q I r (i v σ H Q q)⟩
def tfName (i : Nat) : TgF := fun d st => some (st.set i (some (.d d)))
theorem kg_name (i : Nat) {x : Str} (hN : X.N.Nodup) (hi : X.N[i]? = some x := by rfl) (hx : Loc X.env.scope x := by first | exact Or.inl rfl | exact Or.inr rfl) (hf : X.fn x = true ∨ X.env.scope.names.lookup x = some .local := by first | exact .inl rfl | exact .inr rfl | assumption) : KG X (.Name x pos) [i] (tfName i) := by
  refine pg_wk (pg_name hN hi hx hf) fun v σ H Q ⟨F, ρ, L, st, d, st', o, r, p, e, k⟩ => ?_
  cases e
  refine k _ (r.set i (show RepU X.K F ρ H L (.d d) v from p)) ?_
  show (σ.set i (some v)).set i none = σ.set i none
  simp
/-- (a, b, ..), names or tuples of names again -/
abbrev TgsF := List D → SS → Option SS
def RTs (K : Frag) (is : List Nat) (tf : TgsF) : TGs := fun vs σ H Q => ∃ F ρ L st ds st', Ok K F ρ H L ∧ RepSt K F ρ H L σ st ∧ RepL K F H ds vs ∧ tf ds st = some st' ∧ ∀ σ', RepSt K F ρ H L σ' st' → wipe σ' is = wipe σ is → Q σ' H
abbrev KGs (X : Cx) (tgs : List Expr) (is : List Nat) (tf : TgsF) : Prop := PGs X tgs (RTs X.K is tf)
theorem pgs_wk {tg : List Expr} {t t' : TGs} (h : PGs X tg t) (i : ∀ v σ H Q, t' v σ H Q → t v σ H Q) : PGs X tg t' := ⟨fun pins s σ H v u Q I r q => h.run pins s σ H v u Q I r (i v σ H Q q)⟩
def tfNil : TgsF := fun ds st => match ds with
  | [] => some st
  | _ => none
def tfCons (t : TgF) (u : TgsF) : TgsF := fun ds st => match ds with
  | d :: r => (t d st).bind fun st1 => u r st1
  | [] => none
theorem kgs_nil : KGs X [] [] tfNil := by
  refine pgs_wk pgs_nil fun v σ H Q ⟨F, ρ, L, st, ds, st', o, r, p, e, k⟩ => ?_
  cases ds with
  | nil => cases p; cases e; exact ⟨rfl, k _ r rfl⟩
  | cons d ds => cases e
theorem kgs_cons {e : Expr} {es : List Expr} {is js : List Nat} {t : TgF} {u : TgsF} (h1 : KG X e is t) (h2 : KGs X es js u) (hs : (assignEach (e :: es) X.env).map (·.2) = assign e X.env :: (assignEach es X.env).map (·.2) := by rfl) : KGs X (e :: es) (is ++ js) (tfCons t u) := by
  refine pgs_wk (pgs_cons h1 h2 hs) fun v σ H Q ⟨F, ρ, L, st, ds, st', o, r, p, e, k⟩ => ?_
  cases ds with
  | nil => cases e
  | cons d ds =>
    obtain ⟨v1, vr, rfl, q1, q2⟩ := p
    obtain ⟨st1, e1, e2⟩ := Option.bind_eq_some_iff.mp e
    refine ⟨v1, vr, rfl, F, ρ, L, st, d, st1, o, r, q1, e1, fun σ1 r1 w1 => ⟨F, ρ, L, st1, ds, st', o, r1, q2, e2, fun σ2 r2 w2 => k σ2 r2 ?_⟩⟩
    rw [wipe_app, wipe_app, w2, wipe_comm, w1, wipe_comm]
def tfTup (n : Nat) (u : TgsF) : TgF := fun d st => match d with
  | .tup ds => if ds.length = n then u ds st else none
  | _ => none
theorem kg_tup {es : List Expr} {kk : Nat} {is : List Nat} {u : TgsF} {n : Nat} (h : KGs X es is u) (hc : X.calm = true := by rfl) (hn : (assignEach es X.env).length = n := by rfl) (hst : (assignEach es X.env).findIdx? (·.1) = none := by rfl) : KG X (.Tuple es kk pos) is (tfTup n u) := by
  refine pg_wk (pg_tup hc h hn hst) fun v σ H Q ⟨F, ρ, L, st, d, st', o, r, p, e, k⟩ => ?_
  unfold tfTup at e
  split at e
  · rename_i ds
    obtain ⟨a, vs, rfl, g, q⟩ := p
    split at e
    · rename_i hl
      exact ⟨a, vs, rfl, g.sq, by rw [q.length]; exact hl, F, ρ, L, st, ds, st', o, r, q, e, k⟩
    · cases e
  · cases e
/-- (a, b, ..) = e -/
def sAsg (tf : TgF) (fe : EF) : SF := fun st L => ofR (fe st L) st fun u L1 => optS (fzU L1 u) fun p => optS (tf p.1 st) fun st' => .nx st' p.2
theorem ks_asg {tg : Expr} {is : List Nat} {tf : TgF} (he : KE X W e fe) (hg : KG X tg is tf) (hs : swapsWithSole [tg] e pos.line X.env = pure false := by rfl) (hw : swappedStores [tg] e X.env = pure none := by rfl) (h1 : (assignEach [tg] X.env).map (·.2) = [assign tg X.env] := by rfl) : KS X W (.Assign [tg] e pos) (sAsg tf fe) := by
  refine ps_wk (ps_asg he hg hs hw h1) fun D σ H ⟨F, ρ, L, st, o, r, h⟩ => ?_
  refine RS.one o r h fun x H1 F1 ρ1 L1 u s1 o1 r1 p1 h1 => ?_
  obtain ⟨⟨d, L2⟩, e1, h1⟩ := h1.optS
  obtain ⟨st', e2, h1⟩ := h1.optS
  obtain ⟨F2, s2, o2, q2⟩ := fzU_ok o1 p1 e1
  exact ⟨F2, ρ1, L2, st, d, st', o2, r1.mono s2, q2, e2, fun σ' r' _ => h1 F2 ρ1 H1 σ' s2 o2 r'⟩

/-! ### x[i] = e, on a list that still changes -/
theorem put_live {K : Frag} {F : Addr → Prop} {ρ : Nat → Addr} {H : Hp} {L : LS} (o : Ok K F ρ H L) {n : Nat} {lo lo' : LO} {u : HO} (e : L[n]? = some lo) (on : lo.on = true) (on' : lo'.on = true) (h : ∀ (k : ∀ a, F a → F a ∧ upd H (ρ n) u a = H a), ¬ F (ρ n) → LAt K F (upd H (ρ n) u) (ρ n) lo') :
    Step F ρ H L F ρ (upd H (ρ n) u) (L.set n lo') ∧ Ok K F ρ (upd H (ρ n) u) (L.set n lo') := by
  have hn : n < L.length := (List.getElem?_eq_some_iff.mp e).1
  have nf : ¬ F (ρ n) := by
    have h := o.at_ n lo e
    cases lo with
    | l xs => exact h.1
    | d ks xs => exact h.1
    | t ks xs => exact h.1
    | i C ns xs => exact h.1
    | z d => cases on
  have k : ∀ a, F a → F a ∧ upd H (ρ n) u a = H a := fun a f => ⟨f, upd_ne fun z => nf (z ▸ f)⟩
  have ne : ∀ {m l2}, L[m]? = some l2 → l2.on = true → m ≠ n → ρ m ≠ ρ n := fun {m l2} e2 t hm z => hm (o.inj m n l2 lo e2 e t on z)
  refine ⟨⟨k, by simp, fun _ _ => rfl, fun a w e2 hv => by rw [upd_ne fun z => hv ⟨n, lo, e, on, z.symm⟩]; exact e2, fun m l2 h q _ => ?_, fun m l2 h q t => ?_, fun a h => ?_, fun a f => .inl f⟩, ⟨fun m l2 q => ?_, fun m j l2 l3 q1 q2 t1 t2 q => ?_, fun a f => by rw [(k a f).2]; exact o.stands a f⟩⟩
  · have := (List.getElem?_eq_some_iff.mp q).1
    simp at this
    omega
  · by_cases hm : m = n
    · subst hm; exact ⟨lo, e, on⟩
    · rw [List.getElem?_set_ne (Ne.symm hm)] at q; exact ⟨l2, q, t⟩
  · by_cases z : a = ρ n
    · subst z; rw [upd_same] at h; cases h
    · rw [upd_ne z] at h; exact h
  · by_cases hm : m = n
    · subst hm; rw [List.getElem?_set_self hn] at q; cases q; exact h k nf
    · rw [List.getElem?_set_ne (Ne.symm hm)] at q
      have h' := o.at_ m l2 q
      cases l2 with
      | l xs => obtain ⟨f, vs, h1, h2⟩ := h'; exact ⟨f, vs, by rw [upd_ne (ne q rfl hm)]; exact h1, RepL.mono k xs h2⟩
      | d ks xs => obtain ⟨f, vs, h1, h2, h3⟩ := h'; exact ⟨f, vs, by rw [upd_ne (ne q rfl hm)]; exact h1, h2, RepL.mono k xs h3⟩
      | t ks xs => obtain ⟨f, vs, h1, h2, h3⟩ := h'; exact ⟨f, vs, by rw [upd_ne (ne q rfl hm)]; exact h1, h2, RepL.mono k xs h3⟩
      | i C ns xs => obtain ⟨f, dx, fs, h1, oc, h2, h3⟩ := h'; exact ⟨f, dx, fs, by rw [upd_ne (ne q rfl hm)]; exact h1, oc, h2, RepL.mono k xs h3⟩
      | z d => exact Rep.mono k d h'
  · have z : ∀ {j : Nat} {l3 : LO}, (L.set n lo')[j]? = some l3 → l3.on = true → ∃ l4, L[j]? = some l4 ∧ l4.on = true := fun {j l3} q t => by
      by_cases hj : j = n
      · subst hj; exact ⟨lo, e, on⟩
      · exact ⟨l3, by rwa [List.getElem?_set_ne (Ne.symm hj)] at q, t⟩
    obtain ⟨l4, e4, t4⟩ := z q1 t1
    obtain ⟨l5, e5, t5⟩ := z q2 t2
    exact o.inj m j l4 l5 e4 e5 t4 t5 q
def putAt (ou iu vu : U) (L : LS) : Option LS := match ou, iu with
  | .l n, .d (.int k) => (match L[n]? with
    | some (.l xs) => (fzU L vu).bind fun p => (match p.2[n]? with
      | some (.l ys) => (ixN ys.length k).map fun j => p.2.set n (.l (ys.set j p.1))
      | _ => none)
    | _ => none)
  | _, _ => none
def sSub (fo fi fe : EF) : SF := fun st L => ofR (fe st L) st fun v L1 => ofR (fo st L1) st fun ou L2 => ofR (fi st L2) st fun iu L3 => optS (putAt ou iu v L3) fun L4 => .nx st L4
theorem ks_sub {fo fi : EF} {i : Expr} {pos' : Pos} (ho : KE X W o fo) (hi : KE X W i fi) (he : KE X W e fe)
    (hs : swapsWithSole [.Subscript o i pos'] e pos.line X.env = pure false := by rfl) (hw : swappedStores [.Subscript o i pos'] e X.env = pure none := by rfl) (h1 : (assignEach [.Subscript o i pos'] X.env).map (·.2) = [assign (.Subscript o i pos') X.env] := by rfl)
    (ha : ∀ v, assign (.Subscript o i pos') X.env v = (do
      let ov ← holding [v] (eval o X.env)
      let iv ← holding [v, ov] (eval i X.env)
      standAt pos'
      holding [v, ov, iv] (setItem ov iv v)
      release [v, ov, iv] []) := by intro _; rfl) : KS X W (.Assign [.Subscript o i pos'] e pos) (sSub fo fi fe) := by
  refine ps_wk (ps_asg he (pg_sub ho hi set_list ha) hs hw h1) fun D σ H ⟨F, ρ, L, st, o, r, h⟩ => ?_
  refine RS.one o r h fun x H1 F1 ρ1 L1 u s1 o1 r1 p1 h1 => ?_
  refine RS.one o1 r1 h1 fun y H2 F2 ρ2 L2 u2 s2 o2 r2 p2 h2 => ?_
  refine RS.one o2 r2 h2 fun z H3 F3 ρ3 L3 u3 s3 o3 r3 p3 h3 => ?_
  obtain ⟨L4, e4, h3⟩ := h3.optS
  unfold putAt at e4
  split at e4
  · rename_i n k
    split at e4
    · rename_i xs hx
      obtain ⟨⟨d, L5⟩, e5, e4⟩ := Option.bind_eq_some_iff.mp e4
      split at e4
      · rename_i ys hy
        obtain ⟨j, ej, rfl⟩ := Option.map_eq_some_iff.mp e4
        obtain ⟨F5, s5, o5, q5⟩ := fzU_ok o3 ((p1.mono s2).mono s3) e5
        obtain ⟨_, vs, g1, g2⟩ := o5.at_ n _ hy
        have p2' := p2.mono s3
        obtain ⟨hn, hz⟩ := p2'
        obtain rfl : z = .int k := p3
        refine ⟨ρ3 n, vs, k, j, hz, rfl, g1, by rw [g2.length]; exact ej, ?_⟩
        obtain ⟨s6, o6⟩ := put_live (u := .lst (vs.set j x)) (lo' := .l (ys.set j d)) o5 hy rfl rfl fun kk nf => ⟨nf, _, upd_same, RepL.mono kk _ (g2.set j q5)⟩
        exact h3 F5 ρ3 _ σ (s5.trans s6) o6 ((r3.mono s5).mono s6)
      · cases e4
    · cases e4
  · cases e4
end
end VL

set_option Elab.async false
set_option linter.all false
set_option maxRecDepth 100000
set_option maxHeartbeats 4000000
namespace VL
open PySem PySem.Spec PyProof.Rows L2
open PySem.W (Frag)

/-- room for calls, and no repr under way -/
structure Rm (k : Nat) (A : Around) : Prop where
  rm : Room k A
  gd : A.guards = some []
theorem Rm.mono {j k : Nat} {A : Around} (r : Rm k A) (h : j ≤ k) : Rm j A := ⟨r.rm.mono h, r.gd⟩
theorem Rm.deeper {k : Nat} {A : Around} (r : Rm (k + 1) A) (env : Env) : Rm k (A.deeper env) := ⟨r.rm.deeper env, r.gd⟩
theorem Rm.u {k : Nat} {A : Around} (r : Rm k A) : A.units + 64 < cLine := r.rm.units
theorem Rm.u1 {k : Nat} {A : Around} (r : Rm k A) : A.units + 1 < cLine := by have := r.rm.units; omega
theorem make_guards {A : Around} {C : Addr} {us : List Value} {kw : List (Str × Value)} : (A.under (.builtin "type.__call__" ⟨.ref C :: us, kw⟩)).guards = A.guards := by
  first | rfl | simp [Around.under, Code.guards, Code.isGuard, guardIds, pushGuards]
theorem Rm.make {k : Nat} {A : Around} (r : Rm (k + 1) A) (C : Addr) (us : List Value) (kw : List (Str × Value)) : Rm k (A.under (.builtin "type.__call__" ⟨.ref C :: us, kw⟩)) := ⟨r.rm.make C us kw, by rw [make_guards]; exact r.gd⟩

/-- a def's mirror -/
abbrev FF := List U → LS → Rs U
/-- what a def with the mirror m promises -/
def spK (K : Frag) (n : Nat) (m : FF) : Sp := fun vs H Q E => ∃ F ρ L us, Ok K F ρ H L ∧ RepUs K F ρ H L us vs ∧ us.length = n ∧ GE RepU K (fun c d _ H' => E c d H') [] F ρ H L Q (m us L)
structure KFn (P : Program) (w : World) (K : Frag) (mg : Str → Option Value) (base : Heap) (k : Nat) (f : Addr) (fd : FuncData) (ps : List Str) (m : FF) : Prop where
  run : ∀ (A : Around) (outer : List Env) (s : Shared) (H : Hp) (args : Args) (us : List Value) (vs : List V) (Q : VK) (E : XK), Rm k A → Env0 P w K mg base A outer s H → BindsTo s fd args (ps.zip us) → Vals vs us → spK K ps.length m vs H Q E →
    codeAny (model P w) A (.call (.ref f) args) (CR (L2.CX P w) outer P w H s Q E) s
theorem KFn.mono {P : Program} {w : World} {K : Frag} {mg : Str → Option Value} {base : Heap} {j k : Nat} {f : Addr} {fd : FuncData} {ps : List Str} {m : FF} (h : KFn P w K mg base j f fd ps m) (q : j ≤ k) : KFn P w K mg base k f fd ps m :=
  ⟨fun A outer s H args us vs Q E hr => h.run A outer s H args us vs Q E (hr.mono q)⟩

/-! ### what a def made on its way and does not hand out is left alone -/
section
variable {K : Frag} {F F' : Addr → Prop} {ρ ρ' : Nat → Addr} {H H' : Hp} {L L' : LS}
theorem take_get {n i : Nat} {lo : LO} (e : (L.take n)[i]? = some lo) : L[i]? = some lo ∧ i < n := by
  rw [List.getElem?_take] at e
  split at e
  · exact ⟨e, by assumption⟩
  · cases e
theorem cut_ok (s : Step F ρ H L F' ρ' H' L') (o : Ok K F' ρ' H' L') : Step F ρ H L F' ρ' H' (L'.take L.length) ∧ Ok K F' ρ' H' (L'.take L.length) := by
  have hl := s.len
  refine ⟨⟨s.fz, by rw [List.length_take]; omega, s.same, s.keep, fun n lo h e _ => ?_, fun n lo h e t => s.off n lo h (take_get e).1 t, s.trk, s.fr⟩, ⟨fun n lo e => o.at_ n lo (take_get e).1, fun m n lo lo' e1 e2 => o.inj m n lo lo' (take_get e1).1 (take_get e2).1, o.stands⟩⟩
  exact absurd (take_get e).2 (Nat.not_lt.mpr h)
theorem take_get1 {n i : Nat} {lo l1 : LO} (hn : n ≤ L.length) (e : (L.take n ++ [l1])[i]? = some lo) : (L[i]? = some lo ∧ i < n) ∨ (i = n ∧ lo = l1) := by
  by_cases h : i < n
  · rw [List.getElem?_append_left (by simp; omega)] at e
    exact .inl (take_get e)
  · rw [List.getElem?_append_right (by simp; omega)] at e
    have hl : (L.take n).length = n := by simp; omega
    rw [hl] at e
    cases k : i - n with
    | zero => rw [k] at e; simp at e; exact .inr ⟨by omega, e.symm⟩
    | succ j => rw [k] at e; simp at e
theorem cut_ok1 (s : Step F ρ H L F' ρ' H' L') (o : Ok K F' ρ' H' L') {n : Nat} {lo : LO} (e : L'[n]? = some lo) (hn : L.length ≤ n) :
    ∃ ρ2, ρ2 L.length = ρ' n ∧ Step F ρ H L F' ρ2 H' (L'.take L.length ++ [lo]) ∧ Ok K F' ρ2 H' (L'.take L.length ++ [lo]) := by
  have hl := s.len
  obtain ⟨ρ2, a1, a2⟩ : ∃ ρ2 : Nat → Addr, (∀ {i : Nat}, i < L.length → ρ2 i = ρ' i) ∧ ρ2 L.length = ρ' n := ⟨fun i => if i < L.length then ρ' i else ρ' n, fun h => if_pos h, if_neg (Nat.lt_irrefl _)⟩
  refine ⟨ρ2, a2, ⟨s.fz, by simp; omega, fun i h => (a1 h).trans (s.same i h), s.keep, fun i l1 h e1 t => ?_, fun i l1 h e1 t => ?_, s.trk, s.fr⟩, ⟨fun i l1 e1 => ?_, fun i j l1 l2 e1 e2 t1 t2 q => ?_, o.stands⟩⟩
  · rcases take_get1 hl e1 with ⟨q, h2⟩ | ⟨rfl, rfl⟩
    · omega
    · rw [a2]; exact s.new n l1 hn e t
  · rcases take_get1 hl e1 with ⟨q, h2⟩ | ⟨rfl, rfl⟩
    · exact s.off i l1 h q t
    · exact absurd h (Nat.lt_irrefl _)
  · rcases take_get1 hl e1 with ⟨q, h2⟩ | ⟨rfl, rfl⟩
    · rw [a1 h2]; exact o.at_ i l1 q
    · rw [a2]; exact o.at_ n l1 e
  · rcases take_get1 hl e1 with ⟨q1, h1⟩ | ⟨rfl, rfl⟩ <;> rcases take_get1 hl e2 with ⟨q2, h2⟩ | ⟨rfl, rfl⟩
    · rw [a1 h1, a1 h2] at q; exact o.inj i j l1 l2 q1 q2 t1 t2 q
    · rw [a1 h1, a2] at q; have := o.inj i n l1 l2 q1 e t1 t2 q; omega
    · rw [a2, a1 h2] at q; have := o.inj n j l1 l2 e q2 t1 t2 q; omega
    · rfl
def outR (n0 : Nat) (u : U) (L' : LS) : Rs U := match u with
  | .d d => .ok (.d d) (L'.take n0)
  | .l n => if n < n0 then .ok (.l n) (L'.take n0) else (match L'[n]? with
    | some lo => .ok (.l n0) (L'.take n0 ++ [lo])
    | none => .no)
theorem GE.out {W : WX} {σ : L2.St} {Q : VK} {u : U} {v : V} (g : GE RepU K W σ F ρ H L Q (outR L.length u L')) (s : Step F ρ H L F' ρ' H' L') (o : Ok K F' ρ' H' L') (p : RepU K F' ρ' H' L' u v) : Q v H' := by
  cases u with
  | d x =>
    obtain ⟨s1, o1⟩ := cut_ok s o
    exact g F' ρ' H' v s1 o1 p
  | l n =>
    unfold outR at g
    by_cases hn : n < L.length
    · simp only [hn, if_true] at g
      obtain ⟨s1, o1⟩ := cut_ok s o
      exact g F' ρ' H' v s1 o1 ⟨by simp; have := s.len; omega, p.2⟩
    · simp only [hn, if_false] at g
      cases e : L'[n]? with
      | none => rw [e] at g; exact g.elim
      | some lo =>
        rw [e] at g
        obtain ⟨ρ2, e2, s1, o1⟩ := cut_ok1 s o e (Nat.not_lt.mp hn)
        exact g F' ρ2 H' v s1 o1 ⟨by simp; have := s.len; omega, by rw [e2]; exact p.2⟩
end

/-- a body's mirror as a def's: n parameters, N names -/
def fnF (n N : Nat) (body : SF) : FF := fun us L => if us.length = n then (match body (us.map some ++ List.replicate (N - n) none) L with
  | .nx _ L' => .ok (.d .non) (L'.take L.length)
  | .rt u L' => outR L.length u L'
  | .ex C ns xs _ L' => .ex C ns xs (L'.take L.length)
  | _ => .no) else .no
theorem start_rep {K : Frag} {F : Addr → Prop} {ρ : Nat → Addr} {H : Hp} {L : LS} {us : List U} {vs : List V} {N : List Str} (h : RepUs K F ρ H L us vs) : RepSt K F ρ H L (L2.start N vs) (us.map some ++ List.replicate (N.length - us.length) none) := by
  have hl := h.length
  have get : ∀ {us : List U} {vs : List V}, RepUs K F ρ H L us vs → ∀ (i : Nat) u, us[i]? = some u → ∃ v, vs[i]? = some v ∧ RepU K F ρ H L u v := by
    intro us
    induction us with
    | nil => intro vs _ i u e; simp at e
    | cons x xs ih =>
      intro vs ⟨v, r, e1, q, t⟩ i u e
      subst e1
      cases i with
      | zero => simp at e; subst e; exact ⟨v, rfl, q⟩
      | succ i => exact ih t i u (by simpa using e)
  refine ⟨by unfold L2.start; simp [hl], fun i u e => ?_⟩
  by_cases hi : i < us.length
  · rw [List.getElem?_append_left (by simpa using hi), List.getElem?_map] at e
    obtain ⟨u2, e1, e2⟩ := Option.map_eq_some_iff.mp e
    have e2 : u2 = u := Option.some.inj e2
    subst e2
    obtain ⟨v, e3, r⟩ := get h i u2 e1
    refine ⟨v, ?_, r⟩
    unfold L2.start
    rw [List.getElem?_append_left (by simp [hl]; exact hi), List.getElem?_map, e3]
    rfl
  · rw [List.getElem?_append_right (by simpa using hi), List.getElem?_replicate] at e
    split at e <;> cases e

section
variable {P : Program} {w : World} {K : Frag} {mg : Str → Option Value} {base : Heap}
/-- a def of the text, by its body -/
theorem kfn_at {k : Nat} {f : Addr} {name qual : Str} {params : Arguments} {body : List Stmt} {scope : Scope} {dV kV doc pm cdv ct oc : Value} {an od : Option Addr} {osl : Array (Option Value)} {N ps : List Str} {fb : SF}
    (lk : K.lookup f = some ⟨oc, od, .func (PySem.W.fnOf name qual params body scope dV kV doc pm an cdv ct), osl⟩) (hcd : PySem.W.codeIn K cdv qual = true) (S : FnScope N ps scope)
    (hb : ∀ (A : Around) (outer : List Env) (s : Shared) (H : Hp) (E : XK), Rm k (A.deeper (envOfC qual scope s.heap.objs.size f cdv)) → KSs (cxOf (L2.CX P w) P w K mg base N qual scope f cdv A outer s H E) (fun c d _ H' => E c d H') body fb) :
    KFn P w K mg base (k + 1) f (PySem.W.fnOf name qual params body scope dV kV doc pm an cdv ct) ps (fnF ps.length N.length fb) := by
  refine ⟨fun A outer s H args us vs Q E hr e0 bind r hsp => ?_⟩
  obtain ⟨F, ρ, L, uu, o, ru, hu, g⟩ := hsp
  have hl : vs.length = ps.length := ru.length.trans hu
  have kin : K.In s.heap := e0.mod.kin.keeps fun b o e => (e0.bs b o e).1
  have lim : s.heap.NoLimit := e0.mod.nolimit.keeps fun b o e => (e0.bs b o e).1
  have kinds : ∀ y ∈ ps.zip us, scope.names.lookup y.1 = some .local ∨ (scope.names.lookup y.1 = some .cell ∧ ((cellsFrom (s.heap.objs.size + 1) scope.names []).lookup y.1).isSome = true) := by
    intro y hy
    rcases S.par y.1 (List.of_mem_zip hy).1 with q | q
    · exact .inl q
    · exact .inr ⟨q, PySem.W.cellsFrom_some _ _ _ (.inl q)⟩
  refine codeAny_call_function hr.rm.depth (kin _ _ lk) rfl S.co S.gen rfl (PySem.W.codeRec_of kin hcd) (bind _ _ _ _ (wpAny_newFunctionEnv_cells S.kind kinds fun env he s1 x => ?_))
  subst he
  refine ⟨lim.keeps x.toInCall.keep, codeAny_func ?_⟩
  have I : Inv (cxOf (L2.CX P w) P w K mg base N qual scope f cdv A outer s H E) [] (L2.start N vs) H s1 := inv_start S hr.rm.hd e0 hl r x
  have q : RS K (fun c d _ H' => E c d H') fb { nx := fun _ H' => Q .non H', rt := Q } (L2.start N vs) H := by
    have rst := start_rep (N := N) ru
    rw [hu] at rst
    refine ⟨F, ρ, L, _, o, rst, ?_⟩
    unfold fnF at g
    rw [if_pos hu] at g
    cases e : fb (uu.map some ++ List.replicate (N.length - ps.length) none) L with
    | nx st' L' => rw [e] at g; exact fun F' ρ' H' σ' s' o' _ => GE.out (u := .d .non) g s' o' rfl
    | rt u L' => rw [e] at g; exact fun F' ρ' H' v s' o' p' => GE.out g s' o' p'
    | ex C ns xs st' L' => rw [e] at g; exact fun F' ρ' H' σ' d s' o' _ t => g F' ρ' H' d (cut_ok s' o').1 (cut_ok s' o').2 t
    | bk st' L' => rw [e] at g; exact g.elim
    | ct st' L' => rw [e] at g; exact g.elim
    | no => rw [e] at g; exact g
  refine wpAny_mono ((hb A outer s H E (hr.deeper _)).run [] s1 _ H _ I q) (fun fl s' hs => ?_) fun e s' hs => hs
  have done : ∀ {σ' : L2.St} {H' : Hp} {v : V} {u : Value}, Inv (cxOf (L2.CX P w) P w K mg base N qual scope f cdv A outer s H E) [] σ' H' s' → RelV v u → Q v H' → CE outer P w H s Q u s' := fun J rv qv => ⟨_, _, J.os, J.bare, J.base, J.hok, rv, qv⟩
  cases fl with
  | ret u => obtain ⟨v, σ', H', J, rv, qv⟩ := hs; exact done J rv qv
  | next => obtain ⟨σ', H', J, qv⟩ := hs; exact done (v := V.non) (u := Value.none) J rfl qv
  | brk => obtain ⟨_, _, _, z⟩ := hs; exact False.elim z
  | cont => obtain ⟨_, _, _, z⟩ := hs; exact False.elim z
/-- what the top has left of a def -/
theorem kfn_of {k : Nat} {x qual : Str} {st : Stmt} {f : Addr} {fd : FuncData} {N ps : List Str} {fb : SF} (T : Fun K x qual st f fd) (S : FnScope N ps (defScope st))
    (hb : ∀ (cdv : Value) (A : Around) (outer : List Env) (s : Shared) (H : Hp) (E : XK), Rm k (A.deeper (envOfC qual (defScope st) s.heap.objs.size f cdv)) → KSs (cxOf (L2.CX P w) P w K mg base N qual (defScope st) f cdv A outer s H E) (fun c d _ H' => E c d H') (defBody st) fb) :
    KFn P w K mg base (k + 1) f fd ps (fnF ps.length N.length fb) := by
  obtain ⟨oc, od, kV, doc, pm, an, cdv, ct, osl, rfl, lk, hcd⟩ := T.ex
  exact kfn_at lk hcd S fun A outer s H E hr => hb cdv A outer s H E hr
end

/-! ### calls -/
def PUU : PP (List U × List U) (List V × List V) := fun K F ρ H L a b => RepUs K F ρ H L a.1 b.1 ∧ RepUs K F ρ H L a.2 b.2
abbrev CF := SS → LS → Rs (List U × List U)
/-- the arguments of a call; ks: the keywords' names -/
def KC (X : Cx) (W : WX) (args : List Expr) (kws : List Keyword) (ks : List Str) (fa : CF) : Prop :=
  ∀ (pos : Pos) (f : Value) (first : List Value) (pins : List (Addr × Obj)) (s : Shared) (σ : L2.St) (H : Hp) (Q : Value → Shared → Prop), PySem.W.keepIn X.K f = true → Inv X pins σ H s →
    RG PUU X.K W fa σ H (fun p H1 => ∀ s1 us ws, Inv X pins σ H1 s1 → Vals p.1 us → Vals p.2 ws → wpAny (model X.prog X.w) X.A (call f (first ++ us) (ks.zip ws)) Q X.xe s1) →
    wpAny (model X.prog X.w) X.A (callWith pos f first (backTo pos (starEach args X.env)) (backToKw pos (keywordEach kws X.env))) Q X.xe s
section
variable {X : Cx} {W : WX} {e : Expr} {es : List Expr} {kws : List Keyword} {ks : List Str} {f : AF} {g : AF}
def cPos (f : AF) : CF := fun st L => (f st L).bind fun us L1 => .ok (us, []) L1
def cBoth (f g : AF) : CF := fun st L => (f st L).bind fun us L1 => (g st L1).bind fun ws L2 => .ok (us, ws) L2
theorem kc_pos (ha : KA X W (e :: es) f) (he : starEach (e :: es) X.env = (false, eval e X.env) :: starEach es X.env := by rfl) (hpl : ∀ pos, (backTo pos (starEach es X.env)).any (·.1) = false := by intro _; rfl) : KC X W (e :: es) [] [] (cPos f) := by
  intro pos fv first pins s σ H Q hk I h
  obtain ⟨F, ρ, L, st, o, r, h⟩ := h
  refine PySem.W.callWith_K (h₀ := X.base) I.ok.mod.kin hk (thn (PA.run ha pos pins s σ H _ I (RG.one (P := RepUs) o r h fun vs H1 F1 ρ1 L1 us s1 o1 r1 p1 h1 => h1.fin (b := (vs, [])) o1 ⟨p1, rfl⟩)) fun us s1 ⟨vs, H1, I1, rv, q⟩ => ⟨I1.kIn, q s1 us [] I1 rv .nil⟩) he (hpl pos)
abbrev KK (X : Cx) (W : WX) (kws : List Keyword) (f : AF) : Prop := PK X kws (RG RepUs X.K W f)
theorem kk_nil : KK X W [] aNil := ⟨fun pos pins s σ H Q I ⟨F, ρ, L, st, o, r, h⟩ => pk_nil.run pos pins s σ H Q I (h.fin (b := []) o rfl)⟩
theorem kk_cons {nm : Option Str} {kpos : Pos} {fa : EF} (ha : KE X W e fa) (hr : KK X W kws f) : KK X W (⟨nm, e, kpos⟩ :: kws) (aCons fa f) := by
  refine ⟨fun pos pins s σ H Q I ⟨F, ρ, L, st, o, r, h⟩ => (pk_cons ha hr).run pos pins s σ H Q I ?_⟩
  refine RG.one o r h fun x H1 F1 ρ1 L1 u s1 o1 r1 p1 h1 => ?_
  refine RG.one o1 r1 h1 fun y H2 F2 ρ2 L2 u2 s2 o2 r2 p2 h2 => ?_
  exact h2.fin o2 ⟨x, y, rfl, p1.mono s2, p2⟩
theorem kc_kw (hk : KK X W kws g) (hall : ∀ pos, (backToKw pos (keywordEach kws X.env)).all (·.1.isSome) = true := by intro _; rfl) (hks : ∀ pos, (backToKw pos (keywordEach kws X.env)).filterMap (·.1) = ks := by intro _; rfl)
    (hpl : ∀ pos, ((backTo pos (starEach [] X.env)).any (·.1) || (backToKw pos (keywordEach kws X.env)).any (·.1.isNone)) = false := by intro _; rfl) : KC X W [] kws ks (cBoth aNil g) := by
  intro pos fv first pins s σ H Q hkp I h
  obtain ⟨F, ρ, L, st, o, r, h⟩ := h
  refine PySem.W.callWith_KW0 (h₀ := X.base) I.ok.mod.kin hkp (hall pos) ?_ (hpl pos)
  have h' : GE PUU X.K W σ F ρ H L _ ((g st L).bind fun ws L2 => .ok ([], ws) L2) := h
  refine thn (PK.run hk pos pins s σ H _ I (RG.one (P := RepUs) o r h' fun zs H2 F2 ρ2 L2 ws s2 o2 r2 p2 h2 => h2.fin (b := ([], zs)) o2 ⟨rfl, p2⟩)) fun ws s2 ⟨zs, H2, I2, rz, q⟩ => ⟨I2.kIn, ?_⟩
  rw [hks pos]
  exact q s2 [] ws I2 .nil rz
end

/-! ### how the arguments come to the parameters -/
inductive Sr where
  | p (i : Nat) | k (j : Nat) | c (d : D)
def Sr.get (us ws : List U) : Sr → Option U
  | .p i => us[i]?
  | .k j => ws[j]?
  | .c d => some (.d d)
def arrU (us ws : List U) : List Sr → Option (List U)
  | [] => some []
  | s :: r => (s.get us ws).bind fun u => (arrU us ws r).map (u :: ·)
/-- a constant, whatever the heap is -/
def Cst (d : D) (v : V) : Prop := ∀ K F H, Rep K F H d v
def SrOk (us ws : List Value) : Sr → Value → Prop
  | .p i, z => us[i]? = some z
  | .k j, z => ws[j]? = some z
  | .c d, z => ∃ v, Cst d v ∧ RelV v z
structure Bk (K : Frag) (fd : FuncData) (ps : List Str) (n : Nat) (ks : List Str) (src : List Sr) : Prop where
  bind : ∀ (s : Shared) (us ws : List Value), K.In s.heap → us.length = n → ws.length = ks.length → ∃ zs, BindsTo s fd ⟨us, ks.zip ws⟩ (ps.zip zs) ∧ Paired (SrOk us ws) src zs
  len : src.length = ps.length
theorem repUs_get {K : Frag} {F : Addr → Prop} {ρ : Nat → Addr} {H : Hp} {L : LS} : ∀ {us : List U} {vs : List V}, RepUs K F ρ H L us vs → ∀ {i : Nat} {u : U}, us[i]? = some u → ∃ v, vs[i]? = some v ∧ RepU K F ρ H L u v
  | [], _, _, _, _, e => by simp at e
  | x :: xs, _, ⟨v, r, e1, q, t⟩, 0, _, e => by subst e1; simp at e; subst e; exact ⟨v, rfl, q⟩
  | x :: xs, _, ⟨v, r, e1, q, t⟩, i + 1, _, e => by subst e1; exact repUs_get t (i := i) (by simpa using e)
theorem arr_ok {K : Frag} {F : Addr → Prop} {ρ : Nat → Addr} {H : Hp} {L : LS} {us ws : List U} {vs zs : List V} {uv wv : List Value} (r1 : RepUs K F ρ H L us vs) (r2 : RepUs K F ρ H L ws zs) (v1 : Vals vs uv) (v2 : Vals zs wv) :
    ∀ {src : List Sr} {out : List Value} {xs : List U}, Paired (SrOk uv wv) src out → arrU us ws src = some xs → ∃ ys, RepUs K F ρ H L xs ys ∧ Vals ys out
  | [], _, _, .nil, e => by cases e; exact ⟨[], rfl, .nil⟩
  | s :: r, b :: out, _, .cons h t, e => by
    simp only [arrU, Option.bind_eq_some_iff, Option.map_eq_some_iff] at e
    obtain ⟨u, e1, xs, e2, rfl⟩ := e
    obtain ⟨ys, q1, q2⟩ := arr_ok r1 r2 v1 v2 t e2
    have one : ∃ y, RepU K F ρ H L u y ∧ RelV y b := by
      cases s with
      | p i =>
        obtain ⟨v, g1, g2⟩ := repUs_get r1 e1
        obtain ⟨z, g3, g4⟩ := v1.get g1
        have h' : uv[i]? = some b := h
        rw [g3] at h'; cases h'
        exact ⟨v, g2, g4⟩
      | k i =>
        obtain ⟨v, g1, g2⟩ := repUs_get r2 e1
        obtain ⟨z, g3, g4⟩ := v2.get g1
        have h' : wv[i]? = some b := h
        rw [g3] at h'; cases h'
        exact ⟨v, g2, g4⟩
      | c d =>
        obtain ⟨v, g1, g2⟩ := h
        cases e1
        exact ⟨v, g1 K F H, g2⟩
    obtain ⟨y, p1, p2⟩ := one
    exact ⟨y :: ys, ⟨y, ys, rfl, p1, q1⟩, .cons p2 q2⟩

section
variable {X : Cx} {W : WX}
/-- the callee runs -/
theorem run_k {k : Nat} {f : Addr} {fd : FuncData} {ps ks : List Str} {m : FF} {src : List Sr} {n : Nat} {pins : List (Addr × Obj)} {σ : L2.St} {H : Hp} {s : Shared} {Q : VK} {F : Addr → Prop} {ρ : Nat → Addr} {L : LS} {us ws : List U} {vs zs : List V} {uv wv : List Value}
    (G : KFn X.prog X.w X.K X.mg X.base k f fd ps m) (hr : Rm k X.A) (hb : Bk X.K fd ps n ks src) (tk : Takes X W) (I : Inv X pins σ H s) (o : Ok X.K F ρ H L) (r1 : RepUs X.K F ρ H L us vs) (r2 : RepUs X.K F ρ H L ws zs) (v1 : Vals vs uv) (v2 : Vals zs wv)
    (hn : us.length = n) (hks : ws.length = ks.length) (h : GE RepU X.K W σ F ρ H L Q (opt (arrU us ws src) fun xs => m xs L)) : wpAny (model X.prog X.w) X.A (call (.ref f) uv (ks.zip wv)) (EP X pins σ Q) X.xe s := by
  obtain ⟨xs, e1, h⟩ := h.opt
  obtain ⟨out, bd, pr⟩ := hb.bind s uv wv I.kIn (by rw [← v1.length, r1.length]; exact hn) (by rw [← v2.length, r2.length]; exact hks)
  obtain ⟨ys, q1, q2⟩ := arr_ok r1 r2 v1 v2 pr e1
  have hlen : xs.length = ps.length := by
    rw [← q1.length, q2.length, ← Paired.length pr]; exact hb.len
  refine wpAny_call (codeAny_mono (G.run X.A X.stack s H ⟨uv, ks.zip wv⟩ out ys Q (fun c d H' => W c d σ H') hr I.env0 bd q2 ⟨F, ρ, L, xs, o, q1, hlen, ?_⟩) fun r s' hq => ?_)
  · cases e : m xs L with
    | ok a L' => rw [e] at h; exact h
    | ex C ns ds L' => rw [e] at h; exact h
    | no => rw [e] at h; exact h
  · cases r with
    | error x => exact tk x s' (XE.of_call I (fun _ _ _ z => z) hq)
    | ok fl =>
      cases fl with
      | ret u => exact I.after hq
      | next => exact False.elim hq
      | brk => exact False.elim hq
      | cont => exact False.elim hq
/-- f(..) -/
def eCall (m : FF) (src : List Sr) (n l : Nat) (fa : CF) : EF := fun st L => (fa st L).bind fun p L1 => if p.1.length = n ∧ p.2.length = l then opt (arrU p.1 p.2 src) fun xs => m xs L1 else .no
theorem ke_call {x : Str} {k : Nat} {f : Addr} {fd : FuncData} {ps ks : List Str} {m : FF} {src : List Sr} {n : Nat} {args : List Expr} {kws : List Keyword} {fa : CF} {p pos : Pos} (tk : Takes X W) (hr : Rm k X.A) (G : KFn X.prog X.w X.K X.mg X.base k f fd ps m) (hb : Bk X.K fd ps n ks src)
    (hm : X.mg x = some (.ref f)) (hk : PySem.W.keepIn X.K (.ref f) = true) (ha : KC X W args kws ks fa) {l : Nat} (hl : ks.length = l := by rfl) (hg : Gl X x := by rfl) (hdb : (x == ("__debug__" : Str)) = false := by decide) : KE X W (.Call (.Name x p) args kws pos) (eCall m src n l fa) := by
  subst hl
  refine ⟨fun pins s σ H Q I ⟨F, ρ, L, st, o, r, h⟩ => ?_⟩
  refine wpAny_Call_Name_kw (ld_glob I hg hm ?_ hdb)
  refine ha pos (.ref f) [] pins s σ H _ hk I (RG.one (P := PUU) o r h fun b H1 F1 ρ1 L1 a s1 o1 r1 p1 h1 s2 us ws I2 v1 v2 => ?_)
  obtain ⟨hc, h1⟩ := ge_if h1
  exact run_k G hr hb tk I2 o1 p1.1 p1.2 v1 v2 hc.1 hc.2 h1
end
end VL

set_option Elab.async false
set_option linter.all false
set_option maxRecDepth 100000
set_option maxHeartbeats 4000000
namespace VL
open PySem PySem.Spec PyProof.Rows L2
open PySem.W (Frag)

/-! ### what is walked -/
/-- J yields ds, whatever happens meanwhile -/
def Itb (K : Frag) (J : It) (ds : List D) (F : Addr → Prop) (ρ : Nat → Addr) (H : Hp) (L : LS) : Prop :=
  ∀ F1 ρ1 H1 L1, Step F ρ H L F1 ρ1 H1 L1 → Ok K F1 ρ1 H1 L1 → ∀ i, (∀ d, ds[i]? = some d → J.go i H1 ∧ ∀ x H2, J.yld i H1 x H2 → ∃ F2, Step F1 ρ1 H1 L1 F2 ρ1 H2 L1 ∧ Ok K F2 ρ1 H2 L1 ∧ Rep K F2 H2 d x) ∧ (ds.length ≤ i → J.stop i H1)
def PIt : PP (List D) It := fun K F ρ H L ds J => Itb K J ds F ρ H L
abbrev IF := SS → LS → Rs (List D)
abbrev KI (X : Cx) (W : WX) (tg iter : Expr) (f : IF) : Prop := PI X tg iter (RG PIt X.K W f)
theorem pi_wk {X : Cx} {tg e : Expr} {t t' : TI} (h : PI X tg e t) (i : ∀ σ H R, t' σ H R → t σ H R) : PI X tg e t' := ⟨fun pins s σ H R I q => h.run pins s σ H R I (i σ H R q)⟩
section
variable {K : Frag} {F : Addr → Prop} {ρ : Nat → Addr} {H : Hp} {L : LS}
theorem itb_list {a : Addr} {vs : List V} {ds : List D} (f : F a) (h : H a = some (.lst vs)) (r : RepL K F H ds vs) : Itb K (Itl K a) ds F ρ H L := by
  intro F1 ρ1 H1 L1 s o i
  have h1 : SqL K H1 a vs := .inl (.inl ((s.fz a f).2.trans h))
  refine ⟨fun d e => ?_, fun hi => ⟨vs, h1, by rw [r.length]; exact hi⟩⟩
  obtain ⟨v, e1, rv⟩ := r.get e
  refine ⟨⟨vs, v, h1, e1⟩, fun x H2 y => ?_⟩
  obtain ⟨rfl, y⟩ := y
  have e2 := y vs h1
  rw [e1] at e2
  cases e2
  exact ⟨F1, Step.refl, o, Rep.mono s.fz d rv⟩
theorem itb_tup {a : Addr} {vs : List V} {ds : List D} (h : TpAt K F H a vs) (r : RepL K F H ds vs) : Itb K (Itt K a) ds F ρ H L := by
  intro F1 ρ1 H1 L1 s o i
  have h1 : SqT K H1 a vs := (h.mono s.fz).sq
  refine ⟨fun d e => ?_, fun hi => ⟨vs, h1, by rw [r.length]; exact hi⟩⟩
  obtain ⟨v, e1, rv⟩ := r.get e
  refine ⟨⟨vs, v, h1, e1⟩, fun x H2 y => ?_⟩
  obtain ⟨rfl, y⟩ := y
  have e2 := y vs h1
  rw [e1] at e2
  cases e2
  exact ⟨F1, Step.refl, o, Rep.mono s.fz d rv⟩
def rngD (lo : Int) (n : Nat) : List D := (List.range n).map fun (i : Nat) => .int (lo + i)
theorem itb_rng (lo : Int) (n : Nat) : Itb K (Itr lo n) (rngD lo n) F ρ H L := by
  intro F1 ρ1 H1 L1 s o i
  refine ⟨fun d e => ?_, fun hi => by show n ≤ i; simpa [rngD] using hi⟩
  have hi : i < n := by
    have := (List.getElem?_eq_some_iff.mp e).1
    simpa [rngD] using this
  have e2 : d = .int (lo + i) := by
    simp [rngD, hi] at e
    exact e.symm
  subst e2
  refine ⟨hi, fun x H2 y => ?_⟩
  obtain ⟨rfl, rfl⟩ := y
  exact ⟨F1, Step.refl, o, rfl⟩
def signsD (x : Str) : List D := x.cps.toList.map fun c => .str ⟨#[c]⟩
theorem itb_str (x : Str) : Itb K (Its x) (signsD x) F ρ H L := by
  intro F1 ρ1 H1 L1 s o i
  refine ⟨fun d e => ?_, fun hi => by show x.cps.size ≤ i; simpa [signsD] using hi⟩
  simp only [signsD, List.getElem?_map, Option.map_eq_some_iff] at e
  obtain ⟨c, e1, rfl⟩ := e
  have hi : i < x.cps.size := by
    have := (List.getElem?_eq_some_iff.mp e1).1
    simpa using this
  refine ⟨hi, fun y H2 q => ?_⟩
  obtain ⟨rfl, c2, e2, rfl⟩ := q
  have e3 : x.cps[i]? = some c := by simpa using e1
  rw [e3] at e2
  cases e2
  exact ⟨F1, Step.refl, o, rfl⟩
end
section
variable {X : Cx} {W : WX} {a b c e tg : Expr} {fa fb fc fe : EF} {pos : Pos}
/-- a list, a tuple, a text: it comes to rest as it is walked -/
def iSeq (fe : EF) : IF := fun st L => (fe st L).bind fun u L1 => opt (fzU L1 u) fun p => match p.1 with
  | .lst ds => .ok ds p.2
  | .tup ds => .ok ds p.2
  | .str x => .ok (signsD x) p.2
  | _ => .no
theorem ki_seq (he : KE X W e fe) : KI X W tg e (iSeq fe) := by
  refine ⟨fun pins s σ H R I ⟨F, ρ, L, st, o, r, h⟩ => ?_⟩
  refine thn (PE.run he pins s σ H _ I (RG.one (Q' := Nx RepU PIt X.K W σ F ρ H L R fun u L1 => opt (fzU L1 u) fun p => match p.1 with
    | .lst ds => .ok ds p.2
    | .tup ds => .ok ds p.2
    | .str x => .ok (signsD x) p.2
    | _ => .no) o r h fun x H1 F1 ρ1 L1 u s1 o1 r1 p1 h1 => ⟨F1, ρ1, L1, u, s1, o1, p1, h1⟩)) fun v s1 ⟨x, H1, I1, rx, F1, ρ1, L1, uu, st1, o1, p1, h1⟩ => ?_
  obtain ⟨⟨d, L2⟩, e1, h2⟩ := h1.opt
  obtain ⟨F2, s2, o2, q2⟩ := fzU_ok o1 p1 e1
  split at h2
  · rename_i ds hd
    have hd : d = .lst ds := hd
    subst hd
    obtain ⟨p, vs, rfl, ⟨f, g⟩, q⟩ := q2
    obtain rfl : v = Value.ref p := rx
    have qq := h2 F2 ρ1 H1 (Itl X.K p) s2 o2 (itb_list f g q)
    obtain ⟨its, rv, pl, hz⟩ := I1.list (.inl (.inl g))
    exact wpAny_pyIter_list pl.isList (pi_one (tk := s1.toks) I1 _ (turn_list p _) ⟨_, Heap.get?_push_size _ rfl, rfl, rfl⟩ qq)
  · rename_i ds hd
    have hd : d = .tup ds := hd
    subst hd
    obtain ⟨p, vs, rfl, g, q⟩ := q2
    obtain rfl : v = Value.ref p := rx
    have qq := h2 F2 ρ1 H1 (Itt X.K p) s2 o2 (itb_tup g q)
    obtain ⟨its, rv, pl, hz⟩ := I1.tuple g.sq
    exact wpAny_pyIter_tuple (show s1.heap.IsTuple p its.toArray from pl) (pi_one (tk := s1.toks) I1 _ (turn_tuple p _) ⟨_, Heap.get?_push_size _ rfl, rfl, rfl⟩ qq)
  · rename_i y hd
    have hd : d = .str y := hd
    subst hd
    cases q2
    obtain ⟨t, rfl⟩ := rx
    have qq := h2 F2 ρ1 H1 (Its y) s2 o2 (itb_str y)
    cases ha : y.cps.all (· < 128)
    · exact wpAny_pyIter_wide ha (pi_one (tk := s1.toks) I1 _ (turn_str _ y t "str_iterator" (.inr rfl)) ⟨_, Heap.get?_push_size _ rfl, rfl, rfl⟩ qq)
    · exact wpAny_pyIter_ascii ha (pi_one (tk := s1.toks) I1 _ (turn_str _ y t "str_ascii_iterator" (.inl rfl)) ⟨_, Heap.get?_push_size _ rfl, rfl, rfl⟩ qq)
  · exact h2.elim
def inRng (i : Int) : Bool := decide (-(2 ^ 62) ≤ i) && decide (i < 2 ^ 62)
def iRng1 (f : AF) : IF := fun st L => (f st L).bind fun us L1 => match us with
  | [.d (.int n)] => if inRng n then .ok (rngD 0 n.toNat) L1 else .no
  | _ => .no
def iRng2 (f : AF) : IF := fun st L => (f st L).bind fun us L1 => match us with
  | [.d (.int i), .d (.int n)] => if inRng i && inRng n then .ok (rngD i (n - i).toNat) L1 else .no
  | _ => .no
theorem inRng_of {i : Int} (h : inRng i = true) : -(2 ^ 62) ≤ i ∧ i < 2 ^ 62 := by
  simp only [inRng, Bool.and_eq_true, decide_eq_true_eq] at h
  exact h
theorem ki_range1 {f : AF} {p : Pos} (hm : X.mg "range" = none) (ha : KA X W [a] f) (hg : Gl X "range" := by rfl) (hs : starEach [a] X.env = [(false, eval a X.env)] := by rfl) : KI X W tg (.Call (.Name "range" p) [a] [] pos) (iRng1 f) := by
  refine pi_wk (pi_range1 hg hm ha hs) fun σ H R ⟨F, ρ, L, st, o, r, h⟩ => ?_
  refine RG.one (P := RepUs) o r h fun vs H1 F1 ρ1 L1 us s1 o1 r1 p1 h1 => ?_
  split at h1
  · rename_i n
    obtain ⟨v, t, rfl, q, e⟩ := p1
    cases e
    obtain rfl : v = .int n := q
    obtain ⟨hz, h1⟩ := ge_if h1
    exact ⟨n, rfl, (inRng_of hz).1, (inRng_of hz).2, h1.fin (P := PIt) o1 (itb_rng 0 n.toNat)⟩
  · exact h1.elim
/-! ### for -/
def forF (tf : TgF) (body : SF) : List D → SF
  | [], st, L => .nx st L
  | d :: ds, st, L => optS (tf d st) fun st1 => match body st1 L with
    | .nx st2 L2 => forF tf body ds st2 L2
    | .ct st2 L2 => forF tf body ds st2 L2
    | .bk st2 L2 => .nx st2 L2
    | r => r
def sFor (fi : IF) (tf : TgF) (body : SF) : SF := fun st L => ofR (fi st L) st fun ds L1 => forF tf body ds st L1
theorem ks_for {iter : Expr} {body : List Stmt} {fi : IF} {is : List Nat} {tf : TgF} {fb : SF} (ps : PassesOwn (model X.prog X.w) X.A X.env X.xe) (hi : KI X W tg iter fi) (hg : KG X tg is tf) (hb : KSs X W body fb) (hc : X.calm = true := by rfl)
    (hs : ∀ x, foldedSetIterable iter X.env x = pure x := by intro _; rfl) : KS X W (.For tg iter body [] pos) (sFor fi tf fb) := by
  refine ps_wk (ps_for ps hc hi hg hb hs) fun D σ H ⟨F, ρ, L, st, o, r, h⟩ => ?_
  refine RS.one (P := PIt) o r h fun J H1 F1 ρ1 L1 ds s1 o1 r1 p1 h1 => ?_
  refine ⟨fun i m σ' H' => m = ds.length - i ∧ i ≤ ds.length ∧ ∃ F' ρ' L' st', Step F1 ρ1 H1 L1 F' ρ' H' L' ∧ Ok X.K F' ρ' H' L' ∧ RepSt X.K F' ρ' H' L' σ' st' ∧ GS X.K W D F' ρ' H' L' (forF tf fb (ds.drop i) st' L'), ⟨ds.length, by simp, Nat.zero_le _, F1, ρ1, L1, st, Step.refl, o1, r1, h1⟩, ?_⟩
  rintro i m σ2 H2 ⟨rfl, hi, F2, ρ2, L2, st2, s2, o2, r2, h2⟩
  obtain ⟨g1, g2⟩ := p1 F2 ρ2 H2 L2 s2 o2 i
  by_cases hlt : i < ds.length
  · have hd : ds[i]? = some ds[i] := by simp [hlt]
    obtain ⟨go, yl⟩ := g1 _ hd
    rw [List.drop_eq_getElem_cons hlt] at h2
    refine .inr ⟨go, fun σ' H' => ∃ F' ρ' L' st', Step F1 ρ1 H1 L1 F' ρ' H' L' ∧ Ok X.K F' ρ' H' L' ∧ RepSt X.K F' ρ' H' L' σ' st' ∧ GS X.K W D F' ρ' H' L' (forF tf fb (ds.drop (i + 1)) st' L'), fun σ' H' n => ⟨ds.length - (i + 1), by omega, rfl, hlt, n⟩, fun x H3 y => ?_⟩
    obtain ⟨F3, s3, o3, rx⟩ := yl x H3 y
    obtain ⟨st3, e3, h3⟩ := (GS.on s3 (show GS X.K W D F2 ρ2 H2 L2 (optS (tf ds[i] st2) _) from h2)).optS
    refine ⟨F3, ρ2, L2, st2, ds[i], st3, o3, r2.mono s3, rx, e3, fun σ4 r4 _ => ⟨F3, ρ2, L2, st3, o3, r4, ?_⟩⟩
    have s23 := s2.trans s3
    cases e : fb st3 L2 with
    | nx st5 L5 => rw [e] at h3; exact fun F5 ρ5 H5 σ5 s5 o5 r5 => ⟨F5, ρ5, L5, st5, s23.trans s5, o5, r5, GS.on s5 h3⟩
    | ct st5 L5 => rw [e] at h3; exact fun F5 ρ5 H5 σ5 s5 o5 r5 => ⟨F5, ρ5, L5, st5, s23.trans s5, o5, r5, GS.on s5 h3⟩
    | bk st5 L5 => rw [e] at h3; exact h3
    | rt u L5 => rw [e] at h3; exact h3
    | ex C ns xs st5 L5 => rw [e] at h3; exact h3
    | no => rw [e] at h3; exact h3
  · have e : i = ds.length := by omega
    subst e
    rw [List.drop_length] at h2
    exact .inl ⟨g2 (Nat.le_refl _), GS.nxt h2 o2 r2⟩

/-! ### while -/
end
end VL

set_option Elab.async false
set_option linter.all false
set_option maxRecDepth 100000
set_option maxHeartbeats 4000000
namespace VL
open PySem PySem.Spec PyProof.Rows L2
open PySem.W (Frag)

/-! ### a list that a comprehension fills: it is none of ours meanwhile -/
section
variable {K : Frag} {F0 F F' : Addr → Prop} {ρ0 ρ ρ' : Nat → Addr} {H0 H H' : Hp} {L0 L L' : LS} {p : Addr}
/-- p is no thing of ours -/
structure Apart (F : Addr → Prop) (ρ : Nat → Addr) (H : Hp) (L : LS) (p : Addr) : Prop where
  nf : ¬ F p
  nl : ¬ Lv ρ L p
theorem Apart.on (a : Apart F ρ H L p) (s : Step F ρ H L F' ρ' H' L') {u : HO} (h : H p = some u) : Apart F' ρ' H' L' p ∧ H' p = some u := by
  have hn : H p ≠ none := by rw [h]; simp
  refine ⟨⟨fun f => ?_, fun v => ?_⟩, s.keep p u h a.nl⟩
  · rcases s.fr p f with q | q | q
    · exact a.nf q
    · exact hn q
    · exact a.nl q
  · rcases s.lv v with q | q
    · exact hn q
    · exact a.nl q
theorem bump (o0 : Ok K F0 ρ0 H0 L0) (h0 : H0 p = none) (s : Step F0 ρ0 H0 L0 F ρ H L) (o : Ok K F ρ H L) (a : Apart F ρ H L p) (u : HO) : (∀ a, F a → F a ∧ upd H p u a = H a) ∧ Step F0 ρ0 H0 L0 F ρ (upd H p u) L ∧ Ok K F ρ (upd H p u) L := by
  have k : ∀ a, F a → F a ∧ upd H p u a = H a := fun x f => ⟨f, upd_ne fun z => a.nf (z ▸ f)⟩
  refine ⟨k, ⟨fun x f => ⟨(s.fz x f).1, by rw [(k x (s.fz x f).1).2]; exact (s.fz x f).2⟩, s.len, s.same, fun x w e hv => ?_, s.new, s.off, fun x e => ?_, s.fr⟩, ⟨fun m lo q => ?_, o.inj, fun x f => by rw [(k x f).2]; exact o.stands x f⟩⟩
  · rw [upd_ne (ne_of_none e h0)]; exact s.keep x w e hv
  · by_cases z : x = p
    · subst z; exact h0
    · rw [upd_ne z] at e; exact s.trk x e
  · have h := o.at_ m lo q
    have ne : lo.on = true → ρ m ≠ p := fun t z => a.nl ⟨m, lo, q, t, z⟩
    cases lo with
    | l xs => obtain ⟨f, vs, h1, h2⟩ := h; exact ⟨f, vs, by rw [upd_ne (ne rfl)]; exact h1, RepL.mono k xs h2⟩
    | d ks xs => obtain ⟨f, vs, h1, h2, h3⟩ := h; exact ⟨f, vs, by rw [upd_ne (ne rfl)]; exact h1, h2, RepL.mono k xs h3⟩
    | t ks xs => obtain ⟨f, vs, h1, h2, h3⟩ := h; exact ⟨f, vs, by rw [upd_ne (ne rfl)]; exact h1, h2, RepL.mono k xs h3⟩
    | i C ns xs => obtain ⟨f, dx, fs, h1, oc, h2, h3⟩ := h; exact ⟨f, dx, fs, by rw [upd_ne (ne rfl)]; exact h1, oc, h2, RepL.mono k xs h3⟩
    | z d => exact Rep.mono k d h
/-- it comes to be ours, at rest -/
theorem adopt (h0 : H0 p = none) (s : Step F0 ρ0 H0 L0 F ρ H L) (o : Ok K F ρ H L) (a : Apart F ρ H L p) {u : HO} (h : H p = some u) : (∀ a, F a → F1 F p a ∧ H a = H a) ∧ Step F0 ρ0 H0 L0 (F1 F p) ρ H L ∧ Ok K (F1 F p) ρ H L := by
  have k : ∀ a, F a → F1 F p a ∧ H a = H a := fun x f => ⟨.inl f, rfl⟩
  refine ⟨k, ⟨fun x f => ⟨.inl (s.fz x f).1, (s.fz x f).2⟩, s.len, s.same, s.keep, s.new, s.off, s.trk, fun x f => f.elim (s.fr x) fun z => .inr (.inl (z ▸ h0))⟩, ⟨fun m lo q => ?_, o.inj, fun x f => f.elim (o.stands x) fun z => by rw [z, h]; simp⟩⟩
  have hh := o.at_ m lo q
  have ne : lo.on = true → ρ m ≠ p := fun t z => a.nl ⟨m, lo, q, t, z⟩
  cases lo with
  | l xs => obtain ⟨f, vs, h1, h2⟩ := hh; exact ⟨fun z => z.elim f (ne rfl), vs, h1, RepL.mono k xs h2⟩
  | d ks xs => obtain ⟨f, vs, h1, h2, h3⟩ := hh; exact ⟨fun z => z.elim f (ne rfl), vs, h1, h2, RepL.mono k xs h3⟩
  | t ks xs => obtain ⟨f, vs, h1, h2, h3⟩ := hh; exact ⟨fun z => z.elim f (ne rfl), vs, h1, h2, RepL.mono k xs h3⟩
  | i C ns xs => obtain ⟨f, dx, fs, h1, oc, h2, h3⟩ := hh; exact ⟨fun z => z.elim f (ne rfl), dx, fs, h1, oc, h2, RepL.mono k xs h3⟩
  | z d => exact Rep.mono k d hh
end

/-! ### [e for target in iter if test] -/
def wipeS (st : SS) : List Nat → SS
  | [] => st
  | v :: vs => (wipeS st vs).set v none
theorem RepSt.wipe {K : Frag} {F : Addr → Prop} {ρ : Nat → Addr} {H : Hp} {L : LS} {σ : L2.St} {st : SS} (r : RepSt K F ρ H L σ st) : ∀ vs : List Nat, RepSt K F ρ H L (L2.wipe σ vs) (wipeS st vs)
  | [] => r
  | v :: vs => by
    have q := RepSt.wipe r vs
    refine ⟨by show ((L2.wipe σ vs).set v none).length = ((wipeS st vs).set v none).length; simp [q.len], fun i u e => ?_⟩
    have e : ((wipeS st vs).set v none)[i]? = some (some u) := e
    show ∃ w, ((L2.wipe σ vs).set v none)[i]? = some (some w) ∧ _
    by_cases hv : i = v
    · subst hv
      by_cases hl : i < (wipeS st vs).length
      · rw [List.getElem?_set_self hl] at e; cases e
      · rw [List.getElem?_eq_none (by simpa using hl)] at e; cases e
    · rw [List.getElem?_set_ne (Ne.symm hv)] at e ⊢
      exact q.at_ i u e
/-- within a comprehension nothing is raised -/
abbrev Wn : WX := fun _ _ _ _ => False
def bindN {α β : Type} : Rs α → (α → LS → Rs β) → Rs β
  | .ok a L, g => g a L
  | _, _ => .no
@[simp] theorem bindN_ok {α β : Type} (a : α) (L : LS) (g : α → LS → Rs β) : bindN (.ok a L) g = g a L := rfl
def compF (tf : TgF) (tt : TF) (fe : EF) (st : SS) : List D → List D → LS → Rs (List D)
  | [], acc, L => .ok acc L
  | d :: ds, acc, L => opt (tf d st) fun st1 => bindN (tt st1 L) fun k L1 => if k then bindN (fe st1 L1) fun u L2 => opt (fzU L2 u) fun p => if acc.length < big then compF tf tt fe st ds (acc ++ [p.1]) p.2 else .no else compF tf tt fe st ds acc L1
def eComp (fi : IF) (vs : List Nat) (tf : TgF) (tt : TF) (fe : EF) : EF := fun st L => (fi st L).bind fun ds L1 => (compF tf tt fe (wipeS st vs) ds [] L1).bind fun xs L2 => .ok (.d (.lst xs)) L2
theorem ge_bindN {α γ β δ : Type} {P : PP γ δ} {K : Frag} {W : WX} {σ : L2.St} {F : Addr → Prop} {ρ : Nat → Addr} {H : Hp} {L : LS} {Q : δ → Hp → Prop} {x : Rs α} {g : α → LS → Rs β} {h : β → LS → Rs γ} (q : GE P K W σ F ρ H L Q ((bindN x g).bind h)) : ∃ a L1, x = .ok a L1 ∧ GE P K W σ F ρ H L Q ((g a L1).bind h) := by
  cases x with
  | ok a L1 => exact ⟨a, L1, rfl, q⟩
  | ex C ns xs L1 => exact q.elim
  | no => exact q.elim
theorem ge_optB {α γ β δ : Type} {P : PP γ δ} {K : Frag} {W : WX} {σ : L2.St} {F : Addr → Prop} {ρ : Nat → Addr} {H : Hp} {L : LS} {Q : δ → Hp → Prop} {x : Option α} {g : α → Rs β} {h : β → LS → Rs γ} (q : GE P K W σ F ρ H L Q ((opt x g).bind h)) : ∃ a, x = some a ∧ GE P K W σ F ρ H L Q ((g a).bind h) := by
  cases x with
  | some a => exact ⟨a, rfl, q⟩
  | none => exact q.elim
theorem ge_ifB {γ β δ : Type} {P : PP γ δ} {K : Frag} {W : WX} {σ : L2.St} {F : Addr → Prop} {ρ : Nat → Addr} {H : Hp} {L : LS} {Q : δ → Hp → Prop} {c : Prop} [Decidable c] {x : Rs β} {h : β → LS → Rs γ} (q : GE P K W σ F ρ H L Q ((if c then x else .no).bind h)) : c ∧ GE P K W σ F ρ H L Q (x.bind h) := by
  by_cases hc : c
  · rw [if_pos hc] at q; exact ⟨hc, q⟩
  · rw [if_neg hc] at q; exact q.elim
theorem comp_read {K : Frag} {W : WX} {fi : IF} {vs : List Nat} {tf : TgF} {tt : TF} {fe : EF} {σ : L2.St} {H : Hp} {Q : VK} (h : RG RepU K W (eComp fi vs tf tt fe) σ H Q) :
    tLc (RG PIt K W fi) (RT K vs tf) (RG PB K Wn tt) (RG RepU K Wn fe) vs σ H Q := by
  obtain ⟨F, ρ, L, st, o, r, h⟩ := h
  refine RG.one (P := PIt) o r h fun J H1 F1 ρ1 L1 ds s1 o1 r1 p1 h1 D hD => ?_
  refine ⟨fun i m H' => m = ds.length - i ∧ i ≤ ds.length ∧ ∃ F' ρ' L' acc va, Step F1 ρ1 H1 L1 F' ρ' H' L' ∧ Ok K F' ρ' H' L' ∧ Apart F' ρ' H' L' D ∧ H' D = some (.lst va) ∧ RepL K F' H' acc va ∧
    GE RepU K W σ F1 ρ1 H1 L1 Q ((compF tf tt fe (wipeS st vs) (ds.drop i) acc L').bind fun xs M2 => .ok (.d (.lst xs)) M2), ⟨ds.length, by simp, Nat.zero_le _, ?_⟩, ?_⟩
  · have ap : Apart F1 ρ1 H1 L1 D := by
      refine ⟨nF o1 hD, fun ⟨n, lo, e, t, z⟩ => ?_⟩
      have h := o1.at_ n lo e
      cases lo with
      | l xs => obtain ⟨_, vs, h1, _⟩ := h; rw [z, hD] at h1; cases h1
      | d ks xs => obtain ⟨_, vs, h1, _⟩ := h; rw [z, hD] at h1; cases h1
      | t ks xs => obtain ⟨_, vs, h1, _⟩ := h; rw [z, hD] at h1; cases h1
      | i C ns xs => obtain ⟨_, dx, fs, h1, _⟩ := h; rw [z, hD] at h1; cases h1
      | z d => cases t
    obtain ⟨_, s2, o2⟩ := bump o1 hD Step.refl o1 ap (.lst [])
    exact ⟨F1, ρ1, L1, [], [], s2, o2, ⟨ap.nf, ap.nl⟩, upd_same, rfl, h1⟩
  · rintro i m H2 ⟨rfl, hi, F2, ρ2, M2, acc, va, s2, o2, ap2, hd2, ra2, h2⟩
    obtain ⟨g1, g2⟩ := p1 F2 ρ2 H2 M2 s2 o2 i
    by_cases hlt : i < ds.length
    · have hdi : ds[i]? = some ds[i] := by simp [hlt]
      obtain ⟨go, yl⟩ := g1 _ hdi
      rw [List.drop_eq_getElem_cons hlt] at h2
      obtain ⟨st3, e3, h3⟩ := ge_optB h2
      refine .inr ⟨go, fun H' => ∃ F' ρ' L' acc va, Step F1 ρ1 H1 L1 F' ρ' H' L' ∧ Ok K F' ρ' H' L' ∧ Apart F' ρ' H' L' D ∧ H' D = some (.lst va) ∧ RepL K F' H' acc va ∧
        GE RepU K W σ F1 ρ1 H1 L1 Q ((compF tf tt fe (wipeS st vs) (ds.drop (i + 1)) acc L').bind fun xs M2 => .ok (.d (.lst xs)) M2), fun H' n => ⟨ds.length - (i + 1), by omega, rfl, hlt, n⟩, fun x H3 y => ?_⟩
      obtain ⟨F3, s3, o3, rx⟩ := yl x H3 y
      obtain ⟨ap3, hd3⟩ := ap2.on s3 hd2
      have r3 : RepSt K F3 ρ2 H3 M2 (L2.wipe σ vs) (wipeS st vs) := ((r1.wipe vs).mono s2).mono s3
      refine ⟨F3, ρ2, M2, wipeS st vs, ds[i], st3, o3, r3, rx, e3, fun σ4 r4 w4 => ⟨?_, F3, ρ2, M2, st3, o3, r4, ?_⟩⟩
      · have ww : ∀ (τ : L2.St) (us : List Nat), L2.wipe (L2.wipe τ us) us = L2.wipe τ us := by
          intro τ us
          induction us with
          | nil => rfl
          | cons u us ih =>
            show (L2.wipe ((L2.wipe τ us).set u none) us).set u none = (L2.wipe τ us).set u none
            rw [← wipe_set, ih]
            simp
        rw [w4, ww]
      · obtain ⟨k, L4, e4, h4⟩ := ge_bindN h3
        rw [e4]
        intro F4 ρ4 H4 b s4 o4 pb
        obtain rfl : k = b := pb
        obtain ⟨ap4, hd4⟩ := ap3.on s4 hd3
        have s14 := (s2.trans s3).trans s4
        have ra4 := RepL.mono s4.fz acc (RepL.mono s3.fz acc ra2)
        cases k with
        | false => exact iteF ⟨F4, ρ4, L4, acc, va, s14, o4, ap4, hd4, ra4, h4⟩
        | true =>
          refine iteT ⟨F4, ρ4, L4, st3, o4, r4.mono s4, ?_⟩
          obtain ⟨u, L5, e5, h5⟩ := ge_bindN h4
          rw [e5]
          intro F5 ρ5 H5 yv s5 o5 p5
          obtain ⟨ap5, hd5⟩ := ap4.on s5 hd4
          obtain ⟨⟨d6, L6⟩, e6, h6⟩ := ge_optB h5
          obtain ⟨hz, h6⟩ := ge_ifB h6
          obtain ⟨F6, s6, o6, q6⟩ := fzU_ok o5 p5 e6
          obtain ⟨ap6, hd6⟩ := ap5.on s6 hd5
          have ra6 := RepL.mono s6.fz acc (RepL.mono s5.fz acc ra4)
          refine ⟨va, hd6, by rw [big_eq, ra6.length]; exact hz, ?_⟩
          obtain ⟨k7, s7, o7⟩ := bump o1 hD ((s14.trans s5).trans s6) o6 ap6 (.lst (va ++ [yv]))
          exact ⟨F6, ρ5, L6, acc ++ [d6], va ++ [yv], s7, o7, ⟨ap6.nf, ap6.nl⟩, upd_same, RepL.mono k7 _ (ra6.append (RepL.one q6)), h6⟩
    · have e : i = ds.length := by omega
      subst e
      rw [List.drop_length] at h2
      refine .inl ⟨g2 (Nat.le_refl _), ?_⟩
      obtain ⟨k3, s3, o3⟩ := adopt hD s2 o2 ap2 hd2
      exact h2 _ _ _ _ s3 o3 (show Rep K (VL.F1 F2 D) H2 (.lst acc) (.ref D) from ⟨D, va, rfl, ⟨.inr rfl, hd2⟩, RepL.mono k3 acc ra2⟩)
abbrev KTs (X : Cx) (W : WX) (ifs : List Expr) (f : TF) : Prop := PTs X ifs (RG PB X.K W f)
theorem pts_wk {X : Cx} {ifs : List Expr} {t t' : TT} (h : PTs X ifs t) (i : ∀ σ H Q, t' σ H Q → t σ H Q) : PTs X ifs t' := ⟨fun pins s σ H Q I q => h.run pins s σ H Q I (i σ H Q q)⟩
def tYesF : TF := fun _ L => .ok true L
theorem kts_nil {X : Cx} {W : WX} : KTs X W [] tYesF := pts_wk pts_nil fun σ H Q ⟨F, ρ, L, st, o, r, h⟩ => h F ρ H true Step.refl o rfl
theorem kts_one {X : Cx} {W : WX} {c : Expr} {tc : TF} (h : KB X W c tc) : KTs X W [c] tc := pts_one h
section
variable {X : Cx} {W : WX} {elt tg iter : Expr} {ifs : List Expr} {scope : Scope} {own : List (Str × Nat)} {pos : Pos} {fi : IF} {tf : TgF} {tt : TF} {fe : EF} {is : List Nat}
theorem ke_comp (hN : X.N.Nodup) (hi : KI X W tg iter fi) (ok : BlkOk X.N X.env.scope scope own)
    (hg : ∀ (s : Shared) (H : Hp) (C : Addr) (cl : List (Str × Addr)) (fp : List Addr), KG (X.blk s H scope (compEnvC scope cl C X.env) fp) tg is tf)
    (ht : ∀ (s : Shared) (H : Hp) (C : Addr) (cl : List (Str × Addr)) (fp : List Addr), KTs (X.blk s H scope (compEnvC scope cl C X.env) fp) Wn ifs tt)
    (he : ∀ (s : Shared) (H : Hp) (C : Addr) (cl : List (Str × Addr)) (fp : List Addr), KE (X.blk s H scope (compEnvC scope cl C X.env) fp) Wn elt fe)
    (hv : own.map (·.2) = is := by rfl) (hc : X.calm = true := by rfl) (hs : ∀ x, foldedSetIterable iter X.env x = pure x := by intro _; rfl) :
    KE X W (.ListComp elt [⟨tg, iter, ifs, 0⟩] scope pos) (eComp fi is tf tt fe) := by
  subst hv
  exact pe_wk (pe_lc hc hN hi ok hg ht he hs) fun σ H Q h => comp_read h
theorem ks_setComp (i : Nat) {y : Str} {py spos : Pos} (hN : X.N.Nodup) (hi : KI X W tg iter fi) (ok : BlkOk X.N X.env.scope scope own)
    (hg : ∀ (s : Shared) (H : Hp) (C : Addr) (cl : List (Str × Addr)) (fp : List Addr), KG (X.blk s H scope (compEnvC scope cl C X.env) fp) tg is tf)
    (ht : ∀ (s : Shared) (H : Hp) (C : Addr) (cl : List (Str × Addr)) (fp : List Addr), KTs (X.blk s H scope (compEnvC scope cl C X.env) fp) Wn ifs tt)
    (he : ∀ (s : Shared) (H : Hp) (C : Addr) (cl : List (Str × Addr)) (fp : List Addr), KE (X.blk s H scope (compEnvC scope cl C X.env) fp) Wn elt fe)
    (hsw : swapsWith (.ListComp elt [⟨tg, iter, ifs, 0⟩] scope pos) (some (.Name y py)) spos.line X.env = pure true := by exact sw_true rfl rfl rfl (by decide +kernel))
    (hv : own.map (·.2) = is := by rfl) (hy : X.N[i]? = some y := by rfl) (hyl : X.env.scope.names.lookup y = some .local := by rfl) (hc : X.calm = true := by rfl) (hs : ∀ x, foldedSetIterable iter X.env x = pure x := by intro _; rfl) :
    KS X W (.Assign [.Name y py] (.ListComp elt [⟨tg, iter, ifs, 0⟩] scope pos) spos) (sSet i (eComp fi is tf tt fe)) := by
  subst hv
  refine ps_wk (ps_setLc (g := RT X.K (own.map (·.2)) tf) (tt := RG PB X.K Wn tt) (te := RG RepU X.K Wn fe) hc hN hy hyl hsw hi ok hg ht he hs) fun D σ H ⟨F, ρ, L, st, o, r, h⟩ => ?_
  refine comp_read ?_
  refine RS.one o r h fun x H1 F1 ρ1 L1 u s1 o1 r1 p1 h1 => ?_
  exact h1.nxt o1 (r1.set i p1)
end
end VL

set_option Elab.async false
set_option linter.all false
set_option maxRecDepth 100000
set_option maxHeartbeats 4000000
namespace VL
open PySem PySem.Spec PyProof.Rows L2
open PySem.W (Frag)

/-! ### instances of own classes -/
section
variable {K : Frag} {F : Addr → Prop} {ρ : Nat → Addr} {H : Hp} {L : LS}
theorem apart_none (o : Ok K F ρ H L) {p : Addr} (hp : H p = none) : Apart F ρ H L p := by
  refine ⟨nF o hp, fun ⟨n, lo, e, t, z⟩ => ?_⟩
  have h := o.at_ n lo e
  cases lo with
  | l xs => obtain ⟨_, vs, h1, _⟩ := h; rw [z, hp] at h1; cases h1
  | d ks xs => obtain ⟨_, vs, h1, _⟩ := h; rw [z, hp] at h1; cases h1
  | t ks xs => obtain ⟨_, vs, h1, _⟩ := h; rw [z, hp] at h1; cases h1
  | i C ns xs => obtain ⟨_, dx, fs, h1, _⟩ := h; rw [z, hp] at h1; cases h1
  | z d => cases t
end
section
variable {X : Cx} {W : WX}
/-- C(..), the instance may change further -/
def mkF (C : Addr) (m : FF) (src : List Sr) (n l : Nat) (p : List U × List U) (L1 : LS) : Rs U := if p.1.length = n ∧ p.2.length = l then opt (arrU (.l L1.length :: p.1) p.2 src) fun xs => (m xs (L1 ++ [.i C [] []])).bind fun u L2 => (match u with
      | .d .non => .ok (.l L1.length) L2
      | _ => .no) else .no
def eMake (C : Addr) (m : FF) (src : List Sr) (n l : Nat) (fa : CF) : EF := fun st L => (fa st L).bind fun p L1 => mkF C m src n l p L1
/-- a value comes to rest, what was made on the way is left alone -/
def eRest (fe : EF) : EF := fun st L => (fe st L).bind fun u L1 => opt (fzU L1 u) fun p => .ok (.d p.1) (p.2.take L.length)
end

/-! ### o.f = e, on an instance that still changes -/
def putN : Str → D → List Str → List D → List Str × List D
  | f, y, n :: ns, x :: xs => if n = f then (n :: ns, y :: xs) else ((n :: (putN f y ns xs).1), (x :: (putN f y ns xs).2))
  | f, y, _, _ => ([f], [y])
def putFld (Cs : List Addr) (f : Str) (ou vu : U) (L : LS) : Option LS := match ou with
  | .l n => (fzU L vu).bind fun p => (match p.2[n]? with
    | some (.i C ns xs) => if ns.length < 1000 ∧ C ∈ Cs then some (p.2.set n (.i C (putN f p.1 ns xs).1 (putN f p.1 ns xs).2)) else none
    | _ => none)
  | _ => none
def sFld (Cs : List Addr) (f : Str) (fo fe : EF) : SF := fun st L => ofR (fe st L) st fun v L1 => ofR (fo st L1) st fun ou L2 => optS (putFld Cs f ou v L2) fun L3 => .nx st L3
section
variable {X : Cx} {W : WX} {o e : Expr} {fo fe : EF} {pos pos' : Pos} {f : Str}
end
end VL

set_option Elab.async false
set_option linter.all false
set_option maxRecDepth 100000
set_option maxHeartbeats 4000000
namespace VL
open PySem PySem.Spec PyProof.Rows L2
open PySem.W (Frag)

theorem Rm.in1 {k : Nat} {A : Around} (r : Rm (k + 1) A) : Rm k A.in1 := ⟨r.rm.in1, r.gd⟩
/-! ### special names of own classes -/
section
variable {K : Frag} {prog : Program} {w : World} {A : Around} {E : Value → Shared → Prop} {s : Shared} {a C f : Addr} {ox : Obj} {od : Option Obj}
end
theorem mem_of_lookup {β : Type} : ∀ {tb : List (Addr × β)} {C : Addr} {m : β}, tb.lookup C = some m → (C, m) ∈ tb
  | (D, b) :: tb, C, m, e => by
    by_cases h : (C == D) = true
    · rw [List.lookup_cons, h] at e
      cases e
      exact .head _ |> fun z => (beq_iff_eq.mp h) ▸ z
    · rw [List.lookup_cons, Bool.eq_false_iff.mpr h] at e
      exact .tail _ (mem_of_lookup e)
section
variable {X : Cx} {W : WX} {k : Nat}
/-! ### the truth of instances -/
def truG (no : List Addr) (tb : List (Addr × FF)) (u : U) (L : LS) : Rs Bool := opt (rdU L u) fun d => match d with
  | .ins C _ _ => if C ∈ no then .ok true L else (match tb.lookup C with
    | some m => (m [u] L).bind fun r L1 => (match r with
      | .d (.bl b) => .ok b L1
      | _ => .no)
    | none => .no)
  | d => opt (truB d) fun k => .ok k L
end
section
variable {X : Cx} {W : WX} {k : Nat}
def eFnU (g : List U → LS → Rs U) (f : AF) : EF := fun st L => (f st L).bind fun us L1 => g us L1
section
variable {x : Str} {T id : String} {p pos : Pos} {g : List U → LS → Rs U} {e : Expr} {es : List Expr} {f : AF}
end
def boolU (no : List Addr) (tb : List (Addr × FF)) : List U → LS → Rs U
  | [u], L => (match rdU L u with
    | some (.ins _ _ _) => (truG no tb u L).bind fun b L1 => .ok (.d (.bl b)) L1
    | _ => .no)
  | _, _ => .no
end
end VL

set_option Elab.async false
set_option linter.all false
set_option maxRecDepth 100000
set_option maxHeartbeats 4000000
namespace VL
open PySem PySem.Spec PyProof.Rows L2
open PySem.W (Frag)

/-! ### int of long texts -/
def NoDig (h : Heap) : Prop := ∃ mc, h.Ns cStatics mc ∧ mc "sys.int_max_str_digits" = none
theorem wp_textL {M : Model} {A : Around} {E : Value → Shared → Prop} {s : Shared} {Q : Value → Shared → Prop} {v : Value} {text : List Nat} {n : Int}
    (nd : NoDig s.heap) (hs : ¬ (text.takeWhile (· != 0)).length ≤ 640) (hr : (int_private% "readNumeral") 4300 10 (text.takeWhile (· != 0)) = (int_private% "Numeral.value") n)
    (ha : ((text.takeWhile (· != 0)).length == text.length) = true) (h : Q (.int n s.toks) { s with toks := s.toks + 1 }) :
    wpAny M A ((int_private% "intFromText") v text 10) Q E s := by
  obtain ⟨mc, h1, h2⟩ := nd
  have hm : wpAny M A Builtin.intMaxStrDigits (fun k s' => k = 4300 ∧ s' = s) E s := by
    unfold Builtin.intMaxStrDigits
    refine wpAny_bind (wpAny_nsGet h1 ?_)
    rw [h2]
    exact wpAny_pure ⟨rfl, rfl⟩
  obtain ⟨hp, g, d, tk, os⟩ := s
  have hs' : decide ((text.takeWhile (· != 0)).length ≤ 640) = false := decide_eq_false hs
  repeat (any_goals (first
    | assumption
    | (with_reducible refine wpAny_ite_false hs ?_)
    | (with_reducible refine wpAny_ite_true (decide_eq_true ha) ?_)
    | (with_reducible refine wpAny_bind (wpAny_mono hm (fun k s' hk => ?_) fun _ _ z => z))
    | wp_step))
  obtain ⟨rfl, rfl⟩ := hk
  rw [hr]
  dsimp only
  repeat (any_goals (first
    | assumption
    | (with_reducible refine wpAny_ite_true (decide_eq_true ha) ?_)
    | wp_step))
theorem meets_textL {x : PySem.Str} {u : Tok} {n : Int} (hl : x.length ≤ sizeLine) (hn : PySem.intText? x = some n) :
    Meets (Builtin.«int.__new__» ⟨[.type "int", .str x u], []⟩) (fun _ R s => NoDig s.heap ∧ R (.ok (.ret (.int n s.toks))) { s with toks := s.toks + 1 }) :=
  Meets.of_wp fun prog w A R s hs => by
    obtain ⟨nd, h⟩ := hs
    obtain ⟨hp, g, d, tk, os⟩ := s
    have f1 := F.conv_sub_int
    have f2 := F.madeHere_int
    have f3 := PySem.W.KIN.str_int
    have f4 := PySem.W.KIN.str_idx
    have f5 := PySem.W.KIN.str_trunc
    have f6 : typeOf (.str x u) = pure (.type "str") := rfl
    by_cases hs : (PySem.numSeenOf x).length ≤ 640
    · have hr : (int_private% "readNumeral") 0 10 (PySem.numSeenOf x) = (int_private% "Numeral.value") n ∧ ((PySem.numSeenOf x).length == (PySem.numTextOf x).length) = true := by
        rcases PySem.read0 x hs with ⟨m, h1, h2, h3⟩ | ⟨h1, _⟩
        · rw [hn] at h1
          injection h1 with h1
          subst h1
          exact ⟨h3, h2⟩
        · rw [hn] at h1
          cases h1
      have hk := PySem.W.KIN.Hid.mk (And.intro hs hr)
      clear hs hr hl hn
      repeat (any_goals (first
        | assumption
        | ((with_reducible show wpAny _ _ ((int_private% "intFromText") _ _ _) _ _ _); refine PySem.W.KIN.wp_text hk.out.1 hk.out.2.1 hk.out.2.2 ?_)
        | wp_step))
      all_goals first | exact ⟨_, rfl, h⟩ | skip
    · have hr : (int_private% "readNumeral") 4300 10 (PySem.numSeenOf x) = (int_private% "Numeral.value") n ∧ ((PySem.numSeenOf x).length == (PySem.numTextOf x).length) = true := by
        rcases PySem.read4300 x hl with ⟨m, h1, h2, h3⟩ | ⟨h1, _⟩
        · rw [hn] at h1
          injection h1 with h1
          subst h1
          exact ⟨h3, h2⟩
        · rw [hn] at h1
          cases h1
      have hk := PySem.W.KIN.Hid.mk (And.intro nd (And.intro hs hr))
      clear hs hr hl hn nd
      repeat (any_goals (first
        | assumption
        | ((with_reducible show wpAny _ _ ((int_private% "intFromText") _ _ _) _ _ _); refine wp_textL hk.out.1 hk.out.2.1 hk.out.2.2.1 hk.out.2.2.2 ?_)
        | wp_step))
      all_goals first | exact ⟨_, rfl, h⟩ | skip
end VL

set_option Elab.async false
set_option linter.all false
set_option maxRecDepth 100000
set_option maxHeartbeats 4000000
namespace VL
open PySem PySem.Spec PyProof.Rows L2
open PySem.W (Frag)

section
variable {X : Cx} {W : WX}
def intL : List D → Option D
  | [.int i] => some (.int i)
  | [.bl b] => some (.int (if b then 1 else 0))
  | [.str x] => if x.length ≤ big then (PySem.intText? x).map .int else none
  | _ => none
theorem NoDig.keeps {h h' : Heap} (n : NoDig h) (k : ∀ b o, h.get? b = some o → h'.get? b = some o) : NoDig h' := let ⟨mc, a, b⟩ := n; ⟨mc, a.keeps k, b⟩
theorem cd_intL (nd : NoDig X.base) : CallR X (.type "int") (rDn X.K intL) := by
  intro pins s σ H xs us Q I rs ⟨F, ρ, L, ds, d, o, r, e, k⟩
  unfold intL at e
  split at e <;> try cases e
  · obtain ⟨v, rfl, h⟩ := one_of r
    cases h
    exact call_int1 pins s σ H _ us Q I rs (.inl ⟨_, rfl, k F H _ Step.refl o rfl⟩)
  · obtain ⟨v, rfl, h⟩ := one_of r
    cases h
    exact call_int1 pins s σ H _ us Q I rs (.inr ⟨_, rfl, k F H _ Step.refl o rfl⟩)
  · obtain ⟨v, rfl, h⟩ := one_of r
    cases h
    split at e
    · rename_i hz
      obtain ⟨n, e2, rfl⟩ := Option.map_eq_some_iff.mp e
      obtain ⟨u, rfl, ru⟩ := vals1 rs
      obtain ⟨t, rfl⟩ := ru
      refine call_int_1 (meets_textL (by rw [big_eq]; exact hz) e2) ⟨nd.keeps I.bk, rfl, ?_⟩
      exact ⟨.int n, H, I.tok _, ⟨_, rfl⟩, k F H _ Step.refl o rfl⟩
    · cases e

/-! ### text * n -/
/-! ### repr of lists and tuples of plain data -/
theorem Inv.more {pins : List (Addr × Obj)} {σ : L2.St} {H : Hp} {s : Shared} {h' : Heap} {t' : Nat} (I : Inv X pins σ H s) (k : ∀ b o, s.heap.get? b = some o → h'.get? b = some o) : Inv X pins σ H { s with heap := h', toks := t' } :=
  Inv.turnedL (ch := []) I (fun b o _ e => k b o e) fun b hb => absurd hb (by simp)
end
end VL

set_option Elab.async false
set_option linter.all false
set_option maxRecDepth 100000
set_option maxHeartbeats 4000000
namespace VL
open PySem PySem.Spec PyProof.Rows L2
open PySem.W (Frag)

/-! ### {k: v, ..} -/
def keyD : D → Option Key
  | .int i => some (.inl i)
  | .str x => some (.inr x)
  | _ => none
def keyU : U → Option Key
  | .d d => keyD d
  | .l _ => none
theorem keyD_ok {K : Frag} {F : Addr → Prop} {H : Hp} {d : D} {k : Key} {v : V} (e : keyD d = some k) (r : Rep K F H d v) : v = kV k := by
  cases d <;> simp only [keyD] at e <;> cases e <;> cases r <;> rfl
def putKD (kvs : List (Key × D)) (k : Key) (v : D) : List (Key × D) :=
  if (kvs.any fun kv => decide (kv.1 = k)) = true then kvs.map (fun kv => if kv.1 = k then (kv.1, v) else kv) else kvs ++ [(k, v)]
def mergeKD (kvs more : List (Key × D)) : List (Key × D) := more.foldl (fun acc kv => putKD acc kv.1 kv.2) kvs
abbrev RepKV (K : Frag) (F : Addr → Prop) (H : Hp) : List (Key × D) → List (Key × V) → Prop := Paired fun p q => p.1 = q.1 ∧ Rep K F H p.2 q.2
section
variable {K : Frag} {F : Addr → Prop} {H : Hp}
theorem RepKV.put {k : Key} {d : D} {v : V} (hv : Rep K F H d v) {a : List (Key × D)} {b : List (Key × V)} (h : RepKV K F H a b) : RepKV K F H (putKD a k d) (putK b k v) := by
  have e : ∀ {a : List (Key × D)} {b : List (Key × V)}, RepKV K F H a b → (a.any fun kv => decide (kv.1 = k)) = (b.any fun kv => decide (kv.1 = k)) := by
    intro a b h
    induction h with
    | nil => rfl
    | cons q _ ih => simp only [List.any_cons, ih, q.1]
  unfold putKD putK
  rw [e h]
  split
  · clear e
    rename_i hh; clear hh
    induction h with
    | nil => exact .nil
    | cons q _ ih =>
      simp only [List.map_cons]
      refine .cons ?_ ih
      rw [q.1]
      split
      · exact ⟨rfl, hv⟩
      · exact q
  · clear e
    rename_i hh; clear hh
    induction h with
    | nil => exact .cons ⟨rfl, hv⟩ .nil
    | cons q _ ih => exact .cons q ih
theorem RepKV.merge {more : List (Key × D)} {ms : List (Key × V)} (h : RepKV K F H more ms) : ∀ {a : List (Key × D)} {b : List (Key × V)}, RepKV K F H a b → RepKV K F H (mergeKD a more) (mergeK b ms) := by
  induction h with
  | nil => intro a b q; exact q
  | cons q _ ih =>
    intro a b r
    unfold mergeKD mergeK at ih ⊢
    simp only [List.foldl_cons]
    rw [← q.1]
    exact ih (RepKV.put q.2 r)
theorem RepKV.keys {a : List (Key × D)} {b : List (Key × V)} (h : RepKV K F H a b) : b.map (·.1) = a.map (·.1) := by
  induction h with
  | nil => rfl
  | cons q _ ih => simp only [List.map_cons, ih, q.1]
theorem RepKV.vals {a : List (Key × D)} {b : List (Key × V)} (h : RepKV K F H a b) : RepL K F H (a.map (·.2)) (b.map (·.2)) := by
  induction h with
  | nil => rfl
  | cons q _ ih => exact ⟨_, _, rfl, q.2, ih⟩
theorem RepKV.mono {F' : Addr → Prop} {H' : Hp} (k : ∀ a, F a → F' a ∧ H' a = H a) {a : List (Key × D)} {b : List (Key × V)} (h : RepKV K F H a b) : RepKV K F' H' a b := by
  induction h with
  | nil => exact .nil
  | cons q _ ih => exact .cons ⟨q.1, Rep.mono k _ q.2⟩ ih
end
def PKV : PP (List (Key × D)) (List (V × V)) := fun K F ρ H L a b => ∃ kvs : List (Key × V), b = kvs.map (fun kv => (kV kv.1, kv.2)) ∧ RepKV K F H a kvs
def dPairs : List (EF × EF) → SS → LS → Rs (List (Key × D))
  | [], _, L => .ok [] L
  | (fk, fv) :: r, st, L => (fk st L).bind fun uk L1 => (fv st L1).bind fun uv L2 => opt (keyU uk) fun k => opt (fzU L2 uv) fun p => (dPairs r st p.2).bind fun ps L3 => .ok ((k, p.1) :: ps) L3
section
variable {K : Frag} {W : WX}
/-- as RG.one, what is wanted told from an earlier state on -/
theorem RG.base {α β γ δ : Type} {P : PP α β} {P' : PP γ δ} {f : SS → LS → Rs α} {g : α → LS → Rs γ} {σ : L2.St} {F F1 : Addr → Prop} {ρ ρ1 : Nat → Addr} {H H1 : Hp} {L L1 : LS} {st : SS} {Q : δ → Hp → Prop} {Q' : β → Hp → Prop} (s1 : Step F ρ H L F1 ρ1 H1 L1) (o1 : Ok K F1 ρ1 H1 L1) (r1 : RepSt K F1 ρ1 H1 L1 σ st)
    (h : GE P' K W σ F ρ H L Q ((f st L1).bind g)) (q : ∀ b H2 F2 ρ2 L2 a, Step F1 ρ1 H1 L1 F2 ρ2 H2 L2 → Ok K F2 ρ2 H2 L2 → RepSt K F2 ρ2 H2 L2 σ st → P K F2 ρ2 H2 L2 a b → GE P' K W σ F ρ H L Q (g a L2) → Q' b H2) : RG P K W f σ H1 Q' := by
  refine ⟨F1, ρ1, L1, st, o1, r1, ?_⟩
  cases e : f st L1 with
  | ok a L2 => rw [e] at h; exact fun F2 ρ2 H2 b s2 o2 p2 => q b H2 F2 ρ2 L2 a s2 o2 (r1.mono s2) p2 h
  | ex C ns xs L2 => rw [e] at h; exact fun F2 ρ2 H2 d s2 o2 t => h F2 ρ2 H2 d (s1.trans s2) o2 t
  | no => rw [e] at h; exact h
theorem pairs_read : ∀ (ps : List (EF × EF)) {σ : L2.St} {H : Hp} {Q : List (V × V) → Hp → Prop}, RG PKV K W (dPairs ps) σ H Q → tPairs (ps.map fun q => (RG RepU K W q.1, RG RepU K W q.2)) σ H Q
  | [], σ, H, Q, ⟨F, ρ, L, st, o, r, h⟩ => h.fin (b := []) o ⟨[], rfl, .nil⟩
  | (fk, fv) :: ps, σ, H, Q, ⟨F, ρ, L, st, o, r, h⟩ => by
    refine RG.one o r h fun x H1 F1 ρ1 L1 u s1 o1 r1 p1 h1 => ?_
    refine RG.one o1 r1 h1 fun y H2 F2 ρ2 L2 u2 s2 o2 r2 p2 h2 => ?_
    obtain ⟨k, e1, h2⟩ := h2.opt
    obtain ⟨⟨d, L3⟩, e2, h2⟩ := h2.opt
    obtain ⟨F3, s3, o3, p3⟩ := fzU_ok o2 p2 e2
    have h3 := GE.on s3 h2
    refine pairs_read ps (RG.one (P := PKV) o3 (r2.mono s3) h3 fun z H4 F4 ρ4 L4 a s4 o4 r4 p4 h4 => ?_)
    obtain ⟨kvs, rfl, q⟩ := p4
    have ek : x = kV k := by
      cases u with
      | d dk => exact keyD_ok e1 p1
      | l n => cases e1
    exact h4.fin o4 ⟨(k, y) :: kvs, by rw [ek]; rfl, .cons ⟨rfl, Rep.mono s4.fz _ p3⟩ q⟩
end
section
variable {X : Cx} {W : WX} {pos : Pos}
structure KPs (X : Cx) (W : WX) (pos : Pos) (keys : List (Option Expr)) (values : List Expr) (ps : List (EF × EF)) : Prop where
  run : PPs X pos keys values (ps.map fun q => (RG RepU X.K W q.1, RG RepU X.K W q.2))
theorem kps_nil : KPs X W pos [] [] [] := ⟨pps_nil⟩
theorem kps_cons {k v : Expr} {ks : List (Option Expr)} {vs : List Expr} {fk fv : EF} {ps : List (EF × EF)} (hk : KE X W k fk) (hv : KE X W v fv) (hr : KPs X W pos ks vs ps) : KPs X W pos (some k :: ks) (v :: vs) ((fk, fv) :: ps) := ⟨pps_cons hk hv hr.run⟩
/-- a dict display, at rest -/
def eDic (ps : List (EF × EF)) : EF := fun st L => (dPairs ps st L).bind fun kvs L1 => if kvs.length ≤ 15 then .ok (.d (.dic ((mergeKD [] kvs).map (·.1)) ((mergeKD [] kvs).map (·.2)))) L1 else .no
theorem ke_dict {keys : List (Option Expr)} {values : List Expr} {ps : List (EF × EF)} (h : KPs X W pos keys values ps) (hall : keys.all (·.isSome) = true := by rfl) (hl : keys.length = values.length := by rfl) (h0 : keys ≠ [] := by simp) (h15 : keys.length ≤ 15 := by decide) : KE X W (.Dict keys values pos) (eDic ps) := by
  refine pe_wk (pe_disp h.run hall hl h0 h15) fun σ H Q ⟨F, ρ, L, st, o, r, h⟩ p hp => ?_
  have ap := apart_none o hp
  obtain ⟨_, s1, o1⟩ := bump o hp Step.refl o ap (.dK [])
  have ap1 : Apart F ρ (upd H p (.dK [])) L p := ⟨ap.nf, ap.nl⟩
  refine pairs_read ps (RG.base (P := PKV) s1 o1 (r.mono s1) h fun z H2 F2 ρ2 L2 a s2 o2 r2 p2 h2 => ?_)
  obtain ⟨kvs, rfl, q⟩ := p2
  obtain ⟨hz, h2⟩ := ge_if h2
  obtain ⟨ap2, e2⟩ := ap1.on s2 upd_same
  have hlen : kvs.length = a.length := by rw [← List.length_map (·.1), RepKV.keys q, List.length_map]
  refine ⟨e2, kvs, rfl, by rw [hlen]; exact hz, ?_⟩
  obtain ⟨k3, s3, o3⟩ := bump o hp (s1.trans s2) o2 ap2 (.dK (mergeK [] kvs))
  obtain ⟨k4, s4, o4⟩ := adopt hp s3 o3 ⟨ap2.nf, ap2.nl⟩ upd_same
  have q4 := RepKV.merge (RepKV.mono k4 (RepKV.mono k3 q)) .nil
  exact h2 _ _ _ _ s4 o4 (show Rep X.K (F1 F2 p) _ (.dic _ _) (.ref p) from ⟨p, _, rfl, .inr rfl, upd_same, RepKV.keys q4, RepKV.vals q4⟩)
theorem ke_dict0 : KE X W (.Dict [] [] pos) (fun st L => .ok (.d (.dic [] [])) L) := by
  refine pe_wk pe_dnewK fun σ H Q ⟨F, ρ, L, st, o, r, h⟩ p hp => ?_
  obtain ⟨s1, o1⟩ := new_ok o hp (.dK [])
  exact h _ _ _ _ s1 o1 (show Rep X.K (F1 F p) _ (.dic [] []) (.ref p) from ⟨p, [], rfl, .inr rfl, upd_same, rfl, rfl⟩)
end
end VL

set_option Elab.async false
set_option linter.all false
set_option maxRecDepth 100000
set_option maxHeartbeats 4000000
namespace VL
open PySem PySem.Spec PyProof.Rows L2
open PySem.W (Frag)

/-- a law's def, called with the script at the heap behind the top -/
theorem vl_call {P : Program} {w : World} {K : Frag} {mg mb : Str → Option Value} {k : Nat} {fa a : Addr} {fd : FuncData} {x : Str} {m : FF} {s₁ : Shared} {vs : List Value} {ns : List Int}
    (KX : K.In s₁.heap) (hns : s₁.heap.Ns mainGlobals mg) (hb : s₁.heap.Ns builtinsNs mb) (hbb : ∀ x : Str, x ≠ "__name__" → mb x = bootBuiltins x) (hlim : s₁.heap.NoLimit) (hdg : NoDig s₁.heap) (hg : s₁.gens = #[])
    (ha : s₁.heap.get? a = some { cls := .type "list", data := .seq vs.toArray }) (hi : IntsAre vs ns) (hl : ns.length ≤ sizeLine) (hr : Rm k callerA)
    (G : ∀ base : Heap, K.In base → base.Ns mainGlobals mg → NoDig base → KFn P w K mg base k fa fd [x] m) (hbind : ∀ (s : Shared) (u : Value), BindsTo s fd ⟨[u], []⟩ [(x, u)])
    (hm : ∃ L', m [.d (.scr ns)] [] = .ok (.d (.bl true)) L') :
    codeAny (model P w) callerA (.call (.ref fa) ⟨[.ref a], []⟩) (fun r s' => r = .ok (.ret (.bool true)) ∧ OldK s₁.heap s'.heap ∧ s'.os = s₁.os ∧ AllBare s'.gens) s₁ := by
  have rv := vals_ints hi
  have lenV := hi.length
  have core : ∀ H : Hp, Only H → Rep K (fun b => H b ≠ none) H (.scr ns) (.ref a) → HOk P w H s₁.heap → (∀ b, H b ≠ none → b = a) → (H a ≠ none → K.lookup a = none) →
      codeAny (model P w) callerA (.call (.ref fa) ⟨[.ref a], []⟩) (fun r s' => r = .ok (.ret (.bool true)) ∧ OldK s₁.heap s'.heap ∧ s'.os = s₁.os ∧ AllBare s'.gens) s₁ := by
    intro H hO hS hok hA hK
    have noA : ∀ {b : Addr} {o : Obj} {es : Array DictEntry} {ep : Nat}, s₁.heap.get? b = some o → o.data = .dict es ep → H b = none := fun {b o es ep} e d => by
      cases q : H b with
      | none => rfl
      | some u =>
        have e' : b = a := hA b (by rw [q]; simp)
        subst e'
        rw [ha] at e; cases e
        have d' : Data.seq vs.toArray _ = Data.dict es ep := d
        cases d'
    have nsK : ∀ {b : Addr} {m : Str → Option Value}, s₁.heap.Ns b m → (hidT s₁.heap H).Ns b m := fun {b m} ⟨o, es, ep, e, d, r⟩ => ⟨o, es, ep, hidT_get e (noA e d), d, r⟩
    have hKb : K.In (hidT s₁.heap H) := fun b o e => hidT_get (KX b o e) (by
      cases q : H b with
      | none => rfl
      | some u =>
        have e' : b = a := hA b (by rw [q]; simp)
        subst e'
        rw [hK (by rw [q]; simp)] at e; cases e)
    have hM : Mod K mg (hidT s₁.heap H) := ⟨hKb, nsK hns, ⟨mb, nsK hb, hbb⟩, let ⟨mc, h1, h2⟩ := hlim; ⟨mc, nsK h1, h2⟩⟩
    have hD : NoDig (hidT s₁.heap H) := let ⟨mc, h1, h2⟩ := hdg; ⟨mc, nsK h1, h2⟩
    have e0 : Env0 P w K mg (hidT s₁.heap H) callerA [] s₁ H := ⟨rfl, hM, fun b o e => of_hidT e, Nat.le_of_eq (hidT_size _ _), trivial, fun b hb => absurd (show b ∈ ([] : List Addr) from hb) (by simp), hok, .of_eq hg⟩
    obtain ⟨L', hm⟩ := hm
    refine codeAny_mono ((G _ hKb (nsK hns) hD).run callerA [] s₁ H ⟨[.ref a], []⟩ [.ref a] [.ref a] (fun v _ => v = .bl true) (fun _ _ _ => False) hr e0 (hbind s₁ (.ref a)) (.cons rfl .nil) ⟨fun b => H b ≠ none, fun _ => 0, [], [.d (.scr ns)], ⟨fun n lo e => by simp at e, fun i j _ _ e => by simp at e, fun _ f => f⟩, ⟨_, _, rfl, hS, rfl⟩, rfl, ?_⟩) fun r s' h => ?_
    · rw [hm]
      intro F' ρ' H' b _ _ p
      exact p
    cases r with
    | error e => obtain ⟨_, _, _, _, _, _, _, _, _, _, _, _, z⟩ := h; exact z.elim
    | ok fl =>
      cases fl with
      | next => exact False.elim h
      | brk => exact False.elim h
      | cont => exact False.elim h
      | ret u =>
        obtain ⟨v, H', os, bare, un, hok', r', q⟩ := h
        have q' : v = .bl true := q
        subst q'
        obtain rfl : u = Value.bool true := r'
        refine ⟨rfl, OldK.of_keep fun b o e => ?_, os, bare⟩
        cases q : H b with
        | none => exact un.keep b o e q (by intro z; exact absurd (show b ∈ ([] : List Addr) from z) (by simp)) (by simp)
        | some u =>
          rcases hO b with z | ⟨ob, xs, z⟩
          · rw [q] at z; cases z
          · have z2 := un.frzs b ob _ z
            obtain ⟨e1, _⟩ := hok b _ z
            obtain ⟨e2, _⟩ := hok' b _ z2
            rw [e] at e1; cases e1
            exact e2
  cases hk : K.lookup a with
  | some o =>
    have e := KX a o hk
    rw [ha] at e
    cases e
    exact core (fun _ => none) (fun _ => .inl rfl) ⟨a, rfl, .inr ⟨_, vs.toArray, _, hk, rfl, rfl, rfl, by rw [List.size_toArray, lenV]; exact hl, by simpa using rv⟩⟩ (fun b u z => by have z' : (none : Option HO) = some u := z; cases z') (fun b z => absurd rfl z) fun z => absurd rfl z
  | none =>
    refine core (fun b => if b = a then some (.frz { cls := .type "list", data := .seq vs.toArray } (.lst (ns.map V.int))) else none) (fun b => ?_) ⟨a, rfl, .inl ⟨by simp, { cls := .type "list", data := .seq vs.toArray }, if_pos rfl⟩⟩ (fun b u z => ?_) (fun b z => ?_) fun _ => hk
    · by_cases hb : b = a
      · exact .inr ⟨_, _, if_pos hb⟩
      · exact .inl (if_neg hb)
    · by_cases hb : b = a
      · have z' := (if_pos hb).symm.trans z
        cases z'
        subst hb
        exact ⟨ha, by rw [List.length_map]; exact hl, vs, _, rv, ha⟩
      · have z' := (if_neg hb).symm.trans z
        cases z'
    · by_cases hb : b = a
      · exact hb
      · exact absurd (if_neg hb) z
theorem walk_vl {l : PySem.W.OpenLaw} {n k : Nat} {q : Program} {loose : List Str} {XP : (Str → Option Value) → Heap → Prop} {YP : World → Heap → Prop} {d : DefRec} {K : Params → Frag} {x : Str}
    (hn : l.most = some n) (hn2 : n ≤ sizeLine) (hdf : d.params.defaults = []) (hr : Rm k callerA) (hY : ∀ (w : World) (h : Heap), YP w h → (K w.params).In h)
    (G : ∀ (w : World) (mg : Str → Option Value) (fa : Addr) (h : Heap), (K w.params).In h → h.Ns mainGlobals mg → mg d.name = some (.ref fa) →
      ∃ (fd : FuncData) (m : FF), (∀ (s : Shared) (u : Value), BindsTo s fd ⟨[u], []⟩ [(x, u)]) ∧
        (∀ base : Heap, (K w.params).In base → base.Ns mainGlobals mg → NoDig base → KFn l.prog w (K w.params) mg base k fa fd [x] m) ∧ ∀ ns : List Int, ns.length ≤ n → ∃ L', m [.d (.scr ns)] [] = .ok (.d (.bl true)) L') :
    PySem.W.WalkO q loose XP YP l.row.toRowW d [] (fun f vs => PySem.call f vs) := by
  refine Att.attach_call hn hdf fun w s₀ s₁ mg mb fa o pm cd doc a vs ns G' Y ho hd hcd hmg hobj hints hlen hg => ?_
  have KX := hY w _ Y
  obtain ⟨fd, m, hb, hF, hm⟩ := G w mg fa _ KX G'.T.g hmg
  exact vl_call KX G'.T.g G'.T.b G'.T.builtins G'.T.nolimit G'.T.nodigits hg hobj hints (Nat.le_trans hlen hn2) hr hF hb (hm ns hlen)
end VL

set_option Elab.async false
set_option linter.all false
set_option maxRecDepth 100000
set_option maxHeartbeats 4000000
namespace VL
open PySem PySem.Spec PyProof.Rows L2
open PySem.W (Frag)
/-! ### words for the printed texts -/
theorem tk_of {P : Program} {w : World} {K : Frag} {mg : Str → Option Value} {base : Heap} {N : List Str} {qual : Str} {scope : Scope} {f : Addr} {cdv : Value} {A : Around} {outer : List Env} {s : Shared} {H : Hp} {E : XK} :
    Takes (cxOf (L2.CX P w) P w K mg base N qual scope f cdv A outer s H E) (fun c d _ H' => E c d H') := takes_of rfl rfl rfl rfl
theorem bk_of {K : Frag} {x qual : Str} {st : Stmt} {f : Addr} {fd : FuncData} {ps ks : List Str} {n : Nat} {src : List Sr} (T : Fun K x qual st f fd) (hl : src.length = ps.length)
    (h : ∀ (kV doc pm : Value) (an : Option Addr) (cdv ct : Value) (us ws : List Value), us.length = n → ws.length = ks.length → ∃ zs, bindArgs (PySem.W.fnOf x qual (defArgs st) (defBody st) (defScope st) .none kV doc pm an cdv ct) ⟨us, ks.zip ws⟩ = pure (ps.zip zs) ∧ Paired (SrOk us ws) src zs) : Bk K fd ps n ks src := by
  obtain ⟨oc, od, kV, doc, pm, an, cdv, ct, osl, rfl, lk, hcd⟩ := T.ex
  refine ⟨fun s us ws _ h1 h2 => ?_, hl⟩
  obtain ⟨zs, e, p⟩ := h kV doc pm an cdv ct us ws h1 h2
  exact ⟨zs, .of_eq e, p⟩
def sBrk : SF := fun st L => .bk st L
def sCnt : SF := fun st L => .ct st L
def sRetN : SF := fun _ L => .rt (.d .non) L
def eDic0 : EF := fun _ L => .ok (.d (.dic [] [])) L
theorem ke_dic0 {X : Cx} {W : WX} {pos : Pos} : KE X W (.Dict [] [] pos) eDic0 := ke_dict0
theorem tk0 {X : Cx} : Takes X Wn := fun u s' x => by
  obtain ⟨a, B, sI, pins, σ, H, cls, d, e, I, nb, up, sky, na, os, ag, w⟩ := x
  exact w.elim
theorem bt_int : bootBuiltins "int" = some (.type "int") := by decide +kernel
theorem bt_list : bootBuiltins "list" = some (.type "list") := by decide +kernel
theorem bt_len : bootBuiltins "len" = some (.builtin "len") := by decide +kernel
theorem bt_abs : bootBuiltins "abs" = some (.builtin "abs") := by decide +kernel
theorem bt_isinstance : bootBuiltins "isinstance" = some (.builtin "isinstance") := by decide +kernel
theorem bt_repr : bootBuiltins "repr" = some (.builtin "repr") := by decide +kernel
end VL

set_option Elab.async false
set_option linter.all false
set_option maxRecDepth 100000
set_option maxHeartbeats 4000000
namespace VL
open PySem PySem.Spec PyProof.Rows L2
open PySem.W (Frag)

/-! ### plain data -/
theorem toPyL_ints : ∀ cs : List Int, toPyL (cs.map .int) = some (cs.map .int)
  | [] => rfl
  | c :: cs => by simp [toPyL, toPy, toPyL_ints cs]
theorem depth_ints : ∀ cs : List Int, PyData.depthAll (cs.map .int) = 0
  | [] => rfl
  | c :: cs => by simp [PyData.depthAll, PyData.depth, depth_ints cs]
theorem ne_nil (cs : List Int) : neB (.lst (cs.map .int)) (.lst []) = some (!cs.isEmpty) := by
  have h : eqB (.lst (cs.map .int)) (.lst []) = some cs.isEmpty := by
    unfold eqB
    simp only [toPy, toPyL_ints, Option.map_some, Option.bind_some, toPyL, PyData.depth, depth_ints]
    cases cs <;> simp [PyData.eqv, PyData.eqvAll]
  unfold neB
  rw [h]; rfl

/-! ### the pen of a law: the script, how many draws, what is left of a great number -/
def penL (cs : List Int) (spot rest : Int) : LS := [.l [.lst (cs.map .int), .int spot, .int rest]]
structure Pen (n : Nat) (L : LS) : Prop where
  ex : ∃ cs spot rest, L = penL cs spot rest ∧ 0 ≤ spot ∧ spot ≤ (n : Int) ∧ 0 ≤ rest
theorem Pen.mono {m n : Nat} {L : LS} (p : Pen m L) (h : m ≤ n) : Pen n L := let ⟨cs, s, r, e, h1, h2, h3⟩ := p.ex; ⟨cs, s, r, e, h1, by omega, h3⟩
theorem Pen.len {n : Nat} {L : LS} (p : Pen n L) : L.length = 1 := by obtain ⟨cs, s, r, rfl, _⟩ := p.ex; rfl
def drawB (a1 b1 m1 a2 b2 m2 b3 a4 b4 m3 : Int) : SF := sSeq (sIf (bCmp gtB (eBin ixD (eVar 0) (eC (.int 2))) (eC (.int 0))) (sSeq (sSet 2 (eBin modD (eFn intL (aCons (eBin ixD (eVar 0) (eC (.int 2))) aNil)) (eVar 1))) (sSeq (sSub (eVar 0) (eC (.int 2)) (eBin divD (eFn intL (aCons (eBin ixD (eVar 0) (eC (.int 2))) aNil)) (eVar 1))) (sRet (eVar 2)))) sNil)
  (sSeq (sSet 3 (eBin ixD (eVar 0) (eC (.int 1)))) (sSeq (sSub (eVar 0) (eC (.int 1)) (eBin addD (eVar 3) (eC (.int 1)))) (sSeq (sSet 4 (eBin addD (eBin mulD (eC (.int a1)) (eVar 3)) (eC (.int b1))))
  (sSeq (sIf (bCmp neB (eBin ixD (eVar 0) (eC (.int 0))) (eLst aNil)) (sSet 4 (eBin ixD (eBin ixD (eVar 0) (eC (.int 0))) (eBin modD (eFn intL (aCons (eVar 3) aNil)) (eFn lenD (aCons (eBin ixD (eVar 0) (eC (.int 0))) aNil))))) sNil)
  (sSeq (sIf (bAnd (bCmp ltB (eVar 3) (eFn lenD (aCons (eBin ixD (eVar 0) (eC (.int 0))) aNil))) (bCmp geB (eFn absD (aCons (eVar 4) aNil)) (eBin powD (eC (.int 10)) (eC (.int 18)))))
    (sSeq (sSet 5 (eBin addD (eBin mulD (eC (.int 2)) (eBin subD (eFn absD (aCons (eVar 4) aNil)) (eBin powD (eC (.int 10)) (eC (.int 18))))) (eFn intL (aCons (eCmp ltB (eVar 4) (eC (.int 0))) aNil)))) (sSeq (sSub (eVar 0) (eC (.int 2)) (eBin divD (eFn intL (aCons (eVar 5) aNil)) (eVar 1))) (sRet (eBin modD (eFn intL (aCons (eVar 5) aNil)) (eVar 1))))) sNil)
  (sSeq (sSet 6 (eBin modD (eFn intL (aCons (eBin powD (eBin addD (eBin addD (eBin modD (eFn intL (aCons (eVar 4) aNil)) (eC (.int m1))) (eBin mulD (eC (.int a2)) (eVar 3))) (eC (.int b2))) (eC (.int 5))) aNil)) (eC (.int m2))))
  (sSeq (sSet 6 (eBin modD (eFn intL (aCons (eBin powD (eBin addD (eBin addD (eBin mulD (eVar 6) (eBin addD (eBin mulD (eC (.int 2)) (eVar 3)) (eC (.int b3)))) (eBin mulD (eBin mulD (eC (.int a4)) (eVar 3)) (eVar 3))) (eC (.int b4))) (eC (.int 3))) aNil)) (eC (.int m3))))
  (sRet (eBin modD (eFn intL (aCons (eBin divD (eVar 6) (eC (.int 32))) aNil)) (eVar 1)))))))))) 
theorem ints_at (cs : List Int) {i : Int} (h0 : 0 ≤ i) (h1 : i < cs.length) : ∃ c, atI (cs.map D.int) i = some (.int c) := by
  have : i.toNat < cs.length := by omega
  exact ⟨cs[i.toNat], by simp [atI, ixN, h0, h1, this]⟩
theorem ix_0 (x y z : D) : ixD (.lst [x, y, z]) (.int 0) = some x := rfl
theorem ix_1 (x y z : D) : ixD (.lst [x, y, z]) (.int 1) = some y := rfl
theorem ix_2 (x y z : D) : ixD (.lst [x, y, z]) (.int 2) = some z := rfl
theorem add_i (i j : Int) : addD (.int i) (.int j) = some (.int (i + j)) := rfl
theorem ixD_lst (xs : List D) (i : Int) : ixD (.lst xs) (.int i) = atI xs i := rfl
/-- the constants of a draw are as they should be -/
def Cs (a1 b1 m1 a2 b2 m2 b3 a4 b4 m3 : Int) : Prop := (0 ≤ a1 ∧ a1 < 2 ^ 32) ∧ (0 ≤ b1 ∧ b1 < 2 ^ 32) ∧ (0 < m1 ∧ m1 < 2 ^ 32) ∧ (0 ≤ a2 ∧ a2 < 2 ^ 32) ∧ (0 ≤ b2 ∧ b2 < 2 ^ 32) ∧ (0 < m2 ∧ m2 < 2 ^ 32) ∧ (0 ≤ b3 ∧ b3 < 2 ^ 20) ∧ (0 ≤ a4 ∧ a4 < 2 ^ 20) ∧ (0 ≤ b4 ∧ b4 < 2 ^ 20) ∧ (0 < m3 ∧ m3 < 2 ^ 32)
theorem small_of {i : Int} (h : 0 ≤ i) (h2 : i < 2 ^ 64) : smallI i = true := by
  unfold smallI
  simp only [Bool.and_eq_true, decide_eq_true_eq]
  omega
theorem draw_ok {a1 b1 m1 a2 b2 m2 b3 a4 b4 m3 : Int} (hc : Cs a1 b1 m1 a2 b2 m2 b3 a4 b4 m3) {n : Nat} (hn : n < 2 ^ 20) {L : LS} (p : Pen n L) {many : Int} (h0 : 0 < many) (h1 : many < 2 ^ 30) :
    ∃ r L', fnF 2 7 (drawB a1 b1 m1 a2 b2 m2 b3 a4 b4 m3) [.l 0, .d (.int many)] L = .ok (.d (.int r)) L' ∧ 0 ≤ r ∧ r < many ∧ Pen (n + 1) L' := by
  obtain ⟨cs, spot, rest, rfl, hs0, hs1, hr⟩ := p.ex
  obtain ⟨ha1, hb1, hm1, ha2, hb2, hm2, hb3, ha4, hb4, hm3⟩ := hc
  have hspot : spot < 2 ^ 20 := by omega
  have h1' : many < 1073741824 := h1
  by_cases hrest : 0 < rest
  · refine ⟨rest % many, penL cs spot (rest / many), ?_, Int.emod_nonneg _ (by omega), Int.emod_lt_of_pos _ h0, ⟨cs, spot, rest / many, rfl, hs0, by omega, Int.ediv_nonneg hr (by omega)⟩⟩
    simp [Rs.bind, opt, LO.rd, rdU, fzU, eVar, eC, op2, op1, eBin, eUn, eCmp, bop2, bCmp, eChain, bChain, trU, bTru, eAnd, eOr, eNot, bAnd, bOr, bNot, eIf, rdUs, fzUs, aNil, aCons, eLst, eTup, eLstL, opn, eFn, oNone, oSome, eSl, eJoin, Rt.andThen, ofR, optS, sNil, sSeq, sDrop, sRet, sIf, sSet, sPar, tfName, tfNil, tfCons, tfTup, sAsg, sSub, outR, fnF, cPos, cBoth, Sr.get, arrU, eCall, iSeq, iRng1, iRng2, sFor, eComp, tYesF, eMake, mkF, eRest, sFld, eFnU, boolU, truG, sBrk, sCnt, sRetN, eDic0, eDic, dPairs, keyU, bD, drawB, penL, gtB, hrest, ixD, atI, ixN, modD, intL, divD, h0, h1', putAt]
  · have hr0 : rest = 0 := by omega
    subst hr0
    -- what the cell is
    have cell : ∃ c : Int, (cs = [] ∧ c = a1 * spot + b1) ∨ (cs ≠ [] ∧ atI (cs.map D.int) (spot % (cs.length : Int)) = some (.int c)) := by
      cases hcs : cs with
      | nil => exact ⟨_, .inl ⟨rfl, rfl⟩⟩
      | cons x xs =>
        have hl : (0 : Int) < ((x :: xs).length : Int) := by rw [List.length_cons]; omega
        obtain ⟨c, hc⟩ := ints_at (x :: xs) (Int.emod_nonneg spot (by omega)) (Int.emod_lt_of_pos spot hl)
        exact ⟨c, .inr ⟨by simp, hc⟩⟩
    obtain ⟨c, hcell⟩ := cell
    have sm : smallI spot = true := small_of hs0 (by omega)
    have e1 : mulD (.int a1) (.int spot) = some (.int (a1 * spot)) := by simp [mulD, sm]
    have e2 : mulD (.int a2) (.int spot) = some (.int (a2 * spot)) := by simp [mulD, sm]
    have e3 : mulD (.int 2) (.int spot) = some (.int (2 * spot)) := by simp [mulD, sm]
    have e4 : mulD (.int a4) (.int spot) = some (.int (a4 * spot)) := by simp [mulD, sm]
    have e5 : mulD (.int (a4 * spot)) (.int spot) = some (.int (a4 * spot * spot)) := by simp [mulD, sm]
    have hB1 : 0 ≤ c % m1 + a2 * spot + b2 ∧ c % m1 + a2 * spot + b2 < 2 ^ 64 := by
      have := Int.emod_nonneg c (show m1 ≠ 0 by omega)
      have := Int.emod_lt_of_pos c hm1.1
      have : 0 ≤ a2 * spot := Int.mul_nonneg ha2.1 hs0
      have : a2 * spot ≤ 2 ^ 32 * 2 ^ 20 := Int.mul_le_mul (by omega) (by omega) hs0 (by omega)
      omega
    have p1 : powD (.int (c % m1 + a2 * spot + b2)) (.int 5) = some (.int ((c % m1 + a2 * spot + b2) ^ 5)) := by
      have : (c % m1 + a2 * spot + b2).natAbs < 2 ^ 64 := by omega
      simp only [powD]
      rw [if_pos ⟨by decide, by decide, this⟩]
      rfl
    generalize hs1' : (c % m1 + a2 * spot + b2) ^ 5 % m2 = s1
    have hs1a : 0 ≤ s1 ∧ s1 < m2 := by
      subst hs1'
      exact ⟨Int.emod_nonneg _ (by omega), Int.emod_lt_of_pos _ hm2.1⟩
    have sm1 : smallI s1 = true := small_of hs1a.1 (by omega)
    have e6 : mulD (.int s1) (.int (2 * spot + b3)) = some (.int (s1 * (2 * spot + b3))) := by simp [mulD, sm1]
    have hB2 : 0 ≤ s1 * (2 * spot + b3) + a4 * spot * spot + b4 ∧ s1 * (2 * spot + b3) + a4 * spot * spot + b4 < 2 ^ 64 := by
      have : 0 ≤ s1 * (2 * spot + b3) := Int.mul_nonneg hs1a.1 (by omega)
      have : s1 * (2 * spot + b3) ≤ 2 ^ 32 * 2 ^ 22 := Int.mul_le_mul (by omega) (by omega) (by omega) (by omega)
      have h3 : 0 ≤ a4 * spot := Int.mul_nonneg ha4.1 hs0
      have h4 : a4 * spot ≤ 2 ^ 20 * 2 ^ 20 := Int.mul_le_mul (by omega) (by omega) hs0 (by omega)
      have : 0 ≤ a4 * spot * spot := Int.mul_nonneg h3 hs0
      have : a4 * spot * spot ≤ 2 ^ 40 * 2 ^ 20 := Int.mul_le_mul (by omega) (by omega) hs0 (by omega)
      omega
    have p2 : powD (.int (s1 * (2 * spot + b3) + a4 * spot * spot + b4)) (.int 3) = some (.int ((s1 * (2 * spot + b3) + a4 * spot * spot + b4) ^ 3)) := by
      have : (s1 * (2 * spot + b3) + a4 * spot * spot + b4).natAbs < 2 ^ 64 := by omega
      simp only [powD]
      rw [if_pos ⟨by decide, by decide, this⟩]
      rfl
    have p3 : powD (.int 10) (.int 18) = some (.int (10 ^ 18)) := by
      simp only [powD]
      rw [if_pos ⟨by decide, by decide, by decide⟩]
      rfl
    generalize hs2' : (s1 * (2 * spot + b3) + a4 * spot * spot + b4) ^ 3 % m3 = s2
    have hlen : ((cs.map D.int).length : Int) = (cs.length : Int) := by simp
    have nn := ne_nil cs
    by_cases hg : spot < (cs.length : Int) ∧ 10 ^ 18 ≤ (if c < 0 then -c else c)
    · -- a great number
      have hne : cs ≠ [] := by
        intro z; rw [z] at hg; simp at hg; omega
      have hat : atI (cs.map D.int) (spot % (cs.length : Int)) = some (.int c) := by
        rcases hcell with ⟨z, _⟩ | ⟨_, z⟩
        · exact absurd z hne
        · exact z
      have hce : cs.isEmpty = false := by cases cs <;> simp_all
      generalize hac : (if c < 0 then -c else c) = ac
      rw [hac] at hg
      have e7 : mulD (.int 2) (.int (ac - 1000000000000000000)) = some (.int (2 * (ac - 1000000000000000000))) := by
        have : smallI 2 = true := by decide
        simp only [mulD, this, Bool.true_or, if_true]
      have hg0 : 0 ≤ 2 * (ac - 10 ^ 18) + (if c < 0 then 1 else 0) := by split <;> omega
      refine ⟨(2 * (ac - 10 ^ 18) + (if c < 0 then 1 else 0)) % many, penL cs (spot + 1) ((2 * (ac - 10 ^ 18) + (if c < 0 then 1 else 0)) / many), ?_, Int.emod_nonneg _ (by omega), Int.emod_lt_of_pos _ h0, ⟨cs, spot + 1, _, rfl, by omega, by omega, Int.ediv_nonneg hg0 (by omega)⟩⟩
      have hl0 : (0 : Int) < (cs.length : Int) := by omega
      have hlN : 0 < cs.length := by omega
      have hg2 : (1000000000000000000 : Int) ≤ ac := by have := hg.2; omega
      have hat' : ixD (.lst (cs.map D.int)) (.int (spot % (cs.length : Int))) = some (.int c) := hat
      simp [Rs.bind, opt, LO.rd, rdU, fzU, eVar, eC, op2, op1, eBin, eUn, eCmp, bop2, bCmp, eChain, bChain, trU, bTru, eAnd, eOr, eNot, bAnd, bOr, bNot, eIf, rdUs, fzUs, aNil, aCons, eLst, eTup, eLstL, opn, eFn, oNone, oSome, eSl, eJoin, Rt.andThen, ofR, optS, sNil, sSeq, sDrop, sRet, sIf, sSet, sPar, tfName, tfNil, tfCons, tfTup, sAsg, sSub, outR, fnF, cPos, cBoth, Sr.get, arrU, eCall, iSeq, iRng1, iRng2, sFor, eComp, tYesF, eMake, mkF, eRest, sFld, eFnU, boolU, truG, sBrk, sCnt, sRetN, eDic0, eDic, dPairs, keyU, bD, drawB, penL, gtB, ltB, geB, ix_0, ix_1, ix_2, add_i, ixN, modD, intL, divD, absD, lenD, subD, h0, h1', putAt, e1, nn, hce, hl0, hlN, hat', hac, hg.1, hg2, p3, e7]
    · have hs2a : 0 ≤ s2 := by subst hs2'; exact Int.emod_nonneg _ (by omega)
      refine ⟨(s2 / 32) % many, penL cs (spot + 1) 0, ?_, Int.emod_nonneg _ (by omega), Int.emod_lt_of_pos _ h0, ⟨cs, spot + 1, 0, rfl, by omega, by omega, by omega⟩⟩
      rcases hcell with ⟨rfl, rfl⟩ | ⟨hne, hat⟩
      · have nn' : neB (.lst []) (.lst []) = some false := ne_nil []
        have hsn : ¬ spot < 0 := by omega
        simp [Rs.bind, opt, LO.rd, rdU, fzU, eVar, eC, op2, op1, eBin, eUn, eCmp, bop2, bCmp, eChain, bChain, trU, bTru, eAnd, eOr, eNot, bAnd, bOr, bNot, eIf, rdUs, fzUs, aNil, aCons, eLst, eTup, eLstL, opn, eFn, oNone, oSome, eSl, eJoin, Rt.andThen, ofR, optS, sNil, sSeq, sDrop, sRet, sIf, sSet, sPar, tfName, tfNil, tfCons, tfTup, sAsg, sSub, outR, fnF, cPos, cBoth, Sr.get, arrU, eCall, iSeq, iRng1, iRng2, sFor, eComp, tYesF, eMake, mkF, eRest, sFld, eFnU, boolU, truG, sBrk, sCnt, sRetN, eDic0, eDic, dPairs, keyU, bD, drawB, penL, gtB, ltB, geB, ix_0, ix_1, ix_2, add_i, ixN, modD, intL, divD, absD, lenD, subD, h0, h1', putAt, e1, e2, e3, e4, e5, e6, nn', hsn, hm1.1, hm2.1, hm3.1, p1, p2, hs1', hs2']
      · have hlN : 0 < cs.length := by cases cs <;> simp_all
        have hl0 : (0 : Int) < (cs.length : Int) := by omega
        have hce : cs.isEmpty = false := by cases cs <;> simp_all
        have hat' : ixD (.lst (cs.map D.int)) (.int (spot % (cs.length : Int))) = some (.int c) := hat
        by_cases hsn : spot < (cs.length : Int)
        · have hgg : ¬ (1000000000000000000 : Int) ≤ (if c < 0 then -c else c) := fun z => hg ⟨hsn, z⟩
          simp [Rs.bind, opt, LO.rd, rdU, fzU, eVar, eC, op2, op1, eBin, eUn, eCmp, bop2, bCmp, eChain, bChain, trU, bTru, eAnd, eOr, eNot, bAnd, bOr, bNot, eIf, rdUs, fzUs, aNil, aCons, eLst, eTup, eLstL, opn, eFn, oNone, oSome, eSl, eJoin, Rt.andThen, ofR, optS, sNil, sSeq, sDrop, sRet, sIf, sSet, sPar, tfName, tfNil, tfCons, tfTup, sAsg, sSub, outR, fnF, cPos, cBoth, Sr.get, arrU, eCall, iSeq, iRng1, iRng2, sFor, eComp, tYesF, eMake, mkF, eRest, sFld, eFnU, boolU, truG, sBrk, sCnt, sRetN, eDic0, eDic, dPairs, keyU, bD, drawB, penL, gtB, ltB, geB, ix_0, ix_1, ix_2, add_i, ixN, modD, intL, divD, absD, lenD, subD, h0, h1', putAt, e1, e2, e3, e4, e5, e6, nn, hce, hl0, hlN, hat', hsn, p3, hgg, hm1.1, hm2.1, hm3.1, p1, p2, hs1', hs2']
        · simp [Rs.bind, opt, LO.rd, rdU, fzU, eVar, eC, op2, op1, eBin, eUn, eCmp, bop2, bCmp, eChain, bChain, trU, bTru, eAnd, eOr, eNot, bAnd, bOr, bNot, eIf, rdUs, fzUs, aNil, aCons, eLst, eTup, eLstL, opn, eFn, oNone, oSome, eSl, eJoin, Rt.andThen, ofR, optS, sNil, sSeq, sDrop, sRet, sIf, sSet, sPar, tfName, tfNil, tfCons, tfTup, sAsg, sSub, outR, fnF, cPos, cBoth, Sr.get, arrU, eCall, iSeq, iRng1, iRng2, sFor, eComp, tYesF, eMake, mkF, eRest, sFld, eFnU, boolU, truG, sBrk, sCnt, sRetN, eDic0, eDic, dPairs, keyU, bD, drawB, penL, gtB, ltB, geB, ix_0, ix_1, ix_2, add_i, ixN, modD, intL, divD, absD, lenD, subD, h0, h1', putAt, e1, e2, e3, e4, e5, e6, nn, hce, hl0, hlN, hat', hsn, hm1.1, hm2.1, hm3.1, p1, p2, hs1', hs2']
end VL

set_option Elab.async false
set_option linter.all false
set_option maxRecDepth 100000
set_option maxHeartbeats 4000000
namespace VL
open PySem PySem.Spec PyProof.Rows L2
open PySem.W (Frag)

/-! ### loops over mirrors -/
theorem forF_inv {tf : TgF} {body : SF} (P : Nat → SS → LS → Prop) : ∀ (ds : List D) (i : Nat) (st : SS) (L : LS), P i st L →
    (∀ j st L, i ≤ j → j < i + ds.length → P j st L → ∀ d, ds[j - i]? = some d → ∃ st1 st2 L2, tf d st = some st1 ∧ (body st1 L = .nx st2 L2 ∨ body st1 L = .ct st2 L2) ∧ P (j + 1) st2 L2) →
    ∃ st' L', forF tf body ds st L = .nx st' L' ∧ P (i + ds.length) st' L'
  | [], i, st, L, p, _ => ⟨st, L, rfl, p⟩
  | d :: ds, i, st, L, p, h => by
    obtain ⟨st1, st2, L2, e1, e2, p2⟩ := h i st L (Nat.le_refl _) (by simp) p d (by simp)
    obtain ⟨st', L', e3, p3⟩ := forF_inv P ds (i + 1) st2 L2 p2 fun j st L h1 h2 pj d hd => h j st L (by omega) (by simp; omega) pj d (by
      rw [show j - i = (j - (i + 1)) + 1 by omega]; simpa using hd)
    refine ⟨st', L', ?_, by rw [List.length_cons, show i + (ds.length + 1) = i + 1 + ds.length by omega]; exact p3⟩
    rcases e2 with e2 | e2 <;> simp only [forF, e1, optS, e2, e3]

/-! ### draws and picks -/
def Dr (d : FF) : Prop := ∀ {n : Nat} {L : LS} {many : Int}, n < 2 ^ 20 → Pen n L → 0 < many → many < 2 ^ 30 → ∃ r L', d [.l 0, .d (.int many)] L = .ok (.d (.int r)) L' ∧ 0 ≤ r ∧ r < many ∧ Pen (n + 1) L'
def pickB (d : FF) : SF := sRet (eBin ixD (eVar 1) (eCall d [.p 0, .p 1] 2 0 (cPos (aCons (eVar 0) (aCons (eFn lenD (aCons (eVar 1) aNil)) aNil)))))
def Pk (p : FF) : Prop := ∀ {n : Nat} {L : LS} {xs : List D}, n < 2 ^ 20 → Pen n L → xs ≠ [] → xs.length < 2 ^ 30 → ∃ x L', p [.l 0, .d (.lst xs)] L = .ok (.d x) L' ∧ x ∈ xs ∧ Pen (n + 1) L'
theorem pick_ok {d : FF} (h : Dr d) : Pk (fnF 2 2 (pickB d)) := by
  intro n L xs hn p h0 h1
  have hl : (0 : Int) < (xs.length : Int) := by
    cases xs with
    | nil => exact absurd rfl h0
    | cons x xs => rw [List.length_cons]; omega
  obtain ⟨r, L', e, r0, r1, p'⟩ := h hn p hl (by omega)
  have hr : r.toNat < xs.length := by omega
  have hx : ixD (.lst xs) (.int r) = some xs[r.toNat] := by
    simp [ixD, atI, ixN, r0, r1, hr]
  have e1 := p.len
  have e2 := p'.len
  have ht : List.take 1 L' = L' := by rw [← e2]; exact List.take_length
  refine ⟨xs[r.toNat], L', ?_, List.getElem_mem _, p'⟩
  simp [Rs.bind, opt, LO.rd, rdU, fzU, eVar, eC, op2, op1, eBin, eUn, eCmp, bop2, bCmp, eChain, bChain, trU, bTru, eAnd, eOr, eNot, bAnd, bOr, bNot, eIf, rdUs, fzUs, aNil, aCons, eLst, eTup, eLstL, opn, eFn, oNone, oSome, eSl, eJoin, Rt.andThen, ofR, optS, sNil, sSeq, sDrop, sRet, sIf, sSet, sPar, tfName, tfNil, tfCons, tfTup, sAsg, sSub, outR, fnF, cPos, cBoth, Sr.get, arrU, eCall, iSeq, iRng1, iRng2, sFor, eComp, tYesF, eMake, mkF, eRest, sFld, eFnU, boolU, truG, sBrk, sCnt, sRetN, eDic0, eDic, dPairs, keyU, bD, pickB, lenD, e, hx, e1, ht]

/-! ### is it of a type -/
end VL

set_option Elab.async false
set_option linter.all false
set_option maxRecDepth 100000
set_option maxHeartbeats 4000000
namespace VL
open PySem PySem.Spec PyProof.Rows L2
open PySem.W (Frag)

/-! ### signs of texts -/
theorem eq_strs (x y : Str) : eqB (.str x) (.str y) = some (x == y) := by simp [eqB, toPy, PyData.depth, PyData.eqv]
theorem ne_strs (x y : Str) : neB (.str x) (.str y) = some (!(x == y)) := by unfold neB; rw [eq_strs]; rfl
end VL

set_option Elab.async false
set_option linter.all false
set_option maxRecDepth 100000
set_option maxHeartbeats 4000000
namespace VL
open PySem PySem.Spec PyProof.Rows L2
open PySem.W (Frag)
open PySem.NumText (AllDigits digitsVal)

/-! ### whole numbers written in figures -/
theorem back_map : ∀ cs : List Nat, AllDigits cs → (cs.map Char.ofNat).map Char.toNat = cs
  | [], _ => rfl
  | c :: cs, h => by
    have hc := h c (.head _)
    have ih := back_map cs fun d hd => h d (.tail _ hd)
    simp only [List.map_cons, ih]
    congr 1
    have : ∀ n : Nat, n < 58 → (Char.ofNat n).toNat = n := by decide
    exact this c (by omega)
theorem AllDigits.drop {cs : List Nat} (h : AllDigits cs) (p : Nat → Bool) : AllDigits (cs.dropWhile p) := fun c hc => h c ((List.dropWhile_suffix p).subset hc)
/-- what str writes of a number read from figures -/
theorem canon {cs : List Nat} (h : AllDigits cs) (h0 : cs ≠ []) : (Nat.toDigits 10 (digitsVal cs)).map Char.toNat = cs ↔ cs = [48] ∨ cs.head? ≠ some 48 := by
  rw [PySem.NumText.toDigits_all cs h]
  have hd := AllDigits.drop h (· == 48)
  cases e : cs.dropWhile (· == 48) with
  | nil =>
    constructor
    · intro z; exact .inl z.symm
    · intro z
      rcases z with z | z
      · rw [z]; rfl
      · cases cs with
        | nil => exact absurd rfl h0
        | cons c r =>
          rw [List.dropWhile_cons] at e
          by_cases hc : (c == 48) = true
          · exact absurd (by rw [List.head?_cons, beq_iff_eq.mp hc]) z
          · rw [if_neg hc] at e; cases e
  | cons c r =>
    have hm : ((c :: r).map Char.ofNat).map Char.toNat = c :: r := back_map _ (by rw [← e]; exact hd)
    show ((c :: r).map Char.ofNat).map Char.toNat = cs ↔ _
    rw [hm]
    have hne : c ≠ 48 := by
      intro z
      have := List.head?_dropWhile_not (p := fun x : Nat => x == 48) cs
      rw [e] at this
      simp [z] at this
    constructor
    · intro z
      rw [← z]
      exact .inr (by rw [List.head?_cons]; simp [hne])
    · intro z
      cases cs with
      | nil => exact absurd rfl h0
      | cons d s =>
        rcases z with z | z
        · rw [z] at e; simp at e
        · rw [List.head?_cons] at z
          have hd : ¬ (d == 48) = true := fun q => z (by rw [beq_iff_eq.mp q])
          rw [List.dropWhile_cons, if_neg hd] at e
          exact e.symm
end VL

set_option Elab.async false
set_option linter.all false
set_option maxRecDepth 100000
set_option maxHeartbeats 4000000
set_option exponentiation.threshold 5000
namespace VL
open PySem PySem.Spec PyProof.Rows L2
open PySem.W (Frag)
open PySem.NumText (AllDigits digitsVal)

/-! ### repr of small lists is written -/
theorem textFrom_le (m : Nat) : ∀ (ts : List Str) (k : Nat) (acc : Str), (∀ t ∈ ts, t.length ≤ m) → (textFrom k acc ts).length ≤ acc.length + ts.length * (m + 2)
  | [], k, acc, _ => by simp [textFrom]
  | t :: ts, k, acc, h => by
    have h1 := h t (.head _)
    have c2 : Str.length ", " = 2 := by decide +kernel
    have c0 : Str.length "" = 0 := by decide +kernel
    unfold textFrom
    refine Nat.le_trans (textFrom_le m ts _ _ fun t ht => h t (.tail _ ht)) ?_
    rw [List.length_cons, Nat.succ_mul]
    split <;> simp only [Str.length_append, c2, c0] <;> omega
end VL

set_option Elab.async false
set_option linter.all false
set_option maxRecDepth 100000
set_option maxHeartbeats 4000000
/-! an own error whose __init__ says super().__init__(text), then stores its fields -/
namespace VL
open PySem PySem.Spec PyProof.Rows L2
open PySem.W (Frag)

/-- the context of such an __init__ -/
def cxS (P : Program) (w : World) (K : Frag) (mg : Str → Option Value) (base : Heap) (N : List Str) (qual : Str) (scope : Scope) (f : Addr) (cd : Value) (cc : Addr) (A : Around) (outer : List Env) (s : Shared) (H : Hp) : Cx where
  prog := P
  w := w
  K := K
  mg := mg
  base := base
  A := A.deeper (PySem.W.ksEnv qual scope s.heap.objs.size f cd cc)
  N := N
  s_0 := s
  H_0 := H
  env := PySem.W.ksEnv qual scope s.heap.objs.size f cd cc
  outer := outer
  stack := PySem.W.ksEnv qual scope s.heap.objs.size f cd cc :: outer
  ex := []
  fn := fun _ => false
  calm := true
  pn := []
  xe := fun _ _ => False

/-- what is asked of the scope -/
structure SuScope (N ps : List Str) (sc : Scope) : Prop where
  kind : sc.kind = .function
  co : sc.isCoroutine = false
  gen : sc.isGenerator = false
  nd : N.Nodup
  eq : N = ps
  par : ∀ x ∈ ps, sc.names.lookup x = some .local
  nocell : ∀ y ∈ sc.names, y.2 ≠ .cell
  free : ∀ y ∈ sc.names, y.2 = .free → y.1 = "__class__"
  su : sc.names.lookup ("super" : Str) = some .globalImplicit
  cl : sc.names.lookup ("__class__" : Str) = some .free


theorem lookup_nd {β : Type} {y : Str} {u : β} : ∀ {l : List (Str × β)}, (l.map (·.1)).Nodup → (y, u) ∈ l → l.lookup y = some u
  | [], _, h => by cases h
  | (z, v) :: l, nd, h => by
    rw [List.map_cons, List.nodup_cons] at nd
    rcases List.mem_cons.mp h with e | h
    · cases e; simp [List.lookup]
    · have h0 := h
      have ne : (y == z) = false := by
        rw [beq_eq_false_iff_ne]
        intro e
        subst e
        exact nd.1 (List.mem_map.mpr ⟨(y, u), h0, rfl⟩)
      rw [List.lookup, ne]
      exact lookup_nd nd.2 h
theorem lookup_zip {ps : List Str} {us : List Value} (nd : ps.Nodup) (hl : ps.length = us.length) {i : Nat} {y : Str} {u : Value} (h1 : ps[i]? = some y) (h2 : us[i]? = some u) : (ps.zip us).reverse.lookup y = some u := by
  refine lookup_nd ?_ (List.mem_reverse.mpr ?_)
  · rw [List.map_reverse]
    refine List.pairwise_reverse.mpr (List.Pairwise.imp (R := fun a b => a ≠ b) (fun h => Ne.symm h) ?_)
    have : (ps.zip us).map (·.1) = ps := List.map_fst_zip (by omega)
    rw [this]
    exact nd
  · refine List.mem_of_getElem? (i := i) ?_
    rw [List.getElem?_zip_eq_some]
    exact ⟨h1, h2⟩
section
variable {P : Program} {w : World} {K : Frag} {mg : Str → Option Value} {base : Heap} {N ps : List Str} {qual : Str} {scope : Scope} {f cc cda C : Addr} {A : Around} {outer : List Env} {s0 s1 : Shared} {H H1 : Hp} {us : List Value} {vs : List V}
theorem inv_startS (S : SuScope N ps scope) {cd : Value} (hcc : ∃ o, base.get? cc = some o) (hcell : ∃ v, s1.heap.IsCell cc v) (hd : A.handled = none) (e0 : Env0 P w K mg base A outer s0 H) (hl : vs.length = ps.length) (r : Vals vs us) {h1 : Heap} {tk : Nat} (hs1 : s1 = { s0 with heap := h1, toks := tk })
    (hns : h1.Ns s0.heap.objs.size (fun x => (ps.zip us).reverse.lookup x)) (hk : ∀ b o, s0.heap.get? b = some o → h1.get? b = some o) :
    Inv (cxS P w K mg base N qual scope f cd cc A outer s0 H) [] (vs.map some) H s1 := by
  subst hs1
  obtain ⟨oc, hoc⟩ := hcc
  have hcs := e0.bs _ _ hoc
  have noA : ∀ b : Addr, b ∉ (cxS P w K mg base N qual scope f cd cc A outer s0 H).ex := fun b z => absurd (show b ∈ ([] : List Addr) from z) (by simp)
  have lkc : ∀ {y : Str} {c : Addr}, ([(("__class__" : Str), cc)] : List (Str × Addr)).lookup y = some c → y = "__class__" ∧ c = cc := fun {y c} h => by
    simp only [List.lookup] at h
    split at h
    · rename_i e
      exact ⟨by simpa using e, (Option.some.inj h).symm⟩
    · cases h
  refine ⟨⟨e0.mod, S.kind, rfl, rfl, Nat.le_refl _, fun y z c h1 h2 => ?_, fun y hy => ?_, fun y c h _ => ?_, fun _ => hd, Around.frames_deeper e0.frames, .inr ⟨rfl, rfl⟩, fun b z => absurd z (noA b), e0.bs, e0.bsz, fun b _ _ => noA b, fun b z => absurd z (noA b), e0.funs, e0.frf⟩,
    rfl, e0.bare, Un.kept hk, ⟨_, hns, fun i y v h1 h2 h3 => ?_⟩, fun y c h => ?_, e0.hok.fresh (Nat.le_refl _), fun y c h => ?_, fun p hp => absurd (show p ∈ ([] : List (Addr × Obj)) from hp) (by simp), e0.hok.kept hk, ?_⟩
  · exact (lkc h1).1.trans (lkc h2).1.symm
  · have hy : scope.names.lookup y = some .cell ∨ scope.names.lookup y = some .free := hy
    rcases hy with hy | hy
    · exact absurd rfl (S.nocell _ (PySem.mem_of_lookup hy))
    · have e := S.free _ (PySem.mem_of_lookup hy) rfl
      have e' : y = "__class__" := e
      subst e'
      exact ⟨cc, rfl⟩
  · cases h
  · have hi : i < vs.length := by
      by_cases hi : i < vs.length
      · exact hi
      · rw [List.getElem?_eq_none (by simpa using hi)] at h2; cases h2
    have ha : vs[i]? = some v := by
      rw [List.getElem?_map] at h2
      cases e : vs[i]? with
      | none => rw [e] at h2; cases h2
      | some a => rw [e] at h2; cases h2; rfl
    obtain ⟨u, hu, rv⟩ := r.get ha
    have hp : ps[i]? = some y := by rw [← S.eq]; exact h1
    have ndP : ps.Nodup := by rw [← S.eq]; exact S.nd
    refine ⟨u, rv, .inl ⟨S.par y (List.mem_of_getElem? hp), ?_⟩⟩
    exact lookup_zip ndP (hl.symm.trans r.length) hp hu
  · obtain ⟨_, rfl⟩ := lkc h
    exact hcell
  · obtain ⟨_, rfl⟩ := lkc h
    exact hcs.2
  · show (vs.map some).length = N.length
    rw [List.length_map, hl, S.eq]

/-- the first statement -/
abbrev stSuper (txt : Str) (j : Nat) (p0 p1 p2 p3 p4 p5 : Pos) : Stmt := .Expr (.Call (.Attribute (.Call (.Name "super" p0) [] [] p1) "__init__" p2) [.Constant (.str txt) j p3] [] p4) p5
def EvSuper (txt : Str) (j : Nat) (p0 p1 p2 p3 p4 : Pos) (pl : Sem Bool) (env : Env) : Prop :=
  eval (.Call (.Attribute (.Call (.Name "super" p0) [] [] p1) "__init__" p2) [.Constant (.str txt) j p3] [] p4) env = (do
      let ov ← attributeBase (.Call (.Name "super" p0) [] [] p1) "__init__" env (eval (.Call (.Name "super" p0) [] [] p1) env)
      standAt p2.atName
      let (f, first) ← holding [ov] (getMethod ov "__init__" pl)
      callWith p4 f first (backTo p4 (starEach [.Constant (.str txt) j p3] env)) [])
theorem super_init {txt : Str} {j : Nat} {p0 p1 p2 p3 p4 p5 : Pos} {body : List Stmt} {σ : L2.St} {s : Shared} {a : Addr} {fd : FuncData} {oc ccl cl : Value} {od cdd cld : Option Addr} {osl ccs csl : Array (Option Value)} {vf : Array Value} {file : Str} {tf : Tok} {ar : Arg}
    {Q : Flow → Shared → Prop} {E : Value → Shared → Prop}
    (S : SuScope N ps scope) (T : OexC K C) (I : Inv (cxS P w K mg base N qual scope f (.ref cda) cc A outer s0 H) [] σ H1 s) (e : H1 a = some (exo a C none))
    (hf : K.lookup f = some ⟨oc, od, .func fd, osl⟩) (hp : (fd.params.posonlyargs ++ fd.params.args).head? = some ar) (har : N[0]? = some ar.arg) (hv : σ[0]? = some (some (.ref a)))
    (hcode : K.lookup cda = some ⟨ccl, cdd, .fields vf, ccs⟩) (hvs : vf[2]? = some (.str file tf)) (hfile : ((P.main.file : Str) == file) = true)
    (hcell : K.lookup cc = some ⟨cl, cld, .cell (some (.ref C)), csl⟩) (hsub : PySem.W.mroIn K C (.ref C) = some true) (hsuper : mg "super" = none)
    (htop : (P.main.scope.names.lookup ("super" : Str)).isSome = false) (ho : PySem.W.nsIn K cStatics "thirdparty.any" = some none) (hm : PySem.W.ks_superIn K C C "__init__" = some (some (.builtin "ValueError.__init__"))) (hB : PySem.W.subIn K (.ref C) (.type "ValueError") = some true)
    (hev : ∃ pl, EvSuper txt j p0 p1 p2 p3 p4 pl (PySem.W.ksEnv qual scope s0.heap.objs.size f (.ref cda) cc))
    (hsw : swapsWith (.Call (.Attribute (.Call (.Name "super" p0) [] [] p1) "__init__" p2) [.Constant (.str txt) j p3] [] p4) none p5.line (PySem.W.ksEnv qual scope s0.heap.objs.size f (.ref cda) cc) = pure false)
    (h : ∀ s', Inv (cxS P w K mg base N qual scope f (.ref cda) cc A outer s0 H) [] σ H1 s' → Q .next s') :
    _root_.PySem.wpAt (model P w) (cxS P w K mg base N qual scope f (.ref cda) cc A outer s0 H).A (.func body (PySem.W.ksEnv qual scope s0.heap.objs.size f (.ref cda) cc)) (exec (stSuper txt j p0 p1 p2 p3 p4 p5) (PySem.W.ksEnv qual scope s0.heap.objs.size f (.ref cda) cc)) Q E s := by
  have KI : K.In s.heap := I.kIn
  obtain ⟨t1, hoe⟩ := exo_at I.hok e
  obtain ⟨nm, q, NN, bs, bm, sn, sub, ab, col, dd, k0, k1, k2, k3, k5, hC, hbm⟩ := T.cls
  have hcl : PySem.W.clsIn K C = some { name := nm, bases := bs, mro := .ref C :: bm, ns := NN, qualname := q, hasDict := true, slotNames := sn, subclasses := sub, abstract := ab, collection := col, hasDel := false } := by unfold PySem.W.clsIn; rw [hC] <;> rfl
  obtain ⟨mb, hb1, hb2⟩ := I.mod.blt
  obtain ⟨m, hn, hl⟩ := I.loc
  obtain ⟨ua, hua, lk⟩ := hl 0 ar.arg (.ref a) har hv (.inl (S.par _ (by rw [← S.eq]; exact List.mem_of_getElem? har)))
  cases (show ua = .ref a from hua)
  have hka : scope.names.lookup ar.arg = some .local := S.par _ (by rw [← S.eq]; exact List.mem_of_getElem? har)
  have hma : m ar.arg = some (.ref a) := by
    rcases lk with ⟨_, h1⟩ | ⟨h1, _⟩
    · exact h1
    · have h1 : scope.names.lookup ar.arg = some .cell ∨ scope.names.lookup ar.arg = some .free := h1
      rw [hka] at h1
      rcases h1 with h1 | h1 <;> cases h1
  have IA : PySem.W.InstAt s.heap a ({ cls := .ref C, dict := none, data := .fields #[.ref t1, .none, .none, .none, .bool false, .none] } : Obj) C none := ⟨hoe, rfl, rfl, trivial⟩
  have X := KI
  obtain ⟨pl, hev⟩ := hev
  refine ks_wpAt_Expr_any (ks_wpAt_MethodCall (pl := pl) ?_ hev) (by have := S.kind; simp [interactive, this]) hsw
  refine ks_wpAt_super_base (env := PySem.W.ksEnv qual scope s0.heap.objs.size f (.ref cda) cc) S.su S.cl rfl rfl (X _ _ hf) rfl hp rfl (X _ _ hcode) rfl hvs hfile htop ?_
  refine PySem.W.ks_loadName_global S.kind S.su (PySem.Calls.loadGlobal_builtin (env := PySem.W.ksEnv qual scope s0.heap.objs.size f (.ref cda) cc) (I.mod.glob.keeps I.bk) hsuper (hb1.keeps I.bk) ((hb2 _ (by decide +kernel)).trans PyProof.Rows.Boot.«super») ⟨rfl, ?_⟩)
  refine wpAny_loadName_free S.kind S.cl rfl ⟨_, X _ _ hcell, rfl⟩ ?_
  refine wpAny_loadName_local S.kind hka hn hma ?_
  refine ks_wpAny_isType_cls (X _ _ hC) rfl ⟨rfl, ?_⟩
  obtain ⟨hh, g, d, tk, os⟩ := s
  refine ks_wpAny_call_super (X _ _ hC) rfl hoe rfl (fun c z => by cases z) (PySem.W.looks_mroIn X hsub) (fun h' eso k => ?_)
  have I2 := Inv.more (t' := tk) I k
  have X2 : K.In h' := I2.kIn
  have hI : PySem.W.Looks (model P w) h' (isInstance (.ref a) (.type "ValueError")) true := (PySem.W.InstAt.type (od := none) ⟨k _ _ hoe, rfl, rfl, trivial⟩).andThen (PySem.W.looks_subIn X2 hB)
  have hm' : PySem.W.alongIn K "__init__" (((Value.ref C :: bm).dropWhile (· != .ref C)).drop 1) = some (some (.builtin "ValueError.__init__")) := by
    unfold PySem.W.ks_superIn at hm
    rw [hcl] at hm
    exact hm
  refine PySem.W.kxs_getMethod PySem.W.kxs_ValueError eso (PySem.W.looks_opaque X2 ho) (l₀ := Value.ref C :: bm) ?_ rfl X2 hm' hI (PySem.W.ks_ne X IA hcl) (by decide) ?_
  · exact fun A Q E s k q => wpAny_bind ((PySem.W.looks_clsIn X2 hcl) A _ E s k (wpAny_pure q))
  have k3 : ∀ b o, h'.get? b = some o → (h'.push (PySem.W.kxs_mw "ValueError.__init__" a)).get? b = some o := fun b o z => Heap.get?_push_of_some _ z
  have I3 := Inv.more (t' := tk + 1) I2 k3
  have hu : (h'.push (PySem.W.kxs_mw "ValueError.__init__" a)).get? h'.objs.size = some (PySem.W.kxs_mw "ValueError.__init__" a) := Heap.get?_push_at rfl rfl
  show wpAny _ _ (callWith p4 (.ref h'.objs.size) [] (backTo p4 (starEach [.Constant (.str txt) j p3] (PySem.W.ksEnv qual scope s0.heap.objs.size f (.ref cda) cc))) []) _ _ _
  refine PySem.W.kxs_callWith (i := "ValueError.__init__") (x := a) rfl (PySem.Calls.evalArgs_plain ?_)
  refine PySem.Calls.spliced_cons ?_
  show wpAny _ _ (eval (.Constant (.str txt) j p3) (PySem.W.ksEnv qual scope s0.heap.objs.size f (.ref cda) cc)) _ _ _
  refine PySem.Calls.Constant_str (PySem.Calls.spliced_nil ⟨hu, ?_⟩)
  have I4 := I3.tok (tk + 2)
  have hC4 := I4.kIn _ _ hC
  have he4 : (h'.push (PySem.W.kxs_mw "ValueError.__init__" a)).get? a = some ({ cls := .ref C, dict := none, data := .fields #[.ref t1, .none, .none, .none, .bool false, .none] } : Obj) := k3 _ _ (k _ _ hoe)
  refine wpAny_call (codeAny_of_tree ?_)
  show wpAny _ _ (callAny (.ref h'.objs.size) ⟨[.str txt (tk + 1)], []⟩) _ _ _
  simp only [callAny]
  refine wpAny_bind (wpAny_load hu ?_)
  simp only [PySem.W.kxs_mw, show (Value.type "method-wrapper" == Value.type "method" || Value.type "method-wrapper" == Value.type "builtin_function_or_method" || Value.type "method-wrapper" == Value.type "method-wrapper") = true by decide, if_true]
  refine PySem.W.KFB.if_so (by decide) ?_
  refine wpAny_bind (PySem.W.check_bound_init F.excBase_ValueError.toExcCallFacts hC4 he4 rfl ?_)
  refine wpAny_bind (wpAny_pure (wpAny_pure ?_))
  refine ⟨plainId_quiet F.excBase_ValueError.init.plain _, codeAny_builtin F.excBase_ValueError.initEntry ?_⟩
  refine PySem.W.exc_init_tree (cls := .ref C) (t0 := t1) (dv := none) (c2 := .none) (c3 := .none) (b4 := .bool false) he4 (by rw [sizeLine_eq]; simp) fun h5 k5 e5 _ => ?_
  have J := I4.write (t' := tk + 2) (x := a) (e := a) (o := exo a C none) (by rw [e]; exact True.intro) (.inl rfl) k5 ⟨_, e5⟩ (exo_ok e5)
  have eu : upd H1 a (exo a C none) = H1 := by
    funext b
    by_cases hb : b = a
    · rw [hb, upd_same, e]
    · rw [upd_ne hb]
  rw [eu] at J
  exact h _ J
end
end VL

set_option Elab.async false
set_option linter.all false
set_option maxRecDepth 100000
set_option maxHeartbeats 4000000
namespace VL
open PySem PySem.Spec PyProof.Rows L2
open PySem.W (Frag)
section
variable {P : Program} {w : World} {K : Frag} {mg : Str → Option Value} {base : Heap} {N ps : List Str} {name qual : Str} {scope : Scope} {f cc cda C : Addr}
/-- what the top has left of an error class: its own __init__ at f with the code at cda and the cell cc -/
structure ErrC (P : Program) (K : Frag) (mg : Str → Option Value) (C f : Addr) (name qual : Str) (st : Stmt) (fd : FuncData) : Prop where
  oex : OexC K C
  exc : ExcC K C
  ini : PySem.W.findIn K (.ref C) "__init__" = some (some (.ref f))
  tyI : PySem.W.typeIn K (.ref f) = some (.type "function")
  at_ : ∃ (oc kV doc pm ct ccl cl : Value) (od an cdd cld : Option Addr) (osl ccs csl : Array (Option Value)) (cda cc : Addr) (vf : Array Value) (file : Str) (tf : Tok), fd = PySem.W.ksFn name qual (defArgs st) (defBody st) (defScope st) .none kV doc pm an (.ref cda) ct cc ∧
    K.lookup f = some ⟨oc, od, .func fd, osl⟩ ∧ PySem.W.codeIn K (.ref cda) qual = true ∧ K.lookup cda = some ⟨ccl, cdd, .fields vf, ccs⟩ ∧ vf[2]? = some (.str file tf) ∧ ((P.main.file : Str) == file) = true ∧ K.lookup cc = some ⟨cl, cld, .cell (some (.ref C)), csl⟩
  sub : PySem.W.mroIn K C (.ref C) = some true
  su : mg "super" = none
  top : (P.main.scope.names.lookup ("super" : Str)).isSome = false
  op : PySem.W.nsIn K cStatics "thirdparty.any" = some none
  im : PySem.W.ks_superIn K C C "__init__" = some (some (.builtin "ValueError.__init__"))
  ve : PySem.W.subIn K (.ref C) (.type "ValueError") = some true
/-- what such an __init__ promises: the fields are stored -/
def spX (C : Addr) (ns : List Str) : Sp := fun vs H Q _ => ∃ a ws, vs = .ref a :: ws ∧ ws.length = ns.length ∧ H a = some (exo a C none) ∧ ∀ d, H d = none → d ≠ a → Q .non (upd (upd H d (exd d (ns.zip ws).reverse)) a (exo a C (some d)))
theorem fn_err {CX : CXT} {k : Nat} {st : Stmt} {fd : FuncData} {txt : Str} {j : Nat} {p0 p1 p2 p3 p4 p5 : Pos} {rest : List Stmt} {ar : Arg} {ns : List Str} (T : ErrC P K mg C f name qual st fd) (S : SuScope N ps (defScope st)) (hb : defBody st = stSuper txt j p0 p1 p2 p3 p4 p5 :: rest)
    (hn : ps.length = ns.length + 1) (hp : ((defArgs st).posonlyargs ++ (defArgs st).args).head? = some ar) (har : N[0]? = some ar.arg)
    (hev : ∀ (L cda cc : Addr), ∃ pl, EvSuper txt j p0 p1 p2 p3 p4 pl (PySem.W.ksEnv qual (defScope st) L f (.ref cda) cc))
    (hsw : ∀ (L cda cc : Addr), swapsWith (.Call (.Attribute (.Call (.Name "super" p0) [] [] p1) "__init__" p2) [.Constant (.str txt) j p3] [] p4) none p5.line (PySem.W.ksEnv qual (defScope st) L f (.ref cda) cc) = pure false)
    (hr : ∀ (cda cc : Addr) (A : Around) (outer : List Env) (s : Shared) (H : Hp) (a : Addr) (ws : List V) (Q : VK), ws.length = ns.length → H a = some (exo a C none) → (∀ d, H d = none → d ≠ a → Q .non (upd (upd H d (exd d (ns.zip ws).reverse)) a (exo a C (some d)))) →
      ∃ t, PSs (cxS P w K mg base N qual (defScope st) f (.ref cda) cc A outer s H) rest t ∧ t { nx := fun _ H' => Q .non H', rt := Q } ((V.ref a :: ws).map some) H) :
    FnOk P w K mg base CX (k + 1) f fd ps (spX C ns) := by
  obtain ⟨oc, kV, doc, pm, ct, ccl, cl, od, an, cdd, cld, osl, ccs, csl, cda, cc, vf, file, tf, rfl, lk, hcd, hcode, hvs, hfile, hcell⟩ := T.at_
  refine ⟨fun vs H Q E ⟨a, ws, e, hl, _⟩ => ?_, fun A outer s H args us vs Q E hrm e0 hbd r hsp => ?_⟩
  · rw [e, List.length_cons, hl, hn]
  obtain ⟨a, ws, rfl, hl, he, hq⟩ := hsp
  have KX : K.In s.heap := e0.mod.kin.keeps fun b o e => (e0.bs b o e).1
  have lim : s.heap.NoLimit := e0.mod.nolimit.keeps fun b o e => (e0.bs b o e).1
  have hbin : ∀ x ∈ ps.zip us, (defScope st).names.lookup x.1 = some .local := fun ⟨n, v⟩ hy => S.par n (List.of_mem_zip hy).1
  refine ks_codeAny_call_defAt (fd := PySem.W.ksFn name qual (defArgs st) (defBody st) (defScope st) .none kV doc pm an (.ref cda) ct cc) (body := defBody st) (binds := ps.zip us) hrm.depth (KX _ _ lk) rfl lim (PySem.W.codeRec_of KX hcd) rfl hbd S.nocell hbin (fun h1 hns hk => ?_) S.co S.gen S.kind
  have cb : ∃ o, base.get? cc = some o := ⟨_, e0.mod.kin _ _ hcell⟩
  have I : Inv (cxS P w K mg base N qual (defScope st) f (.ref cda) cc A outer s H) [] ((V.ref a :: ws).map some) H { s with heap := h1, toks := s.toks + (ps.zip us).length } :=
    inv_startS S cb ⟨_, _, hk _ _ (KX _ _ hcell), rfl⟩ hrm.hd e0 (by rw [List.length_cons, hl, hn]) r rfl hns hk
  show _root_.PySem.wpAt (model P w) _ _ (execs (defBody st) (PySem.W.ksEnv qual (defScope st) s.heap.objs.size f (.ref cda) cc)) _ _ _
  rw [hb]
  refine ks_wpAt_execs_cons ?_
  refine super_init S T.oex I he lk hp har rfl hcode hvs hfile hcell T.sub T.su T.top T.op T.im T.ve (hev _ _ _) (hsw _ _ _) fun s' J => ?_
  obtain ⟨t, ht, hq'⟩ := hr cda cc A outer s H a ws Q hl he hq
  refine wpAt_of_wpAny (wpAny_mono (ht.run [] s' _ H _ J hq') (fun fl s'' hs => ?_) fun e s' hs => hs.elim)
  have fin : ∀ {σ' : L2.St} {H' : Hp} {v : V} {u : Value}, Inv (cxS P w K mg base N qual (defScope st) f (.ref cda) cc A outer s H) [] σ' H' s'' → RelV v u → Q v H' → CE outer P w H s Q u s'' :=
    fun {σ' H' v u} J rv q => ⟨v, H', J.os, J.bare, J.base, J.hok, rv, q⟩
  cases fl with
  | ret u =>
    obtain ⟨v, σ', H', J, rv, q⟩ := hs
    exact fin J rv q
  | next =>
    obtain ⟨σ', H', J, q⟩ := hs
    exact fin (v := V.non) (u := Value.none) J rfl q
  | brk =>
    obtain ⟨_, _, _, q⟩ := hs
    exact False.elim q
  | cont =>
    obtain ⟨_, _, _, q⟩ := hs
    exact False.elim q
end
end VL

set_option Elab.async false
set_option linter.all false
set_option maxRecDepth 100000
set_option maxHeartbeats 4000000
namespace VL
open PySem PySem.Spec PyProof.Rows L2
open PySem.W (Frag)
/-! ### the fields of an error, stored -/
section
variable {X : Cx} {C : Addr} {o1 o2 x1 x2 : Expr} {f1 f2 : Str} {p1 p2 q1 q2 : Pos}
theorem rest1 (T : OexC X.K C) (n1 : NoAttr X.K C f1) (e1 : PE X o1 (tVar 0)) (v1 : PE X x1 (tVar 1)) (s1 : swapsWith x1 (some (.Attribute o1 f1 p1)) q1.line X.env = pure false := by rfl) {H : Hp} {a : Addr} {ws : List V} {Q : VK} (hl : ws.length = [f1].length) (he : H a = some (exo a C none))
    (hq : ∀ d, H d = none → d ≠ a → Q .non (upd (upd H d (exd d ([f1].zip ws).reverse)) a (exo a C (some d)))) :
    ∃ t, PSs X [.Assign [.Attribute o1 f1 p1] x1 q1] t ∧ t { nx := fun _ H' => Q .non H', rt := Q } ((V.ref a :: ws).map some) H := by
  refine ⟨_, pss_one (ps_ost e1 v1 s1), ?_⟩
  obtain ⟨w1, rfl⟩ : ∃ w1, ws = [w1] := by
    match ws, hl with
    | [w1], _ => exact ⟨w1, rfl⟩
  exact ⟨w1, rfl, .ref a, rfl, a, C, rfl, T, n1, .inl ⟨he, fun dx h1 h2 => hq dx h1 h2⟩⟩
theorem rest2 (T : OexC X.K C) (n1 : NoAttr X.K C f1) (n2 : NoAttr X.K C f2) (e1 : PE X o1 (tVar 0)) (v1 : PE X x1 (tVar 1)) (e2 : PE X o2 (tVar 0)) (v2 : PE X x2 (tVar 2)) (s1 : swapsWith x1 (some (.Attribute o1 f1 p1)) q1.line X.env = pure false := by rfl)
    (s2 : swapsWith x2 (some (.Attribute o2 f2 p2)) q2.line X.env = pure false := by rfl) {H : Hp} {a : Addr} {ws : List V} {Q : VK} (hl : ws.length = [f1, f2].length) (he : H a = some (exo a C none))
    (hq : ∀ d, H d = none → d ≠ a → Q .non (upd (upd H d (exd d ([f1, f2].zip ws).reverse)) a (exo a C (some d)))) :
    ∃ t, PSs X [.Assign [.Attribute o1 f1 p1] x1 q1, .Assign [.Attribute o2 f2 p2] x2 q2] t ∧ t { nx := fun _ H' => Q .non H', rt := Q } ((V.ref a :: ws).map some) H := by
  refine ⟨_, pss_cons (ps_ost e1 v1 s1) (pss_one (ps_ost e2 v2 s2)), ?_⟩
  obtain ⟨w1, w2, rfl⟩ : ∃ w1 w2, ws = [w1, w2] := by
    match ws, hl with
    | [w1, w2], _ => exact ⟨w1, w2, rfl⟩
  refine ⟨w1, rfl, .ref a, rfl, a, C, rfl, T, n1, .inl ⟨he, fun dx h1 h2 => ?_⟩⟩
  refine ⟨w2, rfl, .ref a, rfl, a, C, rfl, T, n2, .inr ⟨dx, [(f1, w1)], upd_same, by rw [upd_ne h2]; exact upd_same, by simp, ?_⟩⟩
  have e : upd (upd (upd H dx (exd dx [(f1, w1)])) a (exo a C (some dx))) dx (exd dx [(f2, w2), (f1, w1)]) = upd (upd H dx (exd dx ([f1, f2].zip [w1, w2]).reverse)) a (exo a C (some dx)) := by
    funext b
    by_cases hb : b = dx
    · subst hb; rw [upd_same, upd_ne h2, upd_same]; rfl
    · rw [upd_ne hb]
      by_cases ha : b = a
      · subst ha; rw [upd_same, upd_same]
      · rw [upd_ne ha, upd_ne ha, upd_ne hb, upd_ne hb]
  show Q .non _
  rw [e]
  exact hq dx h1 h2
end
/-! ### raise C(..) -/
theorem zip_fst {α β : Type} : ∀ {ns : List α} {ws : List β}, ws.length = ns.length → (ns.zip ws).map (·.1) = ns
  | [], _, _ => rfl
  | n :: ns, w :: ws, h => by simp only [List.zip_cons_cons, List.map_cons]; rw [zip_fst (by simpa using h)]
theorem zip_snd {α β : Type} : ∀ {ns : List α} {ws : List β}, ws.length = ns.length → (ns.zip ws).map (·.2) = ws
  | [], [], _ => rfl
  | n :: ns, w :: ws, h => by simp only [List.zip_cons_cons, List.map_cons]; rw [zip_snd (by simpa using h)]
theorem RepL.rev {K : Frag} {F : Addr → Prop} {H : Hp} : ∀ {ds : List D} {vs : List V}, RepL K F H ds vs → RepL K F H ds.reverse vs.reverse
  | [], _, h => by cases h; rfl
  | d :: ds, _, ⟨v, r, e, h, t⟩ => by subst e; rw [List.reverse_cons, List.reverse_cons]; exact RepL.append (RepL.rev t) (RepL.one h)
def sRaise (C : Addr) (ns : List Str) (f : AF) : SF := fun st L => ofR (f st L) st fun us L1 => optS (fzUs L1 us) fun p => if p.1.length = ns.length then .ex C ns.reverse p.1.reverse st p.2 else .no
section
variable {X : Cx} {W : WX} {e : Expr} {es : List Expr} {fa : AF}
end
end VL

set_option Elab.async false
set_option linter.all false
set_option maxRecDepth 100000
set_option maxHeartbeats 4000000
namespace VL
open PySem PySem.Spec PyProof.Rows L2
open PySem.W (Frag)
/-! ### try: body, except x as n: suite; the exception is kept as a value -/
section
variable {X : Cx} {pins : List (Addr × Obj)} {σ : L2.St} {H : Hp} {s sI : Shared}
theorem excO_ok {P : Program} {w : World} {H : Hp} {h : Heap} {a C d : Addr} {oe : Obj} {vs : Array Value} (e : h.get? a = some oe) (hz : Zc (.ref C) (some d) oe) (hd : oe.data = .fields vs) : ObjOk P w H h a (.ext (ExcO a C d)) :=
  ⟨⟨oe, vs, e, hz.1, hz.2, hd⟩, ⟨oe, e⟩, fun h1 h2 ⟨o, v, x, y⟩ k => ⟨o, v, k o x, y⟩⟩
end
section
variable {X : Cx} {x n : Str} {c : Value} {i : Nat} {body suite : List Stmt} {b₀ : Stmt} {np pos pos' : Pos} {tb : WX → TS} {ts : TS} {Wout : WX}
end
/-! ### the mirror -/
def Rt.clr (i : Nat) : Rt → Rt
  | .nx st L => .nx (st.set i none) L
  | .bk st L => .bk (st.set i none) L
  | .ct st L => .ct (st.set i none) L
  | .rt u L => .rt u L
  | _ => .no
/-- tbl: the classes that may come, and whether the clause takes them -/
def sTry (tbl : List (Addr × Bool)) (i : Nat) (body suite : SF) : SF := fun st L => match body st L with
  | .ex C ns xs st' L' => (match tbl.lookup C with
    | some true => (suite (st'.set i (some (.d (.exc C ns xs)))) L').clr i
    | some false => .ex C ns xs st' L'
    | none => .no)
  | r => r
end VL

set_option Elab.async false
set_option linter.all false
set_option maxRecDepth 100000
set_option maxHeartbeats 4000000
namespace VL
open PySem PySem.Spec PyProof.Rows L2
open PySem.W (Frag)
/-! ### operators by own defs -/
/-- an operator on two things, which may raise -/
def Op2U (X : Cx) (W : WX) (f : Value → Value → Sem Value) (g : U → U → LS → Rs U) : Prop := ∀ (pins : List (Addr × Obj)) (s : Shared) (σ : L2.St) (H : Hp) (x y : V) (v u : Value) (Q : VK) (F : Addr → Prop) (ρ : Nat → Addr) (L : LS) (ux uy : U),
  Inv X pins σ H s → Ok X.K F ρ H L → RepU X.K F ρ H L ux x → RepU X.K F ρ H L uy y → RelV x v → RelV y u → GE RepU X.K W σ F ρ H L Q (g ux uy L) → wpAny (model X.prog X.w) X.A (f v u) (EP X pins σ Q) X.xe s
def eBinU (g : U → U → LS → Rs U) (fa fb : EF) : EF := fun st L => (fa st L).bind fun x L1 => (fb st L1).bind fun y L2 => g x y L2
def bTest (r : Rs U) : Rs Bool := r.bind fun u L => match u with
  | .d (.bl b) => .ok b L
  | _ => .no
def bBinU (g : U → U → LS → Rs U) (fa fb : EF) : TF := fun st L => bTest (eBinU g fa fb st L)
section
variable {X : Cx} {W : WX} {a b o e : Expr} {fa fb : EF} {pos : Pos} {g : U → U → LS → Rs U}
theorem two_run {f : Value → Value → Sem Value} (ho : Op2U X W f g) (ha : KE X W a fa) (hb : KE X W b fb) {pins : List (Addr × Obj)} {s : Shared} {σ : L2.St} {H : Hp} {Q : VK} (I : Inv X pins σ H s) (h : RG RepU X.K W (eBinU g fa fb) σ H Q) :
    wpAny (model X.prog X.w) X.A (eval a X.env) (fun v s₁ => wpAny (model X.prog X.w) X.A (eval b X.env) (fun u s₂ => wpAny (model X.prog X.w) X.A (f v u) (EP X pins σ Q) X.xe s₂) X.xe s₁) X.xe s := by
  obtain ⟨F, ρ, L, st, o, r, h⟩ := h
  refine thn (PE.run ha pins s σ H (fun x H1 => ∃ F1 ρ1 L1 ux, Ok X.K F1 ρ1 H1 L1 ∧ RepSt X.K F1 ρ1 H1 L1 σ st ∧ RepU X.K F1 ρ1 H1 L1 ux x ∧ GE RepU X.K W σ F1 ρ1 H1 L1 Q ((fb st L1).bind fun y L2 => g ux y L2)) I (RG.one o r h fun x H1 F1 ρ1 L1 u s1 o1 r1 p1 h1 => ⟨F1, ρ1, L1, u, o1, r1, p1, h1⟩)) fun v s1 ⟨x, H1, I1, rx, F1, ρ1, L1, ux, o1, r1, p1, h1⟩ => ?_
  refine thn (PE.run hb pins s1 σ H1 (fun y H2 => ∃ F2 ρ2 L2 uy, Ok X.K F2 ρ2 H2 L2 ∧ RepU X.K F2 ρ2 H2 L2 ux x ∧ RepU X.K F2 ρ2 H2 L2 uy y ∧ GE RepU X.K W σ F2 ρ2 H2 L2 Q (g ux uy L2)) I1 (RG.one o1 r1 h1 fun y H2 F2 ρ2 L2 u s2 o2 r2 p2 h2 => ⟨F2, ρ2, L2, u, o2, p1.mono s2, p2, h2⟩)) fun u s2 ⟨y, H2, I2, ry, F2, ρ2, L2, uy, o2, p2, q2, h2⟩ => ?_
  exact ho pins s2 σ H2 x y v u Q F2 ρ2 L2 ux uy I2 o2 p2 q2 rx ry h2
theorem ke_binU {op : Operator} (ho : Op2U X W (binaryOp op) g) (ha : KE X W a fa) (hb : KE X W b fb) : KE X W (.BinOp a op b pos) (eBinU g fa fb) :=
  ⟨fun pins s σ H Q I h => wpAny_BinOp (two_run ho ha hb I h)⟩
end
/-! ### an own def of the class C under a name -/
structure KM (P : Program) (w : World) (K : Frag) (mg : Str → Option Value) (base : Heap) (k : Nat) (C : Addr) (name : Str) (n : Nat) (m : FF) : Prop where
  ex : ∃ f fd ps src m', Meth K C name f ∧ KFn P w K mg base k f fd ps m' ∧ Bk K fd ps n [] src ∧ m = fun us L => opt (arrU us [] src) fun xs => m' xs L
def own2 (C : Addr) (m : FF) (x y : U) (L : LS) : Rs U := opt (rdU L x) fun d => match d with
  | .ins C' _ _ => if C' = C then m [x, y] L else .no
  | _ => .no
section
variable {X : Cx} {W : WX} {k : Nat} {C : Addr} {m : FF}
/-! comparisons: what stands to the right is of any class that is told -/
/-! x != y by an own == -/
end
end VL

set_option Elab.async false
set_option linter.all false
set_option maxRecDepth 100000
set_option maxHeartbeats 4000000
namespace VL
open PySem PySem.Spec PyProof.Rows L2
open PySem.W (Frag)
section
variable {X : Cx} {W : WX} {k : Nat} {C : Addr} {m : FF} {a b o e : Expr} {fa fb fo : EF} {pos : Pos}
/-- x != y by an own == -/
def notU (r : Rs U) : Rs U := r.bind fun u L => match u with
  | .d (.bl b) => .ok (.d (.bl (!b))) L
  | _ => .no
/-! ### len(o), o[i], x in o by own defs -/
def own1 (C : Addr) (m : FF) (x : U) (L : LS) : Rs U := opt (rdU L x) fun d => match d with
  | .ins C' _ _ => if C' = C then m [x] L else .no
  | _ => .no
/-- an int result below 2^62 -/
def lenU (r : Rs U) : Rs U := r.bind fun u L => match u with
  | .d (.int n) => if 0 ≤ n ∧ n < 2 ^ 62 then .ok (.d (.int n)) L else .no
  | _ => .no
def ownLen (C : Addr) (m : FF) : List U → LS → Rs U
  | [x], L => own1 C (fun us L => lenU (m us L)) x L
  | _, _ => .no
/-- x in o, x not in o -/
def truU (r : Rs U) (neg : Bool) : Rs U := r.bind fun u L => match u with
  | .d (.bl b) => .ok (.d (.bl (neg != b))) L
  | _ => .no
/-! ### o.m(..) -/
/-- an own method of the class C, its values and keywords -/
structure KMk (P : Program) (w : World) (K : Frag) (mg : Str → Option Value) (base : Heap) (k : Nat) (C : Addr) (name : Str) (n : Nat) (ks : List Str) (m : List U → List U → LS → Rs U) : Prop where
  ex : ∃ f fd ps src m', Meth K C name f ∧ KFn P w K mg base k f fd ps m' ∧ Bk K fd ps (n + 1) ks src ∧ m = fun us ws L => opt (arrU us ws src) fun xs => m' xs L
def eMeth (C : Addr) (nm : Str) (m : List U → List U → LS → Rs U) (n l : Nat) (fo : EF) (fa : CF) : EF := fun st L => (fo st L).bind fun u L1 => opt (rdU L1 u) fun d => match d with
  | .ins C' ns _ => if C' = C ∧ nm ∉ ns then (fa st L1).bind fun p L2 => (if p.1.length = n ∧ p.2.length = l then m (u :: p.1) p.2 L2 else .no) else .no
  | _ => .no
end
end VL

set_option Elab.async false
set_option linter.all false
set_option maxRecDepth 100000
set_option maxHeartbeats 4000000
namespace VL
open PySem PySem.HandSPX
open PySem.W (Frag)
/-! ### C(.., k = v), C an own error -/
section
variable {prog : Program} {w : World} {M : Model} {A : Around} {E : Value → Shared → Prop} {R : Result → Shared → Prop} {h : Heap} {g : Array GenState} {d : Drawn} {t : Nat} {os : OsState}
variable {nm q : Str} {C N : Addr} {bs bm bmB : List Value} {hdct : Bool} {sn : List Str} {sub : List Value} {ab : Bool} {col : Option Bool} {dd : Option Addr} {k0 k1 k2 k3 k5 : Option Value} {B newId initId : String} {kw : List (Str × Value)}
theorem check_new_kw (F : ExcBaseFacts B newId initId bmB) (hT : ∀ X : String, bm.contains (.type X) = bmB.contains (.type X)) {rest : List Value} {Q : Unit → Shared → Prop}
    (hC : h.get? C = some (excClassObj nm q C N bs bm hdct sn sub ab col dd k0 k1 k2 k3 k5 newId)) (hq : Q () ⟨h, g, d, t, os⟩) : wpAny M A (checkBuiltinCall newId ⟨.ref C :: rest, kw⟩) Q E ⟨h, g, d, t, os⟩ := by
  have hcont : (Value.ref C :: bm).contains (.type B) = true := by rw [List.contains_cons, hT, F.hasB, Bool.or_true]
  have hstar := F.noStar
  simp only [checkBuiltinCall, F.newKind, F.newSplit, F.newRow]
  repeat (first | refine wpAny_loadPart_at hC ?_ | (refine wpAny_isSubtype_exc hC ?_; rw [hcont]) | refine wpAny_staticBase_exc hC ?_ | refine wpAny_madeBy_exc hC ?_ | simp only [bne_self_eq_false, Bool.false_eq_true, if_false] | wp_step)
  exact hq
theorem new_kw (F : ExcBaseFacts B newId initId bmB) (hT : ∀ X : String, bm.contains (.type X) = bmB.contains (.type X)) {rest : List Value}
    (hC : h.get? C = some (excClassObj nm q C N bs bm hdct sn sub ab col dd k0 k1 k2 k3 k5 newId))
    (hq : R (.ok (.ret (.ref (h.objs.size + 1)))) ⟨(h.push { cls := .type "tuple", data := .seq rest.toArray }).push
      { cls := .ref C, data := .fields #[.ref h.objs.size, .none, .none, .none, .bool false, .none] }, g, d, t, os⟩) (hrest : rest.length ≤ sizeLine) :
    codeAny (model prog w) A (.builtin newId ⟨.ref C :: rest, kw⟩) R ⟨h, g, d, t, os⟩ := by
  have hends := F.ends
  have hcB : (Value.ref C :: bm).contains (.type B) = true := by rw [List.contains_cons, hT, F.hasB, Bool.or_true]
  have hcA : (Value.ref C :: bm).contains (.type "AttributeError") = false := by rw [List.contains_cons, hT, F.noAttr]; rfl
  have hcN : (Value.ref C :: bm).contains (.type "NameError") = false := by rw [List.contains_cons, hT, F.noName]; rfl
  refine codeAny_builtinAt F.entry ?_
  unfold Builtin.«BaseException.__new__»
  refine wpAt_bind ?_
  show wpAt _ _ _ (stack >>= _) _ _ _
  refine wpAt_bind (wpAt_stack fun p below => wpAt_of_wpAny ?_)
  wp_walk
  refine wpAt_of_wpAny ?_
  rw [F.owner]
  repeat (first | with_reducible refine wpAny_madeHere_exc F.canon hC ?_ | with_reducible refine wpAny_loadPart_at hC ?_ | (with_reducible refine wpAny_isSubtype_exc hC ?_; first | rw [hcB] | rw [hcA] | rw [hcN]) | wp_step)
  show R _ _
  rw [Heap.size_push]
  exact hq
theorem type_call_kw (F : ExcBaseFacts B newId initId bmB) (hT : ∀ X : String, bm.contains (.type X) = bmB.contains (.type X)) {rest : List Value} {fI : Addr} {Q : Fin → Shared → Prop}
    (hC : h.get? C = some (excClassObj nm q C N bs bm hdct sn sub ab col dd k0 k1 k2 k3 k5 newId))
    (hi : W.Looks (model prog w) h (typeLookup (.ref C) "__init__") (some (.ref fI))) (hb : ∀ self, W.Looks (model prog w) h (bindSpecial (.ref fI) self) (.ref fI, [self])) (hrest : rest.length ≤ sizeLine)
    (hq : codeAny (model prog w) A (.call (.ref fI) ⟨.ref (h.objs.size + 1) :: rest, kw⟩)
      (fun r s' => match r with | .ok (.ret v) => v = .none ∧ Q (.done (.ret (.ref (h.objs.size + 1)))) s' | .ok _ => False | .error e => E e s')
      ⟨(h.push (W.kdv_tup rest)).push (excO C h.objs.size), g, d, t, os⟩) :
    wpAny (model prog w) A (Builtin.«type.__call__» ⟨.ref C :: rest, kw⟩) Q E ⟨h, g, d, t, os⟩ := by
  repeat (first | with_reducible refine wpAny_loadPart_at hC ?_ | with_reducible refine wpAny_madeBy_exc hC ?_ | wp_step)
  refine codeAny_call_builtin_code (Code.quiet_builtin _ F.quiet) (check_new_kw F hT hC ?_)
  refine new_kw F hT hC ?_ hrest
  show wpAny _ _ _ _ _ _
  have k : ∀ b o, h.get? b = some o → ((h.push (W.kdv_tup rest)).push (excO C h.objs.size)).get? b = some o := fun b o e => Heap.get?_push_of_some _ (Heap.get?_push_of_some _ e)
  have hC₁ := k _ _ hC
  have hget : ((h.push (W.kdv_tup rest)).push (excO C h.objs.size)).get? (h.objs.size + 1) = some (excO C h.objs.size) := by heap_get
  have hcC : (Value.ref C :: bm).contains (.ref C) = true := by simp
  have i1 := hi.keeps k
  have b1 := (hb (.ref (h.objs.size + 1))).keeps k
  unfold isInstance
  repeat (first | with_reducible refine wpAny_loadPart_at hget ?_ | (with_reducible refine wpAny_isSubtype_exc hC₁ ?_; rw [hcC]) | wp_step)
  show wpAny _ _ (typeLookup (.ref C) _) _ _ _
  refine i1.at ?_
  refine wpAny_holding (wpAny_bind (b1.at ?_))
  refine wpAny_bind (wpAny_call (codeAny_mono hq fun r s' z => ?_))
  rcases r with e | (v | _ | _ | _) <;> first | exact z | exact z.elim | skip
  obtain ⟨rfl, z⟩ := z
  first
    | exact wpAny_pure (wpAny_pure z)
    | (wp_walk; exact z)
theorem call_kw (F : ExcBaseFacts B newId initId bmB) (hT : ∀ X : String, bm.contains (.type X) = bmB.contains (.type X)) {rest : List Value} {fI : Addr}
    (hC : h.get? C = some (excClassObj nm q C N bs bm hdct sn sub ab col dd k0 k1 k2 k3 k5 newId))
    (hi : W.Looks (model prog w) h (typeLookup (.ref C) "__init__") (some (.ref fI))) (hb : ∀ self, W.Looks (model prog w) h (bindSpecial (.ref fI) self) (.ref fI, [self])) (hrest : rest.length ≤ sizeLine)
    (hq : codeAny (model prog w) (A.under (.builtin "type.__call__" ⟨.ref C :: rest, kw⟩)) (.call (.ref fI) ⟨.ref (h.objs.size + 1) :: rest, kw⟩) (W.InitBack (h.objs.size + 1) R)
      ⟨(h.push (W.kdv_tup rest)).push (excO C h.objs.size), g, d, t, os⟩) :
    codeAny (model prog w) A (.call (.ref C) ⟨rest, kw⟩) R ⟨h, g, d, t, os⟩ := by
  have f1 := tc_lookup
  have f2 := tc_bind (.ref C)
  have hTy : (⟨h, g, d, t, os⟩ : Shared).TypeIs (.ref C) "type" := ⟨_, hC, rfl⟩
  refine codeAny_of_tree ?_
  show wpAny _ _ (callAny (.ref C) _) _ _ _
  repeat (any_goals (first | assumption | with_reducible refine wpAny_loadPart_at hC ?_ | wp_step))
  refine ⟨rfl, ?_⟩
  refine codeAny_call_builtin_at (Code.quiet_builtin _ (by decide +kernel)) entry_typeCall (wpAny_check_type_call_sub hC (type_call_kw F hT hC hi hb hrest ?_))
  refine codeAny_mono hq fun r s' z => ?_
  rcases r with e | (v | _ | _ | _) <;> exact z
end
end VL

set_option Elab.async false
set_option linter.all false
set_option maxRecDepth 100000
set_option maxHeartbeats 4000000
namespace VL
open PySem PySem.Spec PyProof.Rows L2
open PySem.W (Frag)
/-- other words for what is told, of the same things -/
theorem Inv.retype {X : Cx} {pins : List (Addr × Obj)} {σ : L2.St} {H H' : Hp} {s : Shared} (I : Inv X pins σ H s) (hn : ∀ b, H b = none → H' b = none) (ht : ∀ b xs, H b = some (.tup xs) → H' b = some (.tup xs)) (hf : ∀ b o u, H b = some (.frz o u) → H' b = some (.frz o u))
    (hb : ∀ b ps, H b = some (.tbl ps) → H' b = some (.tbl ps)) (hok : HOk X.prog X.w H' s.heap) : Inv X pins σ H' s :=
  ⟨I.ok, I.os, I.bare, ⟨I.base.keep, I.base.slot, fun b o e n hx => hn b (I.base.free b o e n hx), I.base.there, fun b xs e => ht b xs (I.base.tups b xs e), fun b o u e => hf b o u (I.base.frzs b o u e), fun b ps e => let ⟨m, q⟩ := I.base.tbls b ps e; ⟨m, hb _ _ q⟩⟩,
    I.loc, I.cell, hn _ I.free, fun y c e => hn _ (I.freeC y c e), fun p hp => let ⟨e1, e2, e3⟩ := I.pin p hp; ⟨e1, hn _ e2, e3⟩, hok, I.len⟩
/-- no source is the object itself -/
def Sr.not0 : Sr → Bool
  | .p 0 => false
  | _ => true
theorem arrU_not0 {u v : U} {us ws : List U} : ∀ {src : List Sr}, src.all Sr.not0 = true → arrU (u :: us) ws src = arrU (v :: us) ws src
  | [], _ => rfl
  | s :: r, h => by
    rw [List.all_cons, Bool.and_eq_true] at h
    unfold arrU
    rw [arrU_not0 (u := u) (v := v) h.2]
    have : Sr.get (u :: us) ws s = Sr.get (v :: us) ws s := by
      cases s with
      | p i => cases i with
        | zero => exact absurd h.1 (by simp [Sr.not0])
        | succ i => rfl
      | k j => rfl
      | c d => rfl
    rw [this]
def eExc (C : Addr) (ns : List Str) (src : List Sr) (n l : Nat) (fc : CF) : EF := fun st L => (fc st L).bind fun p L1 => if p.1.length = n ∧ p.2.length = l then opt (arrU (.d .non :: p.1) p.2 src) fun xs => opt (fzUs L1 xs) fun q => (if q.1.length = ns.length then .ok (.d (.exc C ns.reverse q.1.reverse)) q.2 else .no) else .no
section
variable {X : Cx} {W : WX} {args : List Expr} {kws : List Keyword} {fc : CF}
theorem ke_exc {x : Str} {C f : Addr} {k : Nat} {fd : FuncData} {ps ns ks : List Str} {name qual : Str} {stt : Stmt} {src : List Sr} {n l : Nat} {p pos : Pos} (T : ErrC X.prog X.K X.mg C f name qual stt fd) (G : FnOk X.prog X.w X.K X.mg X.base CX0 k f fd ps (spX C ns)) (hr : Room (k + 1) X.A) (hb : Bk X.K fd ps (n + 1) ks (.p 0 :: src))
    (hm : X.mg x = some (.ref C)) (ha : KC X W args kws ks fc) (hz : n ≤ 1000) (h0 : src.all Sr.not0 = true := by rfl) (hl : ks.length = l := by rfl) (hg : Gl X x := by rfl) (hdb : (x == ("__debug__" : Str)) = false := by decide) : KE X W (.Call (.Name x p) args kws pos) (eExc C ns src n l fc) := by
  subst hl
  obtain ⟨nm, q, NN, bs, bm, sn, sub, ab, col, dd, k0, k1, k2, k3, k5, hC, hbm⟩ := T.oex.cls
  refine ⟨fun pins s σ H Q I ⟨F, ρ, L, st, o, r, h⟩ => ?_⟩
  refine wpAny_Call_Name_kw (ld_glob I hg hm ?_ hdb)
  refine ha pos (.ref C) [] pins s σ H _ T.oex.kC I (RG.one (P := PUU) o r h fun b H1 F1 ρ1 L1 a s1 o1 r1 p1 h1 s2 us ws I1 v1 v2 => ?_)
  obtain ⟨hc, h1⟩ := ge_if h1
  obtain ⟨xs, e1, h1⟩ := h1.opt
  obtain ⟨qq, e2, h1⟩ := h1.opt
  obtain ⟨hlen, h1⟩ := ge_if h1
  show wpAny _ _ (call (.ref C) us (ks.zip ws)) _ _ _
  obtain ⟨hp, g, dr, tk, os⟩ := s2
  let e : Addr := hp.objs.size + 1
  have hsz : hp.objs.size ≤ hp.objs.size + 1 := Nat.le_succ _
  have hn : H1 (hp.objs.size + 1) = none := I1.hok.fresh hsz
  have kk : ∀ b o, hp.get? b = some o → ((hp.push (PySem.W.kdv_tup us)).push (PySem.HandSPX.excO C hp.objs.size)).get? b = some o := fun b o e => Heap.get?_push_of_some _ (Heap.get?_push_of_some _ e)
  have hget : ((hp.push (PySem.W.kdv_tup us)).push (PySem.HandSPX.excO C hp.objs.size)).get? (hp.objs.size + 1) = some (PySem.HandSPX.excO C hp.objs.size) := by heap_get
  have I2 : Inv X pins σ (upd H1 (hp.objs.size + 1) (exo (hp.objs.size + 1) C none)) ⟨(hp.push (PySem.W.kdv_tup us)).push (PySem.HandSPX.excO C hp.objs.size), g, dr, tk, os⟩ :=
    I1.laid (t' := tk) (a := hp.objs.size + 1) (o := exo (hp.objs.size + 1) C none) (h' := (hp.push (PySem.W.kdv_tup us)).push (PySem.HandSPX.excO C hp.objs.size)) kk hsz (exo_ok hget)
  have hlu : us.length = n := by rw [← v1.length, p1.1.length]; exact hc.1
  have hlw : ws.length = ks.length := by rw [← v2.length, p1.2.length]; exact hc.2
  have hus : us.length ≤ sizeLine := by rw [hlu, sizeLine_eq]; omega
  obtain ⟨out, bd, pr⟩ := hb.bind _ (.ref (hp.objs.size + 1) :: us) ws I2.kIn (by rw [List.length_cons, hlu]) hlw
  obtain ⟨ys, q1, q2⟩ := arr_ok (us := .d (.obj (hp.objs.size + 1)) :: a.1) (vs := .ref (hp.objs.size + 1) :: b.1) (K := X.K) (F := F1) (ρ := ρ1) (H := H1) (L := L1) ⟨_, _, rfl, rfl, p1.1⟩ p1.2 (.cons rfl v1) v2 (xs := .d (.obj (hp.objs.size + 1)) :: xs) pr (by
    show arrU _ _ (.p 0 :: src) = _
    unfold arrU
    rw [arrU_not0 (v := .d .non) h0, e1]
    rfl)
  obtain ⟨y0, yr, rfl, hy0, q1⟩ := q1
  obtain rfl : y0 = .ref (hp.objs.size + 1) := hy0
  obtain ⟨F2, s2', o2, r2⟩ := fzUs_ok o1 q1 e2
  have hyl : yr.length = ns.length := by rw [r2.length]; exact hlen
  have hsp : spX C ns (.ref (hp.objs.size + 1) :: yr) (upd H1 (hp.objs.size + 1) (exo (hp.objs.size + 1) C none)) (fun v H2 => v = .non ∧ ∃ d, H1 d = none ∧ d ≠ hp.objs.size + 1 ∧ H2 = upd (upd (upd H1 (hp.objs.size + 1) (exo (hp.objs.size + 1) C none)) d (exd d (ns.zip yr).reverse)) (hp.objs.size + 1) (exo (hp.objs.size + 1) C (some d))) (fun _ _ _ => False) :=
    ⟨hp.objs.size + 1, yr, rfl, hyl, upd_same, fun d hd hne => ⟨rfl, d, by rw [upd_ne hne] at hd; exact hd, hne, rfl⟩⟩
  refine wpAny_call (call_kw PySem.F.excBase_ValueError (fun Y => PySem.HandSPX.refsVE_contains Y bm hbm) (I1.kIn _ _ hC) (PySem.W.looks_findIn I1.kIn T.ini) (fun self => PySem.W.bind_fn I1.kIn self T.tyI) hus
    (codeAny_mono (G.run _ X.stack _ _ ⟨Value.ref (hp.objs.size + 1) :: us, ks.zip ws⟩ out _ _ (fun _ _ _ => False) (hr.make C us (ks.zip ws)) (I2.env0.make C us (ks.zip ws)) bd q2 hsp) fun r s' hq' => ?_))
  cases r with
  | error er => exact hq'.elim
  | ok fl =>
    cases fl with
    | ret u =>
      obtain ⟨v, H2, os2, bare2, un2, hok2, rv, rfl, d, hd1, hne, rfl⟩ := hq'
      obtain ⟨h2, g2, d2, t2, os'⟩ := s'
      refine ⟨rv, ?_⟩
      have I3 : Inv X pins σ _ ⟨h2, g2, d2, t2, os'⟩ := I2.call' (ch := []) os2 un2 hok2 bare2 (fun b z => absurd z (by simp))
      have ea : (upd (upd (upd H1 (hp.objs.size + 1) (exo (hp.objs.size + 1) C none)) d (exd d (ns.zip yr).reverse)) (hp.objs.size + 1) (exo (hp.objs.size + 1) C (some d))) (hp.objs.size + 1) = some (exo (hp.objs.size + 1) C (some d)) := upd_same
      have ed : (upd (upd (upd H1 (hp.objs.size + 1) (exo (hp.objs.size + 1) C none)) d (exd d (ns.zip yr).reverse)) (hp.objs.size + 1) (exo (hp.objs.size + 1) C (some d))) d = some (exd d (ns.zip yr).reverse) := by rw [upd_ne hne]; exact upd_same
      obtain ⟨t0, hoe⟩ := exo_at hok2 ea
      obtain ⟨mA, hns, rel⟩ := exd_at hok2 ed
      have eq : ∀ b, b ≠ hp.objs.size + 1 → b ≠ d → (upd (upd (upd H1 (hp.objs.size + 1) (exo (hp.objs.size + 1) C none)) d (exd d (ns.zip yr).reverse)) (hp.objs.size + 1) (exo (hp.objs.size + 1) C (some d))) b = (upd (upd H1 d (.xd (ns.zip yr).reverse)) (hp.objs.size + 1) (.ext (ExcO (hp.objs.size + 1) C d))) b := fun b h1 h2 => by
        rw [upd_ne h1, upd_ne h1, upd_ne h2, upd_ne h2, upd_ne h1]
      have two : ∀ {b : Addr} {w : Option HO}, (upd (upd (upd H1 (hp.objs.size + 1) (exo (hp.objs.size + 1) C none)) d (exd d (ns.zip yr).reverse)) (hp.objs.size + 1) (exo (hp.objs.size + 1) C (some d))) b = w → (∀ φ, w ≠ some (.ext φ)) → (upd (upd H1 d (.xd (ns.zip yr).reverse)) (hp.objs.size + 1) (.ext (ExcO (hp.objs.size + 1) C d))) b = w := fun {b w} hb hw => by
        by_cases h1 : b = hp.objs.size + 1
        · rw [h1, ea] at hb; exact absurd hb.symm (hw _)
        · by_cases h2 : b = d
          · rw [h2, ed] at hb; exact absurd hb.symm (hw _)
          · rw [← eq b h1 h2]; exact hb
      have hokn : HOk X.prog X.w (upd (upd H1 d (.xd (ns.zip yr).reverse)) (hp.objs.size + 1) (.ext (ExcO (hp.objs.size + 1) C d))) h2 := fun b ob z => by
        by_cases h1 : b = hp.objs.size + 1
        · subst h1
          rw [upd_same] at z
          cases z
          exact excO_ok hoe ⟨rfl, rfl⟩ rfl
        · by_cases h3 : b = d
          · subst h3
            rw [upd_ne h1, upd_same] at z
            cases z
            exact ⟨mA, hns, rel⟩
          · rw [← eq b h1 h3] at z
            exact (hok2 b ob z).stay (fun _ _ _ q => q) (fun c q => two q (fun φ => by simp)) fun c xs q => two q (fun φ => by simp)
      have I4 := Inv.retype I3 (fun b z => two z (fun φ => by simp)) (fun b xs z => two z (fun φ => by simp)) (fun b o u z => two z (fun φ => by simp)) (fun b ps z => two z (fun φ => by simp)) hokn
      refine ⟨.ref (hp.objs.size + 1), _, I4, rfl, ?_⟩
      obtain ⟨s5, o5⟩ := new_ok o2 hd1 (.xd (ns.zip yr).reverse)
      have hn5 : upd H1 d (.xd (ns.zip yr).reverse) (hp.objs.size + 1) = none := by rw [upd_ne (Ne.symm hne)]; exact hn
      obtain ⟨s6, o6⟩ := new_ok o5 hn5 (.ext (ExcO (hp.objs.size + 1) C d))
      refine h1 _ _ _ _ ((s2'.trans s5).trans s6) o6 ⟨hp.objs.size + 1, d, (ns.zip yr).reverse, rfl, .inr rfl, .inl (.inr rfl), upd_same, (upd_ne hne).trans upd_same, T.exc, ?_, ?_⟩
      · rw [List.map_reverse, zip_fst hyl]
      · rw [List.map_reverse, zip_snd hyl]
        exact RepL.mono (new_k o5 hn5 _) _ (RepL.mono (new_k o2 hd1 _) _ (RepL.rev r2))
    | next => exact False.elim hq'
    | brk => exact False.elim hq'
    | cont => exact False.elim hq'
end
end VL

set_option Elab.async false
set_option linter.all false
set_option maxRecDepth 100000
set_option maxHeartbeats 4000000
namespace VL
open PySem PySem.Spec PyProof.Rows L2
open PySem.W (Frag)
theorem excO0_ok {P : Program} {w : World} {H : Hp} {h : Heap} {a : Addr} {c : Value} {oe : Obj} {vs : Array Value} (e : h.get? a = some oe) (hz : Zc c none oe) (hd : oe.data = .fields vs) : ObjOk P w H h a (.ext (ExcO0 a c)) :=
  ⟨⟨oe, vs, e, hz.1, hz.2, hd⟩, ⟨oe, e⟩, fun h1 h2 ⟨o, v, x, y⟩ k => ⟨o, v, k o x, y⟩⟩
/-- ValueError(e, ..) as a value -/
def eVE (f : AF) : EF := fun st L => (f st L).bind fun us L1 => if us.length ≤ 1000 then .ok (.d (.ex0 (.type "ValueError"))) L1 else .no
theorem bt_ValueError : bootBuiltins "ValueError" = some (.type "ValueError") := PyProof.Rows.Boot.«ValueError»
section
variable {X : Cx} {W : WX} {e : Expr} {es : List Expr} {f : AF} {p pos : Pos}
theorem ke_ve (hm : X.mg "ValueError" = none) (ha : KA X W (e :: es) f) (hg : Gl X "ValueError" := by rfl) (he : starEach (e :: es) X.env = (false, eval e X.env) :: starEach es X.env := by rfl) (hpl : (backTo pos (starEach es X.env)).any (·.1) = false := by rfl) : KE X W (.Call (.Name "ValueError" p) (e :: es) [] pos) (eVE f) := by
  refine ⟨fun pins s σ H Q I ⟨F, ρ, L, st, o, r, h⟩ => ?_⟩
  refine wpAny_Call_Name_kw (ld_blt I hg hm bt_ValueError ?_ (by decide) (by decide))
  refine PyProof.Rows.callWith_type1 (thn (PA.run ha pos pins s σ H (fun vs H1 => ∃ F1 ρ1 L1 us, Ok X.K F1 ρ1 H1 L1 ∧ RepUs X.K F1 ρ1 H1 L1 us vs ∧ GE RepU X.K W σ F1 ρ1 H1 L1 Q (if us.length ≤ 1000 then .ok (.d (.ex0 (.type "ValueError"))) L1 else .no)) I (RG.one (P := RepUs) o r h fun vs H1 F1 ρ1 L1 us s1 o1 r1 p1 h1 => ⟨F1, ρ1, L1, us, o1, p1, h1⟩)) fun us s1 ⟨vs, H1, I1, rv, F1, ρ1, L1, uu, o1, p1, h1⟩ => ?_) he hpl
  obtain ⟨hz, h1⟩ := ge_if h1
  obtain ⟨hp1, g1, d1, tk1, os1⟩ := s1
  have hl : us.length ≤ sizeLine := by rw [← rv.length, p1.length, sizeLine_eq]; omega
  refine wpAny_call_exc exb_ValueError.call (fun h' a mk => ?_) hl
  have mk := PySem.Heap.MadeExc.of mk
  obtain ⟨t, hoe, _, _⟩ := mk.there
  have na : H1 a = none := I1.hok.gone mk.new
  have I2 := Inv.laidN (t' := tk1) (o := .ext (ExcO0 a (.type "ValueError"))) I1 mk.keeps mk.new na (excO0_ok hoe ⟨rfl, rfl⟩ rfl)
  obtain ⟨s2, o2⟩ := new_ok o1 na (.ext (ExcO0 a (.type "ValueError")))
  exact ⟨.ref a, _, I2, rfl, h1 _ _ _ _ s2 o2 ⟨a, rfl, .inr rfl, upd_same, rfl⟩⟩
end
/-! an error without fields -/
def spX0 (C : Addr) : Sp := fun vs H Q _ => ∃ a, vs = [.ref a] ∧ H a = some (exo a C none) ∧ Q .non H
section
variable {P : Program} {w : World} {K : Frag} {mg : Str → Option Value} {base : Heap} {N ps : List Str} {name qual : Str} {scope : Scope} {f cc cda C : Addr}
theorem fn_err0 {CX : CXT} {k : Nat} {st : Stmt} {fd : FuncData} {txt : Str} {j : Nat} {p0 p1 p2 p3 p4 p5 : Pos} {ar : Arg} (T : ErrC P K mg C f name qual st fd) (S : SuScope N ps (defScope st)) (hb : defBody st = [stSuper txt j p0 p1 p2 p3 p4 p5])
    (hn : ps.length = 1) (hp : ((defArgs st).posonlyargs ++ (defArgs st).args).head? = some ar) (har : N[0]? = some ar.arg)
    (hev : ∀ (L cda cc : Addr), ∃ pl, EvSuper txt j p0 p1 p2 p3 p4 pl (PySem.W.ksEnv qual (defScope st) L f (.ref cda) cc))
    (hsw : ∀ (L cda cc : Addr), swapsWith (.Call (.Attribute (.Call (.Name "super" p0) [] [] p1) "__init__" p2) [.Constant (.str txt) j p3] [] p4) none p5.line (PySem.W.ksEnv qual (defScope st) L f (.ref cda) cc) = pure false) :
    FnOk P w K mg base CX (k + 1) f fd ps (spX0 C) := by
  obtain ⟨oc, kV, doc, pm, ct, ccl, cl, od, an, cdd, cld, osl, ccs, csl, cda, cc, vf, file, tf, rfl, lk, hcd, hcode, hvs, hfile, hcell⟩ := T.at_
  refine ⟨fun vs H Q E ⟨a, e, _⟩ => ?_, fun A outer s H args us vs Q E hrm e0 hbd r hsp => ?_⟩
  · rw [e, hn]; rfl
  obtain ⟨a, rfl, he, hq⟩ := hsp
  have KX : K.In s.heap := e0.mod.kin.keeps fun b o e => (e0.bs b o e).1
  have lim : s.heap.NoLimit := e0.mod.nolimit.keeps fun b o e => (e0.bs b o e).1
  have hbin : ∀ x ∈ ps.zip us, (defScope st).names.lookup x.1 = some .local := fun ⟨n, v⟩ hy => S.par n (List.of_mem_zip hy).1
  refine ks_codeAny_call_defAt (fd := PySem.W.ksFn name qual (defArgs st) (defBody st) (defScope st) .none kV doc pm an (.ref cda) ct cc) (body := defBody st) (binds := ps.zip us) hrm.depth (KX _ _ lk) rfl lim (PySem.W.codeRec_of KX hcd) rfl hbd S.nocell hbin (fun h1 hns hk => ?_) S.co S.gen S.kind
  have cb : ∃ o, base.get? cc = some o := ⟨_, e0.mod.kin _ _ hcell⟩
  have I : Inv (cxS P w K mg base N qual (defScope st) f (.ref cda) cc A outer s H) [] ([V.ref a].map some) H { s with heap := h1, toks := s.toks + (ps.zip us).length } :=
    inv_startS S cb ⟨_, _, hk _ _ (KX _ _ hcell), rfl⟩ hrm.hd e0 (by rw [hn]; rfl) r rfl hns hk
  show _root_.PySem.wpAt (model P w) _ _ (execs (defBody st) (PySem.W.ksEnv qual (defScope st) s.heap.objs.size f (.ref cda) cc)) _ _ _
  rw [hb]
  refine ks_wpAt_execs_cons ?_
  refine super_init S T.oex I he lk hp har rfl hcode hvs hfile hcell T.sub T.su T.top T.op T.im T.ve (hev _ _ _) (hsw _ _ _) fun s' J => ?_
  refine PySem.wpAt_of_wpAny (wpAny_execs_nil ?_)
  exact ⟨.non, H, J.os, J.bare, J.base, J.hok, rfl, hq⟩
end
def eExc0 (C : Addr) : EF := fun _ L => .ok (.d (.ex0 (.ref C))) L
theorem ke_exc0 {X : Cx} {W : WX} {x : Str} {C f : Addr} {k : Nat} {fd : FuncData} {ps : List Str} {name qual : Str} {stt : Stmt} {p pos : Pos} (T : ErrC X.prog X.K X.mg C f name qual stt fd) (G : FnOk X.prog X.w X.K X.mg X.base CX0 k f fd ps (spX0 C)) (hr : Room (k + 1) X.A) (hb : Binds X.K fd ps [])
    (hm : X.mg x = some (.ref C)) (hg : Gl X x := by rfl) (hdb : (x == ("__debug__" : Str)) = false := by decide) : KE X W (.Call (.Name x p) [] [] pos) (eExc0 C) := by
  obtain ⟨nm, q, NN, bs, bm, sn, sub, ab, col, dd, k0, k1, k2, k3, k5, hC, hbm⟩ := T.oex.cls
  refine ⟨fun pins s σ H Q I ⟨F, ρ, L, st, o, r, h⟩ => ?_⟩
  refine wpAny_Call_Name_kw (ld_glob I hg hm ?_ hdb)
  refine PySem.W.callWith_K0 I.kIn T.oex.kC ?_
  obtain ⟨hp, g, dr, tk, os⟩ := s
  have hsz : hp.objs.size ≤ hp.objs.size + 1 := Nat.le_succ _
  have hn : H (hp.objs.size + 1) = none := I.hok.fresh hsz
  have kk : ∀ b o, hp.get? b = some o → ((hp.push (PySem.W.kdv_tup [])).push (PySem.HandSPX.excO C hp.objs.size)).get? b = some o := fun b o e => Heap.get?_push_of_some _ (Heap.get?_push_of_some _ e)
  have hget : ((hp.push (PySem.W.kdv_tup [])).push (PySem.HandSPX.excO C hp.objs.size)).get? (hp.objs.size + 1) = some (PySem.HandSPX.excO C hp.objs.size) := by heap_get
  have I2 : Inv X pins σ (upd H (hp.objs.size + 1) (exo (hp.objs.size + 1) C none)) ⟨(hp.push (PySem.W.kdv_tup [])).push (PySem.HandSPX.excO C hp.objs.size), g, dr, tk, os⟩ :=
    I.laid (t' := tk) (a := hp.objs.size + 1) (o := exo (hp.objs.size + 1) C none) (h' := (hp.push (PySem.W.kdv_tup [])).push (PySem.HandSPX.excO C hp.objs.size)) kk hsz (exo_ok hget)
  have hsp : spX0 C [.ref (hp.objs.size + 1)] (upd H (hp.objs.size + 1) (exo (hp.objs.size + 1) C none)) (fun v H2 => v = .non ∧ H2 = upd H (hp.objs.size + 1) (exo (hp.objs.size + 1) C none)) (fun _ _ _ => False) := ⟨_, rfl, upd_same, rfl, rfl⟩
  refine wpAny_call (call_kw PySem.F.excBase_ValueError (fun Y => PySem.HandSPX.refsVE_contains Y bm hbm) (I.kIn _ _ hC) (PySem.W.looks_findIn I.kIn T.ini) (fun self => PySem.W.bind_fn I.kIn self T.tyI) (Nat.zero_le _)
    (codeAny_mono (G.run _ X.stack _ _ ⟨[Value.ref (hp.objs.size + 1)], []⟩ [Value.ref (hp.objs.size + 1)] [V.ref (hp.objs.size + 1)] _ (fun _ _ _ => False) (hr.make C [] []) (I2.env0.make C [] []) (hb _ [Value.ref (hp.objs.size + 1)] I2.kIn (G.len _ _ _ _ hsp)) (.cons rfl .nil) hsp) fun r s' hq' => ?_))
  cases r with
  | error er => exact hq'.elim
  | ok fl =>
    cases fl with
    | ret u =>
      obtain ⟨v, H2, os2, bare2, un2, hok2, rv, rfl, rfl⟩ := hq'
      obtain ⟨h2, g2, d2, t2, os'⟩ := s'
      refine ⟨rv, ?_⟩
      have I3 : Inv X pins σ _ ⟨h2, g2, d2, t2, os'⟩ := I2.call' (ch := []) os2 un2 hok2 bare2 (fun b z => absurd z (by simp))
      obtain ⟨t0, hoe⟩ := exo_at hok2 (upd_same (H := H) (a := hp.objs.size + 1))
      have two : ∀ {b : Addr} {w : Option HO}, upd H (hp.objs.size + 1) (exo (hp.objs.size + 1) C none) b = w → (∀ φ, w ≠ some (.ext φ)) → upd H (hp.objs.size + 1) (.ext (ExcO0 (hp.objs.size + 1) (.ref C))) b = w := fun {b w} hb hw => by
        by_cases h1 : b = hp.objs.size + 1
        · rw [h1, upd_same] at hb; exact absurd hb.symm (hw _)
        · rw [upd_ne h1] at hb ⊢; exact hb
      have hokn : HOk X.prog X.w (upd H (hp.objs.size + 1) (.ext (ExcO0 (hp.objs.size + 1) (.ref C)))) h2 := fun b ob z => by
        by_cases h1 : b = hp.objs.size + 1
        · subst h1
          rw [upd_same] at z
          cases z
          exact excO0_ok hoe ⟨rfl, rfl⟩ rfl
        · rw [upd_ne h1] at z
          exact (hok2 b ob (by rw [upd_ne h1]; exact z)).stay (fun _ _ _ q => q) (fun c q => two q (fun φ => by simp)) fun c xs q => two q (fun φ => by simp)
      have I4 := Inv.retype I3 (fun b z => two z (fun φ => by simp)) (fun b xs z => two z (fun φ => by simp)) (fun b o u z => two z (fun φ => by simp)) (fun b ps z => two z (fun φ => by simp)) hokn
      obtain ⟨s2, o2⟩ := new_ok o hn (.ext (ExcO0 (hp.objs.size + 1) (.ref C)))
      exact ⟨.ref (hp.objs.size + 1), _, I4, rfl, h _ _ _ _ s2 o2 ⟨_, rfl, .inr rfl, upd_same, T.exc⟩⟩
    | next => exact False.elim hq'
    | brk => exact False.elim hq'
    | cont => exact False.elim hq'
end VL

set_option Elab.async false
set_option linter.all false
set_option maxRecDepth 100000
set_option maxHeartbeats 4000000
namespace VL
open PySem PySem.Spec PyProof.Rows L2
open PySem.W (Frag)
/-! ### repr of data of any kind -/
def keyP : Key → PyData
  | .inl i => .int i
  | .inr x => .str x
mutual
def toPyR : D → Option PyData
  | .non => some .none
  | .bl b => some (.bool b)
  | .int i => some (.int i)
  | .str x => some (.str x)
  | .lst xs => (toPyRL xs).map .list
  | .tup xs => (toPyRL xs).map .tuple
  | .dic ks xs => (toPyRL xs).map fun ps => .dict ((ks.map keyP).zip ps)
  | _ => none
def toPyRL : List D → Option (List PyData)
  | [] => some []
  | d :: ds => (toPyR d).bind fun p => (toPyRL ds).map (p :: ·)
end
theorem toPyRL_length : ∀ {ds : List D} {ps : List PyData}, toPyRL ds = some ps → ps.length = ds.length
  | [], _, e => by simp only [toPyRL] at e; cases e; rfl
  | d :: ds, _, e => by
    simp only [toPyRL, Option.bind_eq_some_iff, Option.map_eq_some_iff] at e
    obtain ⟨p, _, ps, e2, rfl⟩ := e
    simp [toPyRL_length e2]
section
variable {X : Cx} {pins : List (Addr × Obj)} {σ : L2.St} {H : Hp} {s : Shared} {F : Addr → Prop}
theorem keys_read : ∀ {es : List DictEntry} {kvs : List (Key × Value)}, Pairs (mixKind X.prog X.w) es kvs → ReadsAll s.heap (es.map (·.key)) (kvs.map fun kv => keyP kv.1) [] ∧ es.map (·.val) = kvs.map (·.2)
  | _, _, .nil => ⟨.nil, rfl⟩
  | _, _, .cons (e := e) (kv := kv) h1 h2 t => by
    obtain ⟨r, q⟩ := keys_read t
    refine ⟨?_, by simp [h2, q]⟩
    rcases keyIs_shape h1 with ⟨i, tk, e1, e2⟩ | ⟨x, tk, e1, e2⟩
    · simp only [List.map_cons]
      rw [e2]
      have : keyP kv.1 = .int i := by rw [e1]; rfl
      rw [this]
      exact ReadsAll.cons (.int i tk) r
    · simp only [List.map_cons]
      rw [e2]
      have : keyP kv.1 = .str x := by rw [e1]; rfl
      rw [this]
      exact ReadsAll.cons (.str x tk) r
theorem kv_split : ∀ {kvs : List (Key × V)} {vs : List (Key × Value)}, KV kvs vs → Vals (kvs.map (·.2)) (vs.map (·.2)) ∧ kvs.map (·.1) = vs.map (·.1)
  | _, _, .nil => ⟨.nil, rfl⟩
  | _, _, .cons q t => let ih := kv_split t; ⟨.cons q.2 ih.1, by simp [q.1, ih.2]⟩
mutual
theorem reads_D (I : Inv X pins σ H s) : ∀ (d : D) {v : V} {u : Value} {p : PyData}, Rdr X.K F H d v → RelV v u → toPyR d = some p → p.showable = true → p.shown.length ≤ sizeLine → (∃ as, Reads s.heap u p as) ∧ ∃ bs, ReadAtMost s.heap p.depth bs ∧ ReprK X.prog X.w bs s.heap p.depth u p.shown
  | .non, _, _, _, h, r, e, _, _ => by cases h; cases r; simp only [toPyR] at e; cases e; exact ⟨⟨_, .none⟩, [], (fun _ h => nomatch h), by simp only [PyData.shown]; exact .of_is ReprIs.none _ _ _⟩
  | .bl b, _, _, _, h, r, e, _, _ => by cases h; cases r; simp only [toPyR] at e; cases e; exact ⟨⟨_, .bool b⟩, [], (fun _ h => nomatch h), by simp only [PyData.shown]; exact .of_is (ReprIs.bool b) _ _ _⟩
  | .int b, _, _, _, h, r, e, hs, _ => by cases h; obtain ⟨t, rfl⟩ := r; simp only [toPyR] at e; cases e; exact ⟨⟨_, .int b t⟩, [], (fun _ h => nomatch h), by simp only [PyData.shown]; exact .of_is (ReprIs.int t (by simpa [PyData.showable] using hs)) _ _ _⟩
  | .str b, _, _, _, h, r, e, _, hz => by cases h; obtain ⟨t, rfl⟩ := r; simp only [toPyR] at e; cases e; exact ⟨⟨_, .str b t⟩, [], (fun _ h => nomatch h), by simp only [PyData.shown]; exact .of_is (ReprIs.str b t (by simpa only [PyData.shown] using hz)) _ _ _⟩
  | .lst xs, _, _, _, ⟨a, vs, e1, h, r⟩, ru, e, hs, hz => by
    subst e1
    simp only [toPyR, Option.map_eq_some_iff] at e
    obtain ⟨ps, e2, rfl⟩ := e
    cases ru
    obtain ⟨its, rv, ⟨o, n, ho, hc, _, hd⟩, _⟩ := I.list (.inl (.inl h))
    have hz' : (listText (PyData.shownAll ps)).length ≤ sizeLine := by simpa only [PyData.shown] using hz
    obtain ⟨⟨as, hr⟩, bs, hb, hk⟩ := reads_DL I xs r rv e2 (by simpa [PyData.showable] using hs) (fun t ht => Nat.le_trans (listText_mem_le ht) hz')
    have rd : Reads s.heap (.ref a) (.list ps) _ := .list ho hc hd hr
    refine ⟨⟨_, rd⟩, a :: bs, ReadAtMost.cons rd (by simp only [PyData.depth]; omega) hb, ?_⟩
    have hna : a ∉ bs := not_mem_of_deeper rd (by simp only [PyData.depth]; omega) hb
    simp only [PyData.depth, PyData.shown]
    cases its with
    | nil =>
      cases hr
      simp only [PyData.shownAll, listText_nil]
      exact ReprK.listEmpty ho hc hd
    | cons x l => exact ReprK.list ho hc hd hna (by simpa using hk.length_eq) (fun i y e => hk.item i y (by simpa using e))
  | .tup xs, _, _, _, ⟨a, vs, e1, h, r⟩, ru, e, hs, hz => by
    subst e1
    simp only [toPyR, Option.map_eq_some_iff] at e
    obtain ⟨ps, e2, rfl⟩ := e
    cases ru
    obtain ⟨its, rv, ⟨o, ho, hc, n, hd⟩, _⟩ := I.tuple h
    have hz' : (tupleText (PyData.shownAll ps)).length ≤ sizeLine := by simpa only [PyData.shown] using hz
    obtain ⟨⟨as, hr⟩, bs, hb, hk⟩ := reads_DL I xs r rv e2 (by simpa [PyData.showable] using hs) (fun t ht => Nat.le_trans (tupleText_mem_le ht) hz')
    have rd : Reads s.heap (.ref a) (.tuple ps) _ := .tuple ho hc hd hr
    refine ⟨⟨_, rd⟩, a :: bs, ReadAtMost.cons rd (by simp only [PyData.depth]; omega) hb, ?_⟩
    have hna : a ∉ bs := not_mem_of_deeper rd (by simp only [PyData.depth]; omega) hb
    simp only [PyData.depth, PyData.shown]
    exact ReprK.tuple ho hc hd hna hk
  | .dic ks xs, _, _, _, ⟨a, kvs, e1, h, hk, r⟩, ru, e, hs, hz => by
    subst e1
    simp only [toPyR, Option.map_eq_some_iff] at e
    obtain ⟨ps, e2, rfl⟩ := e
    cases ru
    obtain ⟨_, hsys, vs, kv, o, es, ep, ho, hx, hd, _, hp, _⟩ := I.hok a _ h
    obtain ⟨r1, r2⟩ := keys_read (s := s) hp
    have hv := kv_split kv
    have hl : ps.length = ks.length := by
      rw [toPyRL_length e2, ← r.length, ← hk]; simp
    have k1 : ((ks.map keyP).zip ps).map (·.1) = vs.map fun kv => keyP kv.1 := by
      rw [zip_fst (by simpa using hl), ← hk, hv.2]; simp
    have k2 : ((ks.map keyP).zip ps).map (·.2) = ps := zip_snd (by simpa using hl)
    have hz' : (dictText (PyData.shownKv ((ks.map keyP).zip ps))).length ≤ sizeLine := by simpa only [PyData.shown] using hz
    obtain ⟨hs1, hs2⟩ := PyData.showableKv_split _ (by simpa [PyData.showable] using hs)
    have l1 : ∀ t ∈ PyData.shownAll (((ks.map keyP).zip ps).map (·.1)), t.length ≤ sizeLine := fun t ht => let ⟨p, hp, hl⟩ := PyData.shownKv_key_le _ t ht; Nat.le_trans hl (Nat.le_trans (dictText_mem_le hp) hz')
    have l2 : ∀ t ∈ PyData.shownAll (((ks.map keyP).zip ps).map (·.2)), t.length ≤ sizeLine := fun t ht => let ⟨p, hp, hl⟩ := PyData.shownKv_val_le _ t ht; Nat.le_trans hl (Nat.le_trans (dictText_mem_le hp) hz')
    rw [k2] at hs2 l2
    obtain ⟨⟨as, hr⟩, b2, hb2, q2⟩ := reads_DL I xs r hv.1 e2 hs2 l2
    have r1' : ReadsAll s.heap (es.toList.map (·.key)) (((ks.map keyP).zip ps).map (·.1)) [] := by rw [k1]; exact r1
    obtain ⟨b1, hb1, q1⟩ := ReprAllK.of_readsAll (prog := X.prog) (w := X.w) r1' hs1 (fun _ z => by cases z) l1
    have rd : Reads s.heap (.ref a) (.dict ((ks.map keyP).zip ps)) _ := Reads.dict ho hx.1 hd r1' (by rw [k2, r2]; exact hr)
    have d2 : PyData.depthAll ps ≤ PyData.depthKv ((ks.map keyP).zip ps) := by
      have := PyData.depthAll_vals_le ((ks.map keyP).zip ps)
      rwa [k2] at this
    have hb : ReadAtMost s.heap (PyData.depthKv ((ks.map keyP).zip ps)) (b1 ++ b2) := (hb1.mono (PyData.depthAll_keys_le _)).append (hb2.mono d2)
    have hna : a ∉ b1 ++ b2 := not_mem_of_deeper rd (by simp only [PyData.depth]; omega) hb
    refine ⟨⟨_, rd⟩, a :: (b1 ++ b2), ReadAtMost.cons rd (by simp only [PyData.depth]; omega) hb, ?_⟩
    simp only [PyData.depth, PyData.shown, PyData.shownKv_eq]
    rw [k2]
    exact ReprK.dict ho hx.1 hd hsys hna (ReprEntriesK.of_two es.toList _ _ (q1.more_le (fun b hb => List.mem_append_left _ hb) (PyData.depthAll_keys_le _)) (by rw [r2]; exact q2.more_le (fun b hb => List.mem_append_right _ hb) d2))
  | .dit _ _, _, _, _, _, _, e, _, _ => by simp [toPyR] at e
  | .ins _ _ _, _, _, _, _, _, e, _, _ => by simp [toPyR] at e
  | .exc _ _ _, _, _, _, _, _, e, _, _ => by simp [toPyR] at e
  | .ex0 _, _, _, _, _, _, e, _, _ => by simp [toPyR] at e
  | .obj _, _, _, _, _, _, e, _, _ => by simp [toPyR] at e
  | .ty _, _, _, _, _, _, e, _, _ => by simp [toPyR] at e
  | .scr _, _, _, _, _, _, e, _, _ => by simp [toPyR] at e
theorem reads_DL (I : Inv X pins σ H s) : ∀ (ds : List D) {vs : List V} {us : List Value} {ps : List PyData}, RepL X.K F H ds vs → Vals vs us → toPyRL ds = some ps → PyData.showableAll ps = true → (∀ t ∈ PyData.shownAll ps, t.length ≤ sizeLine) → (∃ as, ReadsAll s.heap us ps as) ∧ ∃ bs, ReadAtMost s.heap (PyData.depthAll ps) bs ∧ ReprAllK X.prog X.w bs s.heap (PyData.depthAll ps) us (PyData.shownAll ps)
  | [], _, _, _, h, r, e, _, _ => by cases h; cases r; simp only [toPyRL] at e; cases e; exact ⟨⟨_, .nil⟩, [], (fun _ h => nomatch h), by simp only [PyData.shownAll]; exact .nil⟩
  | d :: ds, _, _, _, ⟨v, r, e1, h, t⟩, ru, e, hs, hz => by
    subst e1
    simp only [toPyRL, Option.bind_eq_some_iff, Option.map_eq_some_iff] at e
    obtain ⟨p, e2, ps, e3, rfl⟩ := e
    have hs' : p.showable = true ∧ PyData.showableAll ps = true := by simpa [PyData.showableAll] using hs
    cases ru with
    | cons r1 r2 =>
      obtain ⟨⟨as, q1⟩, b1, hb1, k1⟩ := reads_D I d (Rep.rdr h) r1 e2 hs'.1 (hz _ (by simp only [PyData.shownAll]; exact List.mem_cons_self ..))
      obtain ⟨⟨bs, q2⟩, b2, hb2, k2⟩ := reads_DL I ds t r2 e3 hs'.2 (fun t ht => hz t (by simp only [PyData.shownAll]; exact List.mem_cons_of_mem _ ht))
      refine ⟨⟨_, .cons q1 q2⟩, b1 ++ b2, fun b hm => ?_, ?_⟩
      · simp only [PyData.depthAll]
        rcases List.mem_append.mp hm with hm | hm
        · obtain ⟨d', as', r', hd'⟩ := hb1 b hm
          exact ⟨d', as', r', Nat.le_trans hd' (Nat.le_max_left _ _)⟩
        · obtain ⟨d', as', r', hd'⟩ := hb2 b hm
          exact ⟨d', as', r', Nat.le_trans hd' (Nat.le_max_right _ _)⟩
      · simp only [PyData.depthAll, PyData.shownAll]
        exact .cons ((k1.more fun b hb => List.mem_append_left _ hb).level_le (Nat.le_max_left _ _)) (k2.more_le (fun b hb => List.mem_append_right _ hb) (Nat.le_max_right _ _))
end
/-- what shows a list, a tuple, a dict -/
theorem shows_D (I : Inv X pins σ H s) : ∀ (d : D) {v : V} {a : Addr} {p : PyData}, Rdr X.K F H d v → RelV v (.ref a) → toPyR d = some p → p.showable = true → p.shown.length ≤ sizeLine → ∃ T idr, ShowsBy X.prog X.w s.heap a p T idr
  | .non, _, _, _, h, r, _, _, _ => by cases h; cases r
  | .bl b, _, _, _, h, r, _, _, _ => by cases h; cases r
  | .int b, _, _, _, h, r, _, _, _ => by cases h; obtain ⟨t, z⟩ := r; cases z
  | .str b, _, _, _, h, r, _, _, _ => by cases h; obtain ⟨t, z⟩ := r; cases z
  | .lst xs, _, b, _, ⟨a, vs, e1, h, r⟩, ru, e, hs, hz => by
    subst e1
    have hba : b = a := by cases ru; rfl
    rw [hba]
    clear ru hba
    simp only [toPyR, Option.map_eq_some_iff] at e
    obtain ⟨ps, e2, rfl⟩ := e
    obtain ⟨its, rv, ⟨o, n, ho, hc, _, hd⟩, _⟩ := I.list (.inl (.inl h))
    have hz' : (listText (PyData.shownAll ps)).length ≤ sizeLine := by simpa only [PyData.shown] using hz
    obtain ⟨⟨as, hr⟩, bs, hb, hk⟩ := reads_DL I xs r rv e2 (by simpa [PyData.showable] using hs) (fun t ht => Nat.le_trans (listText_mem_le ht) hz')
    have hna : a ∉ bs := not_mem_of_deeper (.list ho hc hd hr) (by simp only [PyData.depth]; omega) hb
    refine ⟨"list", "list.__repr__", PySem.F.slot_list_repr.toG, PySem.F.slot_list_str, PySem.F.slot_list_format, fun s hk0 => ⟨o, hk0 _ _ ho, hc⟩, fun A E s' Q hg hu hk0 hQ => ?_⟩
    simp only [PyData.depth] at hu
    simp only [PyData.shown] at hQ
    cases its with
    | nil =>
      cases hr
      simp only [PyData.shownAll, listText_nil] at hQ
      exact call_list_repr_empty ⟨o, hk0 _ _ ho, hc⟩ (hk0 _ _ ho) hd (hQ s'.heap _ _ fun _ _ e => e)
    | cons x l => exact call_list_reprK ho hc hd hna (by simpa using hk.length_eq) (fun i y e => hk.item i y (by simpa using e)) hg (fun b _ => Clear.nil b) hu hk0 hQ hz'
  | .tup xs, _, b, _, ⟨a, vs, e1, h, r⟩, ru, e, hs, hz => by
    subst e1
    have hba : b = a := by cases ru; rfl
    rw [hba]
    clear ru hba
    simp only [toPyR, Option.map_eq_some_iff] at e
    obtain ⟨ps, e2, rfl⟩ := e
    obtain ⟨its, rv, ⟨o, ho, hc, n, hd⟩, _⟩ := I.tuple h
    have hz' : (tupleText (PyData.shownAll ps)).length ≤ sizeLine := by simpa only [PyData.shown] using hz
    obtain ⟨⟨as, hr⟩, bs, hb, hk⟩ := reads_DL I xs r rv e2 (by simpa [PyData.showable] using hs) (fun t ht => Nat.le_trans (tupleText_mem_le ht) hz')
    have hna : a ∉ bs := not_mem_of_deeper (.tuple ho hc hd hr) (by simp only [PyData.depth]; omega) hb
    refine ⟨"tuple", "tuple.__repr__", PySem.F.slot_tuple_repr, PySem.F.slot_tuple_str, PySem.F.slot_tuple_format, fun s hk0 => ⟨o, hk0 _ _ ho, hc⟩, fun A E s' Q hg hu hk0 hQ => ?_⟩
    simp only [PyData.depth] at hu
    simp only [PyData.shown] at hQ
    exact call_tuple_reprK ho hc hd hna hk hg (fun b _ => Clear.nil b) hu hk0 hQ hz'
  | .dic ks xs, _, b, _, ⟨a, kvs, e1, h, hk, r⟩, ru, e, hs, hz => by
    subst e1
    have hba : b = a := by cases ru; rfl
    rw [hba]
    clear ru hba
    simp only [toPyR, Option.map_eq_some_iff] at e
    obtain ⟨ps, e2, rfl⟩ := e
    obtain ⟨_, hsys, vs, kv, o, es, ep, ho, hx, hd, _, hp, _⟩ := I.hok a _ h
    obtain ⟨r1, r2⟩ := keys_read (s := s) hp
    have hv := kv_split kv
    have hl : ps.length = ks.length := by
      rw [toPyRL_length e2, ← r.length, ← hk]; simp
    have k1 : ((ks.map keyP).zip ps).map (·.1) = vs.map fun kv => keyP kv.1 := by
      rw [zip_fst (by simpa using hl), ← hk, hv.2]; simp
    have k2 : ((ks.map keyP).zip ps).map (·.2) = ps := zip_snd (by simpa using hl)
    have hz' : (dictText (PyData.shownKv ((ks.map keyP).zip ps))).length ≤ sizeLine := by simpa only [PyData.shown] using hz
    obtain ⟨hs1, hs2⟩ := PyData.showableKv_split _ (by simpa [PyData.showable] using hs)
    have l1 : ∀ t ∈ PyData.shownAll (((ks.map keyP).zip ps).map (·.1)), t.length ≤ sizeLine := fun t ht => let ⟨p, hp, hl⟩ := PyData.shownKv_key_le _ t ht; Nat.le_trans hl (Nat.le_trans (dictText_mem_le hp) hz')
    have l2 : ∀ t ∈ PyData.shownAll (((ks.map keyP).zip ps).map (·.2)), t.length ≤ sizeLine := fun t ht => let ⟨p, hp, hl⟩ := PyData.shownKv_val_le _ t ht; Nat.le_trans hl (Nat.le_trans (dictText_mem_le hp) hz')
    rw [k2] at hs2 l2
    obtain ⟨⟨as, hr⟩, b2, hb2, q2⟩ := reads_DL I xs r hv.1 e2 hs2 l2
    have r1' : ReadsAll s.heap (es.toList.map (·.key)) (((ks.map keyP).zip ps).map (·.1)) [] := by rw [k1]; exact r1
    obtain ⟨b1, hb1, q1⟩ := ReprAllK.of_readsAll (prog := X.prog) (w := X.w) r1' hs1 (fun _ z => by cases z) l1
    have rd : Reads s.heap (.ref a) (.dict ((ks.map keyP).zip ps)) _ := Reads.dict ho hx.1 hd r1' (by rw [k2, r2]; exact hr)
    have d2 : PyData.depthAll ps ≤ PyData.depthKv ((ks.map keyP).zip ps) := by
      have := PyData.depthAll_vals_le ((ks.map keyP).zip ps)
      rwa [k2] at this
    have hb : ReadAtMost s.heap (PyData.depthKv ((ks.map keyP).zip ps)) (b1 ++ b2) := (hb1.mono (PyData.depthAll_keys_le _)).append (hb2.mono d2)
    have hna : a ∉ b1 ++ b2 := not_mem_of_deeper rd (by simp only [PyData.depth]; omega) hb
    refine ⟨"dict", "dict.__repr__", PySem.F.slot_dict_repr, PySem.F.slot_dict_str, PySem.F.slot_dict_format, fun s hk0 => ⟨o, hk0 _ _ ho, hx.1⟩, fun A E s' Q hg hu hk0 hQ => ?_⟩
    simp only [PyData.depth] at hu
    simp only [PyData.shown, PyData.shownKv_eq, k2] at hQ
    have q2' : ReprAllK X.prog X.w (b1 ++ b2) s.heap (PyData.depthKv ((ks.map keyP).zip ps)) (es.toList.map (·.val)) (PyData.shownAll ps) := by rw [r2]; exact q2.more_le (fun b hb => List.mem_append_right _ hb) d2
    exact call_dict_reprK ho hx.1 hd hsys hna (ReprEntriesK.of_two es.toList _ _ (q1.more_le (fun b hb => List.mem_append_left _ hb) (PyData.depthAll_keys_le _)) q2') hg (fun b _ => Clear.nil b) hu hk0 hQ (by rw [PyData.shownKv_eq, k2] at hz'; exact hz')
  | .dit _ _, _, _, _, _, _, e, _, _ => by simp [toPyR] at e
  | .ins _ _ _, _, _, _, _, _, e, _, _ => by simp [toPyR] at e
  | .exc _ _ _, _, _, _, _, _, e, _, _ => by simp [toPyR] at e
  | .ex0 _, _, _, _, _, _, e, _, _ => by simp [toPyR] at e
  | .obj _, _, _, _, _, _, e, _, _ => by simp [toPyR] at e
  | .ty _, _, _, _, _, _, e, _, _ => by simp [toPyR] at e
  | .scr _, _, _, _, _, _, e, _, _ => by simp [toPyR] at e
end
def reprR : List D → Option D
  | [d] => (toPyR d).bind fun p => if p.showable ∧ p.depth ≤ 60 ∧ p.shown.length ≤ big then some (.str p.shown) else none
  | _ => none
theorem cd_reprR {X : Cx} {j : Nat} (hr : Rm j X.A) : CallR X (.builtin "repr") (rDn X.K reprR) := by
  intro pins s σ H xs us Q I rs ⟨F, ρ, L, ds, d, o, r, e, k⟩
  have hu := hr.u
  unfold reprR at e
  split at e
  · rename_i x
    obtain ⟨v, rfl, h⟩ := one_of r
    obtain ⟨p, e1, e2⟩ := Option.bind_eq_some_iff.mp e
    split at e2
    · rename_i hz
      cases e2
      obtain ⟨u, rfl, ru⟩ := vals1 rs
      have hs : p.shown.length ≤ sizeLine := by rw [big_eq]; exact hz.2.2
      obtain ⟨⟨as, R⟩, _⟩ := reads_D I x h ru e1 hz.1 hs
      have fin : ∀ {h' : Heap} {t : Tok} {tk : Nat}, (∀ b o, s.heap.get? b = some o → h'.get? b = some o) → EP X pins σ Q (.str p.shown t) { s with heap := h', toks := tk } := fun hk => ⟨.str _, H, Inv.more I hk, ⟨_, rfl⟩, k F H _ Step.refl o rfl⟩
      have byS : ∀ {a : Addr}, u = .ref a → wpAny (model X.prog X.w) X.A (call (.builtin "repr") [u]) (EP X pins σ Q) X.xe s := fun {a} eu => by
        subst eu
        obtain ⟨T, idr, S⟩ := shows_D I x h ru e1 hz.1 hs
        exact call_repr_slot (by omega) (S.typeIs s fun _ _ z => z) S.slotRepr (S.call X.A.in1 X.xe s _ hr.gd (by have := hz.2.1; show X.A.units + 1 + p.depth < cLine; omega) (fun _ _ z => z) fun h' u tk hk => ⟨_, _, rfl, fin hk⟩)
      cases R with
      | none => exact PySem.P.repr_of_none (fin fun _ _ z => z)
      | bool b => exact PySem.P.repr_of_bool (fin fun _ _ z => z)
      | int i t => exact PySem.P.repr_of_int (by simpa [PyData.showable] using hz.1) (fin fun _ _ z => z)
      | str y t => exact PySem.P.repr_of_str (fin fun _ _ z => z) hs
      | list h1 h2 h3 h4 => exact byS rfl
      | tuple h1 h2 h3 h4 => exact byS rfl
      | dict h1 h2 h3 h4 h5 => exact byS rfl
    · cases e2
  · cases e
end VL

set_option Elab.async false
set_option linter.all false
set_option maxRecDepth 100000
set_option maxHeartbeats 4000000
namespace VL
open PySem PySem.Spec PyProof.Rows L2
open PySem.W (Frag)
section
variable {X : Cx} {W : WX} {a b c e o : Expr} {fa fb fe fo : EF} {pos : Pos} {es : List Expr} {f : AF}
/-! ### lists that change: append, extend -/
def apnd (n : Nat) (vu : U) (L2 : LS) : Rs U := opt (fzU L2 vu) fun p => match p.2[n]? with
  | some (.l xs) => if xs.length < big then .ok (.d .non) (p.2.set n (.l (xs ++ [p.1]))) else .no
  | _ => .no
def eAppend (fo fe : EF) : EF := fun st L => (fo st L).bind fun ou L1 => match ou with
  | .l n => (match L1[n]? with
    | some (.l _) => (fe st L1).bind fun vu L2 => apnd n vu L2
    | _ => .no)
  | _ => .no
theorem ke_append {apos : Pos} (ho : KE X W o fo) (he : KE X W e fe) (hbase : attributeBase o "append" X.env (eval o X.env) = eval o X.env := by rfl)
    (hline : (apos.endLine == pos.line) = true := by rfl) (hs : starEach [e] X.env = (false, eval e X.env) :: starEach [] X.env := by rfl) : KE X W (.Call (.Attribute o "append" apos) [e] [] pos) (eAppend fo fe) := by
  refine pe_wk (pe_bm PySem.F.plainAttrs_list PySem.F.slot_list_append PySem.F.type_list_append mt_append ho (pa_cons he pa_nil hs) hbase (by rw [hs]; rfl) hline hs (by rfl)) fun σ H Q ⟨F, ρ, L, st, o, r, h⟩ => ?_
  refine RG.one o r h fun x H1 F1 ρ1 L1 u s1 o1 r1 p1 h1 => ?_
  cases u with
  | d y => exact h1.elim
  | l n =>
    dsimp only at h1
    split at h1
    · rename_i ys hy
      obtain ⟨hn, rfl⟩ := p1
      obtain ⟨_, vs, g1, g2⟩ := o1.at_ n _ hy
      refine ⟨.inl ⟨rfl, vs, .inl (.inl g1)⟩, RG.one o1 r1 h1 fun y H2 F2 ρ2 L2 u2 s2 o2 r2 p2 h2 => ?_⟩
      obtain ⟨⟨d, L3⟩, e3, h2⟩ := h2.opt
      obtain ⟨F3, s3, o3, q3⟩ := fzU_ok o2 p2 e3
      dsimp only at h2
      split at h2
      · rename_i zs hz
        obtain ⟨hl, h2⟩ := ge_if h2
        obtain ⟨_, ws, g3, g4⟩ := o3.at_ n _ hz
        have e1 : ρ2 n = ρ1 n := s2.same n hn
        refine ⟨ρ1 n, ws, y, rfl, rfl, by rw [← e1]; exact g3, by rw [big_eq, g4.length]; exact hl, ?_⟩
        obtain ⟨s4, o4⟩ := put_live (u := .lst (ws ++ [y])) (lo' := .l (zs ++ [d])) o3 hz rfl rfl fun kk nf => ⟨nf, _, upd_same, RepL.mono kk _ (g4.append (RepL.one q3))⟩
        rw [← e1]
        exact h2 F3 ρ2 _ .non (s3.trans s4) o4 rfl
      · exact h2.elim
    · exact h1.elim
/-! ### new lists that may still change -/
def newL (g : List D → Option (List D)) (us : List U) (L : LS) : Rs U := opt (rdUs L us) fun ds => opt (g ds) fun ys => .ok (.l L.length) (L ++ [.l ys])
/-- xs + ys, a new list that may change -/
def catL (x y : U) (L : LS) : Rs U := opt (rdU L x) fun dx => opt (rdU L y) fun dy => match dx, dy with
  | .lst xs, .lst ys => if xs.length + ys.length ≤ big then .ok (.l L.length) (L ++ [.l (xs ++ ys)]) else .no
  | _, _ => .no
theorem op_catL : Op2U X W (binaryOp .Add) catL := by
  intro pins s σ H x y v u Q F ρ L ux uy I o px py rx ry h
  obtain ⟨dx, e1, h1⟩ := h.opt
  obtain ⟨dy, e2, h2⟩ := h1.opt
  clear h h1
  split at h2
  · rename_i xs ys
    obtain ⟨hz, h2⟩ := ge_if h2
    obtain ⟨p, vs, rfl, g1, q1⟩ := (show ∃ a vs, x = .ref a ∧ H a = some (.lst vs) ∧ RepL X.K F H xs vs from rdr_of o px e1)
    obtain ⟨p2, vs2, rfl, g2, q2⟩ := (show ∃ a vs, y = .ref a ∧ H a = some (.lst vs) ∧ RepL X.K F H ys vs from rdr_of o py e2)
    refine op_cat pins s σ H _ _ v u Q I rx ry ⟨_, _, _, _, rfl, rfl, g1, g2, by rw [big_eq, q1.length, q2.length]; exact hz, fun t ht => ?_⟩
    have k : ∀ a, F a → F a ∧ upd H t (.lst (vs ++ vs2)) a = H a := fun a f => ⟨f, upd_ne fun z => o.stands a f (z ▸ ht)⟩
    obtain ⟨s3, o3⟩ := live_ok o ht (u := .lst (vs ++ vs2)) (lo := .l (xs ++ ys)) rfl ⟨nF o ht, _, upd_same, RepL.mono k _ (q1.append q2)⟩
    refine h2 _ _ _ _ s3 o3 ⟨by simp, ?_⟩
    show V.ref t = V.ref (if L.length = L.length then t else _)
    rw [if_pos rfl]
  · exact h2.elim
end
end VL

set_option Elab.async false
set_option linter.all false
set_option maxRecDepth 100000
set_option maxHeartbeats 4000000
namespace VL
open PySem PySem.Spec PyProof.Rows L2
open PySem.W (Frag)
/-! ### an error class, looked at by one word -/
def oexIn (K : Frag) (C : Addr) : Bool := match K.lookup C with
  | some ⟨.type "type", _, .cls cd, sl⟩ => (match cd.mro, sl.toList with
    | .ref C' :: bm, [_, _, _, _, some (.builtin n), _] => C' == C && (n == "ValueError.__new__" && (!cd.hasDel && (cd.hasDict && PySem.HandSPX.refsVE bm)))
    | _, _ => false)
  | _ => false
theorem oexIn_of {K : Frag} {C : Addr} (q : oexIn K C = true) : ∃ nm q N bs bm sn sub ab col dd k0 k1 k2 k3 k5, K.lookup C = some (excClassObj nm q C N bs bm true sn sub ab col dd k0 k1 k2 k3 k5 "ValueError.__new__") ∧ PySem.HandSPX.refsVE bm = true := by
  unfold oexIn at q
  split at q
  · rename_i dd cd sl ho
    split at q
    · rename_i C' bm k0 k1 k2 k3 n k5 hm hs
      simp only [Bool.and_eq_true, beq_iff_eq, Bool.not_eq_true'] at q
      obtain ⟨rfl, rfl, hdel, hdct, ht⟩ := q
      obtain ⟨nm, bs, mro, ns, qn, hd, sn, sub, ab, col, del⟩ := cd
      dsimp only at hm hdel hdct
      subst hm hdel hdct
      have hsl : sl = #[k0, k1, k2, k3, some (.builtin "ValueError.__new__"), k5] := by
        obtain ⟨l⟩ := sl
        simp only at hs
        rw [hs]
      subst hsl
      exact ⟨nm, qn, ns, bs, bm, sn, sub, ab, col, dd, k0, k1, k2, k3, k5, ho, ht⟩
    · cases q
  · cases q
def fileIn (K : Frag) (file : Str) (cda : Addr) : Bool := match K.lookup cda with
  | some ⟨_, _, .fields vf, _⟩ => (match (vf[2]? : Option Value) with
    | some (Value.str f _) => file == f
    | _ => false)
  | _ => false
def cellIn (K : Frag) (C cc : Addr) : Bool := match K.lookup cc with
  | some ⟨_, _, .cell (some (.ref D)), _⟩ => D == C
  | _ => false
def errB (K : Frag) (file qual : Str) (C f cda cc : Addr) : Bool :=
  oexIn K C && (fileIn K file cda && (cellIn K C cc && (PySem.W.codeIn K (.ref cda) qual && (PySem.W.keepIn K (.ref C) && (PySem.W.hasDictIn K C &&
  (decide (PySem.W.findIn K (.ref C) "__setattr__" = some (some (.builtin "object.__setattr__"))) && (decide (PySem.W.subIn K (.ref C) (.type "BaseException") = some true) && (decide (PySem.W.typeIn K (.ref C) = some (.type "type")) &&
  (decide (PySem.W.findIn K (.ref C) "__getattribute__" = some (some (.builtin "BaseException.__getattribute__"))) && (decide (PySem.W.findIn K (.ref C) "__getattr__" = some none) && (decide (PySem.W.findIn K (.ref C) "__class__" = some (some (.builtin "object.__class__"))) &&
  (decide (PySem.W.specialIn K (.builtin "object.__class__") "__get__" = some (some (.builtin "getset_descriptor.__get__"))) && (decide (PySem.W.takesIn K (.builtin "object.__class__") = some true) && (decide (PySem.W.mroIn K C (.type "object") = some true) &&
  (decide (PySem.W.findIn K (.ref C) "__init__" = some (some (.ref f))) && (decide (PySem.W.typeIn K (.ref f) = some (.type "function")) && (decide (PySem.W.mroIn K C (.ref C) = some true) && (decide (PySem.W.nsIn K cStatics "thirdparty.any" = some none) &&
  (decide (PySem.W.ks_superIn K C C "__init__" = some (some (.builtin "ValueError.__init__"))) && decide (PySem.W.subIn K (.ref C) (.type "ValueError") = some true))))))))))))))))))))
theorem err_of {P : Program} {K : Frag} {mg : Str → Option Value} {C f cda cc : Addr} {qual : Str} {st : Stmt} {oc kV doc pm ct : Value} {od an : Option Addr} {osl : Array (Option Value)}
    (lk : K.lookup f = some ⟨oc, od, .func (PySem.W.ksFn "__init__" qual (defArgs st) (defBody st) (defScope st) .none kV doc pm an (.ref cda) ct cc), osl⟩)
    (hb : errB K P.main.file qual C f cda cc = true) (su : mg "super" = none) (top : (P.main.scope.names.lookup ("super" : Str)).isSome = false) :
    ErrC P K mg C f "__init__" qual st (PySem.W.ksFn "__init__" qual (defArgs st) (defBody st) (defScope st) .none kV doc pm an (.ref cda) ct cc) := by
  unfold errB at hb
  simp only [Bool.and_eq_true, decide_eq_true_eq] at hb
  obtain ⟨h1, h2, h3, h4, h5, h6, h7, h8, h9, h10, h11, h12, h13, h14, h15, h16, h17, h18, h19, h20, h21⟩ := hb
  have hf : ∃ (ccl : Value) (cdd : Option Addr) (vf : Array Value) (ccs : Array (Option Value)) (file : Str) (tf : Tok), K.lookup cda = some ⟨ccl, cdd, .fields vf, ccs⟩ ∧ vf[2]? = some (.str file tf) ∧ ((P.main.file : Str) == file) = true := by
    unfold fileIn at h2
    split at h2
    · rename_i e
      split at h2
      · rename_i e2
        exact ⟨_, _, _, _, _, _, e, e2, h2⟩
      · cases h2
    · cases h2
  have hc : ∃ (cl : Value) (cld : Option Addr) (csl : Array (Option Value)), K.lookup cc = some ⟨cl, cld, .cell (some (.ref C)), csl⟩ := by
    unfold cellIn at h3
    split at h3
    · rename_i e
      rw [beq_iff_eq] at h3
      subst h3
      exact ⟨_, _, _, e⟩
    · cases h3
  obtain ⟨ccl, cdd, vf, ccs, file, tf, e1, e2, e3⟩ := hf
  obtain ⟨cl, cld, csl, e4⟩ := hc
  exact ⟨⟨oexIn_of h1, h7, h8, h9, h5⟩, ⟨h10, h11, h8, h6, h12, h13, h14, h15⟩, h16, h17, ⟨oc, kV, doc, pm, ct, ccl, cl, od, an, cdd, cld, osl, ccs, csl, cda, cc, vf, file, tf, rfl, lk, h4, e1, e2, e3, e4⟩, h18, su, top, h19, h20, h21⟩
/-- how an error's values bind -/
theorem ebk_of {P : Program} {K : Frag} {mg : Str → Option Value} {C f : Addr} {qual : Str} {st : Stmt} {fd : FuncData} {ps ks : List Str} {n : Nat} {src : List Sr} (T : ErrC P K mg C f "__init__" qual st fd) (hl : src.length = ps.length)
    (hb : ∀ kV doc pm an cdv ct cc, ∀ us ws : List Value, us.length = n → ws.length = ks.length → ∃ zs, bindArgs (PySem.W.ksFn "__init__" qual (defArgs st) (defBody st) (defScope st) .none kV doc pm an cdv ct cc) ⟨us, ks.zip ws⟩ = pure (ps.zip zs) ∧ Paired (SrOk us ws) src zs) : Bk K fd ps n ks src := by
  obtain ⟨oc, kV, doc, pm, ct, ccl, cl, od, an, cdd, cld, osl, ccs, csl, cda, cc, vf, file, tf, rfl, _⟩ := T.at_
  refine ⟨fun s us ws _ h1 h2 => ?_, hl⟩
  obtain ⟨zs, e, q⟩ := hb kV doc pm an (.ref cda) ct cc us ws h1 h2
  exact ⟨zs, BindsTo.of_eq e, q⟩
theorem ebinds_of {P : Program} {K : Frag} {mg : Str → Option Value} {C f : Addr} {qual : Str} {st : Stmt} {fd : FuncData} {ps : List Str} (T : ErrC P K mg C f "__init__" qual st fd)
    (hb : ∀ kV doc pm an cdv ct cc, ∀ us : List Value, us.length = ps.length → bindArgs (PySem.W.ksFn "__init__" qual (defArgs st) (defBody st) (defScope st) .none kV doc pm an cdv ct cc) ⟨us, []⟩ = pure (ps.zip us)) : Binds K fd ps [] := by
  obtain ⟨oc, kV, doc, pm, ct, ccl, cl, od, an, cdd, cld, osl, ccs, csl, cda, cc, vf, file, tf, rfl, _⟩ := T.at_
  exact Binds.all (fun us h => hb kV doc pm an (.ref cda) ct cc us h)
end VL

set_option Elab.async false
set_option linter.all false
set_option maxRecDepth 100000
set_option maxHeartbeats 4000000
namespace VL
open PySem PySem.Spec PyProof.Rows L2
open PySem.W (Frag)
structure Bs (base : Heap) : Prop where
  nd : NoDig base
/-! ### fields, by the classes that have no such name themselves -/
def fldT (cs : List Addr) (f : Str) : D → Option D
  | .ins C ns xs => if cs.contains C then lookF ns xs f else none
  | .exc C ns xs => if cs.contains C then lookF ns xs f else none
  | _ => none
theorem fldT_D {K : Frag} {cs : List Addr} {f : Str} (h : ∀ C ∈ cs, NoAttr K C f) {d x : D} (e : fldT cs f d = some x) : fldD K f d = some x := by
  cases d with
  | ins C ns xs =>
    simp only [fldT] at e
    split at e
    · rename_i hc
      have n : PySem.W.findIn K (.ref C) f = some none := h C (by simpa using hc)
      simp only [fldD, n]
      exact e
    · cases e
  | exc C ns xs =>
    simp only [fldT] at e
    split at e
    · rename_i hc
      have n : PySem.W.findIn K (.ref C) f = some none := h C (by simpa using hc)
      simp only [fldD, n]
      exact e
    · cases e
  | _ => cases e
section
variable {X : Cx} {W : WX} {a : Expr} {fa : EF} {pos : Pos}
theorem ke_un_wk {e : Expr} {g g' : D → Option D} (hg : ∀ d x, g d = some x → g' d = some x) (h : KE X W e (eUn g' fa)) : KE X W e (eUn g fa) := by
  refine pe_wk h fun σ H Q ⟨F, ρ, L, st, o, r, h⟩ => ⟨F, ρ, L, st, o, r, ?_⟩
  unfold eUn at h ⊢
  cases e : fa st L with
  | ok u L1 =>
    rw [e] at h
    simp only [Rs.bind] at h ⊢
    exact ge_op1' hg h
  | ex C ns xs L1 => rw [e] at h; exact h
  | no => rw [e] at h; exact h
where
  ge_op1' {K : Frag} {σ : L2.St} {F : Addr → Prop} {ρ : Nat → Addr} {H : Hp} {L L1 : LS} {Q : VK} {g g' : D → Option D} {u : U} (hg : ∀ d x, g d = some x → g' d = some x) (h : GE RepU K W σ F ρ H L Q (op1 g u L1)) : GE RepU K W σ F ρ H L Q (op1 g' u L1) := by
    unfold op1 at h ⊢
    cases e : rdU L1 u with
    | none => rw [e] at h; exact h.elim
    | some d =>
      rw [e] at h
      simp only [opt] at h ⊢
      cases e2 : g d with
      | none => rw [e2] at h; exact h.elim
      | some x =>
        rw [e2] at h
        rw [hg d x e2]
        exact h
theorem ke_fldT {cs : List Addr} {f : Str} (hc : ∀ C ∈ cs, NoAttr X.K C f) (ha : KE X W a fa) (hb : attributeBase a f X.env (eval a X.env) = eval a X.env := by rfl) : KE X W (.Attribute a f pos) (eUn (fldT cs f) fa) :=
  ke_un_wk (fun d x e => fldT_D hc e) (ke_fld ha hb)
end
/-! ### isinstance, by tables of the own classes -/
abbrev tyNames : List String := ["NoneType", "bool", "int", "str", "list", "tuple", "dict", "ValueError"]
def subB (s n : String) : Option Bool := if tyNames.contains s && tyNames.contains n then some (s == n || (s == "bool" && n == "int")) else none
theorem subB_kit : ∀ s ∈ tyNames, ∀ n ∈ tyNames, kitB s n = some (s == n || (s == "bool" && n == "int")) := by decide +kernel
structure Isi where
  rr : List ((Addr × Addr) × Bool)
  rt : List ((Addr × String) × Bool)
  es : List Addr
def isiOne (T : Isi) (t u : Value) : Option Bool := match t, u with
  | .type s, .type n => subB s n
  | .ref C, .ref E => T.rr.lookup (C, E)
  | .ref C, .type n => T.rt.lookup (C, n)
  | .type s, .ref E => if tyNames.contains s && T.es.contains E then some false else none
  | _, _ => none
def isiAny (T : Isi) (t : Value) : List D → Option Bool
  | [] => some false
  | c :: cs => (clsD c).bind fun u => (isiOne T t u).bind fun b => if b then some true else isiAny T t cs
/-- isinstance(x, one class or a tuple of classes) -/
def isiT (T : Isi) : List D → Option D
  | [x, .tup cs] => (tyD x).bind fun t => (isiAny T t cs).map .bl
  | [x, c] => (tyD x).bind fun t => (clsD c).bind fun u => (isiOne T t u).map .bl
  | _ => none
def isiB (K : Frag) (T : Isi) : Bool := T.rr.all (fun p => decide (PySem.W.kitOne K (.ref p.1.1) (.ref p.1.2) = some p.2)) && (T.rt.all (fun p => decide (PySem.W.kitOne K (.ref p.1.1) (.type p.1.2) = some p.2)) && T.es.all fun E => tyNames.all fun s => decide (PySem.W.kitOne K (.type s) (.ref E) = some false))
theorem lookup_mem {α β : Type} [BEq α] [LawfulBEq α] : ∀ {tb : List (α × β)} {C : α} {m : β}, tb.lookup C = some m → (C, m) ∈ tb
  | (D, b) :: tb, C, m, e => by
    by_cases h : (C == D) = true
    · rw [List.lookup_cons, h] at e
      cases e
      exact .head _ |> fun z => (beq_iff_eq.mp h) ▸ z
    · rw [List.lookup_cons, Bool.eq_false_iff.mpr h] at e
      exact .tail _ (lookup_mem e)
theorem isiOne_kit {K : Frag} {T : Isi} (h : isiB K T = true) {t u : Value} {b : Bool} (e : isiOne T t u = some b) : PySem.W.kitOne K t u = some b := by
  unfold isiB at h
  simp only [Bool.and_eq_true, List.all_eq_true, decide_eq_true_eq] at h
  obtain ⟨h1, h2, h3⟩ := h
  unfold isiOne at e
  split at e
  · unfold subB at e
    split at e
    · rename_i hc
      simp only [Bool.and_eq_true, List.contains_iff_mem] at hc
      cases e
      exact L2.kit_ty (subB_kit _ hc.1 _ hc.2)
    · cases e
  · exact h1 _ (lookup_mem e)
  · exact h2 _ (lookup_mem e)
  · split at e
    · rename_i hc
      simp only [Bool.and_eq_true, List.contains_iff_mem] at hc
      cases e
      exact h3 _ hc.2 _ hc.1
    · cases e
  · cases e
theorem isiAny_kit {X : Cx} {F : Addr → Prop} {H : Hp} {T : Isi} (h : isiB X.K T = true) {t : Value} : ∀ {cs : List D} {vs : List V} {us : List Value} {b : Bool}, RepL X.K F H cs vs → Vals vs us → isiAny T t cs = some b → PySem.W.kitAny X.K t us = some b
  | [], _, _, _, r, rv, e => by cases r; cases rv; cases e; rfl
  | c :: cs, _, _, b, ⟨v, r, e1, q, t'⟩, rv, e => by
    subst e1
    cases rv with
    | cons r1 r2 =>
      simp only [isiAny, Option.bind_eq_some_iff] at e
      obtain ⟨u, e2, k, e3, e4⟩ := e
      have hu := cls_D (X := X) r1 (Rep.rdr q) e2
      subst hu
      unfold PySem.W.kitAny
      rw [isiOne_kit h e3]
      cases k with
      | true => exact e4
      | false => exact isiAny_kit h t' r2 e4
theorem cd_isiT {X : Cx} {T : Isi} (h : isiB X.K T = true) : CallR X (.builtin "isinstance") (rDn X.K (isiT T)) := by
  intro pins s σ H xs us Q I rs ⟨F, ρ, L, ds, d, o, r, e, k⟩
  unfold isiT at e
  split at e
  · rename_i x cs
    obtain ⟨v, w, rfl, h1, h2⟩ := two_of r
    simp only [Option.bind_eq_some_iff, Option.map_eq_some_iff] at e
    obtain ⟨t, e1, b, e2, rfl⟩ := e
    obtain ⟨u1, u2, rfl, r1, r2⟩ := vals2 rs
    obtain ⟨a, vs, rfl, g1, g2⟩ := h2
    cases r2
    obtain ⟨its, rv, ⟨ob, ho, hc, n, hd⟩, _⟩ := I.tuple g1
    obtain ⟨P, Z, p, hx⟩ := kit_D I r1 h1 e1
    have htp : s.heap.get? a = some ⟨.type "tuple", ob.dict, .seq its.toArray n, ob.slots⟩ := by
      rw [ho]
      obtain ⟨c1, c2, c3, c4⟩ := ob
      dsimp only at hc hd
      subst hc hd
      rfl
    exact PySem.W.kia_tup Z I.kIn p htp (isiAny_kit h g2 rv e2) hx fun tk => ⟨.bl b, H, I.tok tk, rfl, k F H _ Step.refl o rfl⟩
  · rename_i x c _
    obtain ⟨v, w, rfl, h1, h2⟩ := two_of r
    simp only [Option.bind_eq_some_iff, Option.map_eq_some_iff] at e
    obtain ⟨t, e1, u, e2, b, e3, rfl⟩ := e
    obtain ⟨u1, u2, rfl, r1, r2⟩ := vals2 rs
    have e4 := cls_D (X := X) r2 h2 e2
    subst e4
    obtain ⟨P, Z, p, hx⟩ := kit_D I r1 h1 e1
    exact PySem.W.kia_one Z I.kIn p (isiOne_kit h e3) hx fun tk => ⟨.bl b, H, I.tok tk, rfl, k F H _ Step.refl o rfl⟩
  · cases e
end VL

set_option Elab.async false
set_option linter.all false
set_option maxRecDepth 100000
set_option maxHeartbeats 4000000
namespace VL
open PySem PySem.Spec PyProof.Rows L2
open PySem.W (Frag)
/-! ### what the top has left, looked at by words -/
def mgB (K : Frag) (l : List (Str × Addr)) : Bool := l.all fun p => decide (PySem.W.nsIn K mainGlobals p.1 = some (some (.ref p.2)))
def noB (K : Frag) (l : List Str) : Bool := l.all fun x => decide (PySem.W.nsIn K mainGlobals x = some none)
def fnsB (K : Frag) (l : List (Addr × Addr × Str)) : Bool := l.all fun p => PySem.W.codeIn K (.ref p.2.1) p.2.2 && PySem.W.keepIn K (.ref p.1)
def intB (K : Frag) (l : List (Str × Int)) : Bool := l.all fun p => match PySem.W.nsIn K mainGlobals p.1 with
  | some (some (.int j _)) => j == p.2
  | _ => false
def strB (K : Frag) (l : List (Str × Str)) : Bool := l.all fun p => match PySem.W.nsIn K mainGlobals p.1 with
  | some (some (.str j _)) => j == p.2
  | _ => false
def methB (K : Frag) (l : List (Addr × Str × Addr)) : Bool := l.all fun p => decide (PySem.W.findIn K (.ref p.1) p.2.1 = some (some (.ref p.2.2))) && (PySem.W.isFn K (.ref p.2.2) && PySem.W.keepIn K (.ref p.2.2))
def naB (K : Frag) (cs : List Addr) (f : Str) : Bool := cs.all fun C => decide (PySem.W.findIn K (.ref C) f = some none)
theorem all_mem {α : Type} {l : List α} {p : α → Bool} (h : l.all p = true) {x : α} (hx : x ∈ l) : p x = true := List.all_eq_true.mp h x hx
theorem mgB_of {K : Frag} {h : Heap} {mg : Str → Option Value} (X : K.In h) (G : h.Ns mainGlobals mg) {l : List (Str × Addr)} (e : mgB K l = true) {x : Str} {a : Addr} (hx : (x, a) ∈ l) : mg x = some (.ref a) := PySem.W.mg_of X G (of_decide_eq_true (all_mem e hx))
theorem noB_of {K : Frag} {h : Heap} {mg : Str → Option Value} (X : K.In h) (G : h.Ns mainGlobals mg) {l : List Str} (e : noB K l = true) {x : Str} (hx : x ∈ l) : mg x = none := PySem.W.mg_none_of X G (of_decide_eq_true (all_mem e hx))
theorem fnsB_of {K : Frag} {l : List (Addr × Addr × Str)} (e : fnsB K l = true) {f c : Addr} {q : Str} (hx : (f, c, q) ∈ l) : PySem.W.codeIn K (.ref c) q = true ∧ PySem.W.keepIn K (.ref f) = true := by
  have := all_mem e hx
  simpa using this
theorem naB_of {K : Frag} {cs : List Addr} {f : Str} (e : naB K cs f = true) : ∀ C ∈ cs, NoAttr K C f := fun C h => (of_decide_eq_true (all_mem e h) : PySem.W.findIn K (.ref C) f = some none)
end VL

set_option Elab.async false
set_option linter.all false
set_option maxRecDepth 100000
set_option maxHeartbeats 4000000
namespace VL
open PySem PySem.Spec PyProof.Rows L2
open PySem.W (Frag)
/-! ### data that repr shows -/
def Sh (m k : Nat) (d : D) : Prop := ∃ p, toPyR d = some p ∧ p.showable = true ∧ p.depth ≤ k ∧ p.shown.length ≤ m
def shB (m k : Nat) (d : D) : Bool := match toPyR d with
  | some p => p.showable && decide (p.depth ≤ k) && decide (p.shown.length ≤ m)
  | none => false
theorem shB_of {m k : Nat} {d : D} (h : shB m k d = true) : Sh m k d := by
  unfold shB at h
  split at h
  · rename_i p e
    simp only [Bool.and_eq_true, decide_eq_true_eq] at h
    exact ⟨p, e, h.1.1, h.1.2, h.2⟩
  · cases h
theorem Sh.mono {m k m' k' : Nat} {d : D} (h : Sh m k d) (hm : m ≤ m') (hk : k ≤ k') : Sh m' k' d := let ⟨p, a, b, c, e⟩ := h; ⟨p, a, b, Nat.le_trans c hk, Nat.le_trans e hm⟩
theorem Sh.all {m k : Nat} : ∀ {xs : List D}, (∀ x ∈ xs, Sh m k x) → ∃ ps, toPyRL xs = some ps ∧ ps.length = xs.length ∧ PyData.showableAll ps = true ∧ PyData.depthAll ps ≤ k ∧ (∀ t ∈ PyData.shownAll ps, t.length ≤ m) ∧ (PyData.shownAll ps).length = ps.length
  | [], _ => ⟨[], rfl, rfl, rfl, Nat.zero_le _, by simp [PyData.shownAll], rfl⟩
  | x :: xs, h => by
    obtain ⟨p, a1, a2, a3, a4⟩ := h x (.head _)
    obtain ⟨ps, b1, b2, b3, b4, b5, b6⟩ := Sh.all (xs := xs) fun q hq => h q (.tail _ hq)
    refine ⟨p :: ps, by simp [toPyRL, a1, b1], by simp [b2], by simp [PyData.showableAll, a2, b3], by simp only [PyData.depthAll]; omega, ?_, by simp [PyData.shownAll, b6]⟩
    intro t ht
    simp only [PyData.shownAll, List.mem_cons] at ht
    rcases ht with rfl | ht
    · exact a4
    · exact b5 t ht
theorem Sh.lst {m k : Nat} {xs : List D} (h : ∀ x ∈ xs, Sh m k x) : Sh (2 + xs.length * (m + 2)) (k + 1) (.lst xs) := by
  obtain ⟨ps, b1, b2, b3, b4, b5, b6⟩ := Sh.all h
  refine ⟨.list ps, by simp [toPyR, b1], by simpa [PyData.showable] using b3, by simp only [PyData.depth]; omega, ?_⟩
  have e1 : Str.length "[" = 1 := by decide +kernel
  have e2 : Str.length "]" = 1 := by decide +kernel
  have := textFrom_le m (PyData.shownAll ps) 0 "[" b5
  simp only [PyData.shown, listText, Str.length_append, e2]
  rw [b6, b2, e1] at this
  omega
theorem Sh.repr {m k : Nat} {d : D} (h : Sh m k d) (hm : m ≤ big) (hk : k ≤ 60) : ∃ z, reprR [d] = some (.str z) := by
  obtain ⟨p, a, b, c, e⟩ := h
  refine ⟨p.shown, ?_⟩
  unfold reprR
  simp only [a, Option.bind_some]
  rw [if_pos ⟨b, Nat.le_trans c hk, Nat.le_trans e hm⟩]
theorem eq_str (z : Str) : eqB (.str z) (.str z) = some true := by simp [eqB, toPy, PyData.depth, PyData.eqv]
theorem ne_same (z : Str) : neB (.str z) (.str z) = some false := by rw [ne_strs]; simp
theorem Pen.one {n : Nat} {L : LS} (p : Pen n L) : ∃ lo, L = [lo] := by
  have := p.len
  match L, this with
  | [lo], _ => exact ⟨lo, rfl⟩
def fnEnd (n0 : Nat) (r : Rt) : Rs U := match r with
  | .nx _ L' => .ok (.d .non) (L'.take n0)
  | .rt u L' => outR n0 u L'
  | .ex C ns xs _ L' => .ex C ns xs (L'.take n0)
  | _ => .no
end VL

set_option Elab.async false
set_option linter.all false
set_option maxRecDepth 100000
set_option maxHeartbeats 4000000
namespace VL.P
open PySem PySem.Spec PyProof.Rows L2 VL
open PySem.W (Frag)
def topS (i : Nat) : Stmt := PySem.Challenge.pw_stayhouse_k00_errors_and_their_fields.main.body.getD i (.Pass ⟨0, 0, 0, 0⟩)
abbrev s_l_is_alone : Stmt := topS 38
abbrev s_l_names : Stmt := topS 37
abbrev s_l_parts : Stmt := topS 36
abbrev s_l_pen : Stmt := topS 32
abbrev s_l_draw : Stmt := topS 33
abbrev s_l_pick : Stmt := topS 34
abbrev s_l_some : Stmt := topS 35
abbrev s_l_two_right : Stmt := topS 39
abbrev s_law : Stmt := topS 40
abbrev s_BadBook_init : Stmt := inClass (topS 12) 0
abbrev s_BadCalendar_init : Stmt := inClass (topS 13) 0
abbrev s_BadCounts_init : Stmt := inClass (topS 9) 0
abbrev s_BadHouse_init : Stmt := inClass (topS 15) 0
abbrev s_BadLimit_init : Stmt := inClass (topS 5) 0
abbrev s_BadLine_init : Stmt := inClass (topS 19) 0
abbrev s_BadLines_init : Stmt := inClass (topS 14) 0
abbrev s_BadName_init : Stmt := inClass (topS 17) 0
abbrev s_BadNumber_init : Stmt := inClass (topS 16) 0
abbrev s_BadPlan_init : Stmt := inClass (topS 4) 0
abbrev s_BadPromise_init : Stmt := inClass (topS 6) 0
abbrev s_BadRow_init : Stmt := inClass (topS 7) 0
abbrev s_BadRule_init : Stmt := inClass (topS 10) 0
abbrev s_BadSite_init : Stmt := inClass (topS 3) 0
abbrev s_BadStay_init : Stmt := inClass (topS 11) 0
abbrev s_BadStock_init : Stmt := inClass (topS 8) 0
abbrev s_BadText_init : Stmt := inClass (topS 18) 0
abbrev s_BadWish_init : Stmt := inClass (topS 2) 0
abbrev s_Barred_init : Stmt := inClass (topS 28) 0
abbrev s_NoBay_init : Stmt := inClass (topS 26) 0
abbrev s_NoGate_init : Stmt := inClass (topS 24) 0
abbrev s_NoGuest_init : Stmt := inClass (topS 22) 0
abbrev s_NoHall_init : Stmt := inClass (topS 23) 0
abbrev s_NoSite_init : Stmt := inClass (topS 21) 0
abbrev s_NoWish_init : Stmt := inClass (topS 20) 0
abbrev s_Nothing_init : Stmt := inClass (topS 30) 0
abbrev s_Refused_init : Stmt := inClass (topS 25) 0
abbrev s_TooMany_init : Stmt := inClass (topS 29) 0
abbrev s_Unbounded_init : Stmt := inClass (topS 27) 0
theorem sc_l_is_alone : FnScope ["_law_made", "_law_kind", "_law_kinds", "_law_told_so", "_law_k"] ["_law_made", "_law_kind"] (defScope s_l_is_alone) := ⟨rfl, rfl, rfl, by decide +kernel, rfl, by decide +kernel, by decide +kernel⟩
theorem sc_l_names : FnScope ["_law_one_so", "_law_two_so", "_law_numbers", "_law_found", "_law_absent", "_law_row", "_law_other", "_law_line", "_law_more", "_law_bar", "_law_door", "_law_bay", "_law_none", "_law_one", "_law_two"] ["_law_one_so", "_law_two_so"] (defScope s_l_names) := ⟨rfl, rfl, rfl, by decide +kernel, rfl, by decide +kernel, by decide +kernel⟩
theorem sc_l_parts : FnScope ["_law_one_so", "_law_two_so", "_law_found", "_law_one", "_law_two"] ["_law_one_so", "_law_two_so"] (defScope s_l_parts) := ⟨rfl, rfl, rfl, by decide +kernel, rfl, by decide +kernel, by decide +kernel⟩
theorem sc_l_pen : FnScope ["_law_script"] ["_law_script"] (defScope s_l_pen) := ⟨rfl, rfl, rfl, by decide +kernel, rfl, by decide +kernel, by decide +kernel⟩
theorem sc_l_draw : FnScope ["_law_pen_here", "_law_many", "_law_digit", "_law_spot", "_law_cell", "_law_great", "_law_stirred"] ["_law_pen_here", "_law_many"] (defScope s_l_draw) := ⟨rfl, rfl, rfl, by decide +kernel, rfl, by decide +kernel, by decide +kernel⟩
theorem sc_l_pick : FnScope ["_law_pen_here", "_law_some_here"] ["_law_pen_here", "_law_some_here"] (defScope s_l_pick) := ⟨rfl, rfl, rfl, by decide +kernel, rfl, by decide +kernel, by decide +kernel⟩
theorem sc_l_some : FnScope ["_law_pen_here", "_law_some_here"] ["_law_pen_here"] (defScope s_l_some) := ⟨rfl, rfl, rfl, by decide +kernel, rfl, by decide +kernel, by decide +kernel⟩
theorem sc_l_two_right : FnScope ["_law_one_so", "_law_two_so", "_law_made", "_law_texts", "_law_most_so", "_law_told_so", "_law_kinds", "_law_one"] ["_law_one_so", "_law_two_so"] (defScope s_l_two_right) := ⟨rfl, rfl, rfl, by decide +kernel, rfl, by decide +kernel, by decide +kernel⟩
theorem sc_law : FnScope ["_law_script", "_law_pen_here", "_law_lap", "_law_one_so", "_law_two_so", "_law_rows_so", "_law_k", "_law_one", "_law_first", "_law_two", "_law_second"] ["_law_script"] (defScope s_law) := ⟨rfl, rfl, rfl, by decide +kernel, rfl, by decide +kernel, by decide +kernel⟩
theorem sc_BadBook_init : SuScope ["self", "part"] ["self", "part"] (defScope s_BadBook_init) := ⟨rfl, rfl, rfl, by decide +kernel, rfl, by decide +kernel, by decide +kernel, by decide +kernel, by decide +kernel, by decide +kernel⟩
theorem sc_BadCalendar_init : SuScope ["self", "part"] ["self", "part"] (defScope s_BadCalendar_init) := ⟨rfl, rfl, rfl, by decide +kernel, rfl, by decide +kernel, by decide +kernel, by decide +kernel, by decide +kernel, by decide +kernel⟩
theorem sc_BadCounts_init : SuScope ["self", "part"] ["self", "part"] (defScope s_BadCounts_init) := ⟨rfl, rfl, rfl, by decide +kernel, rfl, by decide +kernel, by decide +kernel, by decide +kernel, by decide +kernel, by decide +kernel⟩
theorem sc_BadHouse_init : SuScope ["self", "part"] ["self", "part"] (defScope s_BadHouse_init) := ⟨rfl, rfl, rfl, by decide +kernel, rfl, by decide +kernel, by decide +kernel, by decide +kernel, by decide +kernel, by decide +kernel⟩
theorem sc_BadLimit_init : SuScope ["self", "part"] ["self", "part"] (defScope s_BadLimit_init) := ⟨rfl, rfl, rfl, by decide +kernel, rfl, by decide +kernel, by decide +kernel, by decide +kernel, by decide +kernel, by decide +kernel⟩
theorem sc_BadLine_init : SuScope ["self", "word"] ["self", "word"] (defScope s_BadLine_init) := ⟨rfl, rfl, rfl, by decide +kernel, rfl, by decide +kernel, by decide +kernel, by decide +kernel, by decide +kernel, by decide +kernel⟩
theorem sc_BadLines_init : SuScope ["self", "part"] ["self", "part"] (defScope s_BadLines_init) := ⟨rfl, rfl, rfl, by decide +kernel, rfl, by decide +kernel, by decide +kernel, by decide +kernel, by decide +kernel, by decide +kernel⟩
theorem sc_BadName_init : SuScope ["self", "value"] ["self", "value"] (defScope s_BadName_init) := ⟨rfl, rfl, rfl, by decide +kernel, rfl, by decide +kernel, by decide +kernel, by decide +kernel, by decide +kernel, by decide +kernel⟩
theorem sc_BadNumber_init : SuScope ["self", "value"] ["self", "value"] (defScope s_BadNumber_init) := ⟨rfl, rfl, rfl, by decide +kernel, rfl, by decide +kernel, by decide +kernel, by decide +kernel, by decide +kernel, by decide +kernel⟩
theorem sc_BadPlan_init : SuScope ["self", "part"] ["self", "part"] (defScope s_BadPlan_init) := ⟨rfl, rfl, rfl, by decide +kernel, rfl, by decide +kernel, by decide +kernel, by decide +kernel, by decide +kernel, by decide +kernel⟩
theorem sc_BadPromise_init : SuScope ["self", "part"] ["self", "part"] (defScope s_BadPromise_init) := ⟨rfl, rfl, rfl, by decide +kernel, rfl, by decide +kernel, by decide +kernel, by decide +kernel, by decide +kernel, by decide +kernel⟩
theorem sc_BadRow_init : SuScope ["self", "at"] ["self", "at"] (defScope s_BadRow_init) := ⟨rfl, rfl, rfl, by decide +kernel, rfl, by decide +kernel, by decide +kernel, by decide +kernel, by decide +kernel, by decide +kernel⟩
theorem sc_BadRule_init : SuScope ["self", "part"] ["self", "part"] (defScope s_BadRule_init) := ⟨rfl, rfl, rfl, by decide +kernel, rfl, by decide +kernel, by decide +kernel, by decide +kernel, by decide +kernel, by decide +kernel⟩
theorem sc_BadSite_init : SuScope ["self", "part"] ["self", "part"] (defScope s_BadSite_init) := ⟨rfl, rfl, rfl, by decide +kernel, rfl, by decide +kernel, by decide +kernel, by decide +kernel, by decide +kernel, by decide +kernel⟩
theorem sc_BadStay_init : SuScope ["self", "part"] ["self", "part"] (defScope s_BadStay_init) := ⟨rfl, rfl, rfl, by decide +kernel, rfl, by decide +kernel, by decide +kernel, by decide +kernel, by decide +kernel, by decide +kernel⟩
theorem sc_BadStock_init : SuScope ["self", "part"] ["self", "part"] (defScope s_BadStock_init) := ⟨rfl, rfl, rfl, by decide +kernel, rfl, by decide +kernel, by decide +kernel, by decide +kernel, by decide +kernel, by decide +kernel⟩
theorem sc_BadText_init : SuScope ["self", "line", "word"] ["self", "line", "word"] (defScope s_BadText_init) := ⟨rfl, rfl, rfl, by decide +kernel, rfl, by decide +kernel, by decide +kernel, by decide +kernel, by decide +kernel, by decide +kernel⟩
theorem sc_BadWish_init : SuScope ["self", "part"] ["self", "part"] (defScope s_BadWish_init) := ⟨rfl, rfl, rfl, by decide +kernel, rfl, by decide +kernel, by decide +kernel, by decide +kernel, by decide +kernel, by decide +kernel⟩
theorem sc_Barred_init : SuScope ["self", "word"] ["self", "word"] (defScope s_Barred_init) := ⟨rfl, rfl, rfl, by decide +kernel, rfl, by decide +kernel, by decide +kernel, by decide +kernel, by decide +kernel, by decide +kernel⟩
theorem sc_NoBay_init : SuScope ["self", "wish"] ["self", "wish"] (defScope s_NoBay_init) := ⟨rfl, rfl, rfl, by decide +kernel, rfl, by decide +kernel, by decide +kernel, by decide +kernel, by decide +kernel, by decide +kernel⟩
theorem sc_NoGate_init : SuScope ["self", "name"] ["self", "name"] (defScope s_NoGate_init) := ⟨rfl, rfl, rfl, by decide +kernel, rfl, by decide +kernel, by decide +kernel, by decide +kernel, by decide +kernel, by decide +kernel⟩
theorem sc_NoGuest_init : SuScope ["self", "name"] ["self", "name"] (defScope s_NoGuest_init) := ⟨rfl, rfl, rfl, by decide +kernel, rfl, by decide +kernel, by decide +kernel, by decide +kernel, by decide +kernel, by decide +kernel⟩
theorem sc_NoHall_init : SuScope ["self", "name"] ["self", "name"] (defScope s_NoHall_init) := ⟨rfl, rfl, rfl, by decide +kernel, rfl, by decide +kernel, by decide +kernel, by decide +kernel, by decide +kernel, by decide +kernel⟩
theorem sc_NoSite_init : SuScope ["self", "name"] ["self", "name"] (defScope s_NoSite_init) := ⟨rfl, rfl, rfl, by decide +kernel, rfl, by decide +kernel, by decide +kernel, by decide +kernel, by decide +kernel, by decide +kernel⟩
theorem sc_NoWish_init : SuScope ["self", "name"] ["self", "name"] (defScope s_NoWish_init) := ⟨rfl, rfl, rfl, by decide +kernel, rfl, by decide +kernel, by decide +kernel, by decide +kernel, by decide +kernel, by decide +kernel⟩
theorem sc_Nothing_init : SuScope ["self"] ["self"] (defScope s_Nothing_init) := ⟨rfl, rfl, rfl, by decide +kernel, rfl, by decide +kernel, by decide +kernel, by decide +kernel, by decide +kernel, by decide +kernel⟩
theorem sc_Refused_init : SuScope ["self", "part", "wish"] ["self", "part", "wish"] (defScope s_Refused_init) := ⟨rfl, rfl, rfl, by decide +kernel, rfl, by decide +kernel, by decide +kernel, by decide +kernel, by decide +kernel, by decide +kernel⟩
theorem sc_TooMany_init : SuScope ["self", "what", "most"] ["self", "what", "most"] (defScope s_TooMany_init) := ⟨rfl, rfl, rfl, by decide +kernel, rfl, by decide +kernel, by decide +kernel, by decide +kernel, by decide +kernel, by decide +kernel⟩
theorem sc_Unbounded_init : SuScope ["self", "part"] ["self", "part"] (defScope s_Unbounded_init) := ⟨rfl, rfl, rfl, by decide +kernel, rfl, by decide +kernel, by decide +kernel, by decide +kernel, by decide +kernel, by decide +kernel⟩
def isi : Isi := ⟨[((256, 256), true), ((256, 277), false), ((256, 193), false), ((256, 319), false), ((256, 109), false), ((256, 403), false), ((256, 298), false), ((256, 361), false), ((256, 340), false), ((256, 88), false), ((256, 130), false), ((256, 151), false), ((256, 214), false), ((256, 67), false), ((256, 235), false), ((256, 172), false), ((256, 382), false), ((256, 46), false), ((256, 592), false), ((256, 550), false), ((256, 508), false), ((256, 466), false), ((256, 487), false), ((256, 445), false), ((256, 424), false), ((256, 634), false), ((256, 529), false), ((256, 24), true), ((256, 613), false), ((256, 571), false), ((277, 256), false), ((277, 277), true), ((277, 193), false), ((277, 319), false), ((277, 109), false), ((277, 403), false), ((277, 298), false), ((277, 361), false), ((277, 340), false), ((277, 88), false), ((277, 130), false), ((277, 151), false), ((277, 214), false), ((277, 67), false), ((277, 235), false), ((277, 172), false), ((277, 382), false), ((277, 46), false), ((277, 592), false), ((277, 550), false), ((277, 508), false), ((277, 466), false), ((277, 487), false), ((277, 445), false), ((277, 424), false), ((277, 634), false), ((277, 529), false), ((277, 24), true), ((277, 613), false), ((277, 571), false), ((193, 256), false), ((193, 277), false), ((193, 193), true), ((193, 319), false), ((193, 109), false), ((193, 403), false), ((193, 298), false), ((193, 361), false), ((193, 340), false), ((193, 88), false), ((193, 130), false), ((193, 151), false), ((193, 214), false), ((193, 67), false), ((193, 235), false), ((193, 172), false), ((193, 382), false), ((193, 46), false), ((193, 592), false), ((193, 550), false), ((193, 508), false), ((193, 466), false), ((193, 487), false), ((193, 445), false), ((193, 424), false), ((193, 634), false), ((193, 529), false), ((193, 24), true), ((193, 613), false), ((193, 571), false), ((319, 256), false), ((319, 277), false), ((319, 193), false), ((319, 319), true), ((319, 109), false), ((319, 403), false), ((319, 298), false), ((319, 361), false), ((319, 340), false), ((319, 88), false), ((319, 130), false), ((319, 151), false), ((319, 214), false), ((319, 67), false), ((319, 235), false), ((319, 172), false), ((319, 382), false), ((319, 46), false), ((319, 592), false), ((319, 550), false), ((319, 508), false), ((319, 466), false), ((319, 487), false), ((319, 445), false), ((319, 424), false), ((319, 634), false), ((319, 529), false), ((319, 24), true), ((319, 613), false), ((319, 571), false), ((109, 256), false), ((109, 277), false), ((109, 193), false), ((109, 319), false), ((109, 109), true), ((109, 403), false), ((109, 298), false), ((109, 361), false), ((109, 340), false), ((109, 88), false), ((109, 130), false), ((109, 151), false), ((109, 214), false), ((109, 67), false), ((109, 235), false), ((109, 172), false), ((109, 382), false), ((109, 46), false), ((109, 592), false), ((109, 550), false), ((109, 508), false), ((109, 466), false), ((109, 487), false), ((109, 445), false), ((109, 424), false), ((109, 634), false), ((109, 529), false), ((109, 24), true), ((109, 613), false), ((109, 571), false), ((403, 256), false), ((403, 277), false), ((403, 193), false), ((403, 319), false), ((403, 109), false), ((403, 403), true), ((403, 298), false), ((403, 361), false), ((403, 340), false), ((403, 88), false), ((403, 130), false), ((403, 151), false), ((403, 214), false), ((403, 67), false), ((403, 235), false), ((403, 172), false), ((403, 382), false), ((403, 46), false), ((403, 592), false), ((403, 550), false), ((403, 508), false), ((403, 466), false), ((403, 487), false), ((403, 445), false), ((403, 424), false), ((403, 634), false), ((403, 529), false), ((403, 24), true), ((403, 613), false), ((403, 571), false), ((298, 256), false), ((298, 277), false), ((298, 193), false), ((298, 319), false), ((298, 109), false), ((298, 403), false), ((298, 298), true), ((298, 361), false), ((298, 340), false), ((298, 88), false), ((298, 130), false), ((298, 151), false), ((298, 214), false), ((298, 67), false), ((298, 235), false), ((298, 172), false), ((298, 382), false), ((298, 46), false), ((298, 592), false), ((298, 550), false), ((298, 508), false), ((298, 466), false), ((298, 487), false), ((298, 445), false), ((298, 424), false), ((298, 634), false), ((298, 529), false), ((298, 24), true), ((298, 613), false), ((298, 571), false), ((361, 256), false), ((361, 277), false), ((361, 193), false), ((361, 319), false), ((361, 109), false), ((361, 403), false), ((361, 298), false), ((361, 361), true), ((361, 340), false), ((361, 88), false), ((361, 130), false), ((361, 151), false), ((361, 214), false), ((361, 67), false), ((361, 235), false), ((361, 172), false), ((361, 382), false), ((361, 46), false), ((361, 592), false), ((361, 550), false), ((361, 508), false), ((361, 466), false), ((361, 487), false), ((361, 445), false), ((361, 424), false), ((361, 634), false), ((361, 529), false), ((361, 24), true), ((361, 613), false), ((361, 571), false), ((340, 256), false), ((340, 277), false), ((340, 193), false), ((340, 319), false), ((340, 109), false), ((340, 403), false), ((340, 298), false), ((340, 361), false), ((340, 340), true), ((340, 88), false), ((340, 130), false), ((340, 151), false), ((340, 214), false), ((340, 67), false), ((340, 235), false), ((340, 172), false), ((340, 382), false), ((340, 46), false), ((340, 592), false), ((340, 550), false), ((340, 508), false), ((340, 466), false), ((340, 487), false), ((340, 445), false), ((340, 424), false), ((340, 634), false), ((340, 529), false), ((340, 24), true), ((340, 613), false), ((340, 571), false), ((88, 256), false), ((88, 277), false), ((88, 193), false), ((88, 319), false), ((88, 109), false), ((88, 403), false), ((88, 298), false), ((88, 361), false), ((88, 340), false), ((88, 88), true), ((88, 130), false), ((88, 151), false), ((88, 214), false), ((88, 67), false), ((88, 235), false), ((88, 172), false), ((88, 382), false), ((88, 46), false), ((88, 592), false), ((88, 550), false), ((88, 508), false), ((88, 466), false), ((88, 487), false), ((88, 445), false), ((88, 424), false), ((88, 634), false), ((88, 529), false), ((88, 24), true), ((88, 613), false), ((88, 571), false), ((130, 256), false), ((130, 277), false), ((130, 193), false), ((130, 319), false), ((130, 109), false), ((130, 403), false), ((130, 298), false), ((130, 361), false), ((130, 340), false), ((130, 88), false), ((130, 130), true), ((130, 151), false), ((130, 214), false), ((130, 67), false), ((130, 235), false), ((130, 172), false), ((130, 382), false), ((130, 46), false), ((130, 592), false), ((130, 550), false), ((130, 508), false), ((130, 466), false), ((130, 487), false), ((130, 445), false), ((130, 424), false), ((130, 634), false), ((130, 529), false), ((130, 24), true), ((130, 613), false), ((130, 571), false), ((151, 256), false), ((151, 277), false), ((151, 193), false), ((151, 319), false), ((151, 109), false), ((151, 403), false), ((151, 298), false), ((151, 361), false), ((151, 340), false), ((151, 88), false), ((151, 130), false), ((151, 151), true), ((151, 214), false), ((151, 67), false), ((151, 235), false), ((151, 172), false), ((151, 382), false), ((151, 46), false), ((151, 592), false), ((151, 550), false), ((151, 508), false), ((151, 466), false), ((151, 487), false), ((151, 445), false), ((151, 424), false), ((151, 634), false), ((151, 529), false), ((151, 24), true), ((151, 613), false), ((151, 571), false), ((214, 256), false), ((214, 277), false), ((214, 193), false), ((214, 319), false), ((214, 109), false), ((214, 403), false), ((214, 298), false), ((214, 361), false), ((214, 340), false), ((214, 88), false), ((214, 130), false), ((214, 151), false), ((214, 214), true), ((214, 67), false), ((214, 235), false), ((214, 172), false), ((214, 382), false), ((214, 46), false), ((214, 592), false), ((214, 550), false), ((214, 508), false), ((214, 466), false), ((214, 487), false), ((214, 445), false), ((214, 424), false), ((214, 634), false), ((214, 529), false), ((214, 24), true), ((214, 613), false), ((214, 571), false), ((67, 256), false), ((67, 277), false), ((67, 193), false), ((67, 319), false), ((67, 109), false), ((67, 403), false), ((67, 298), false), ((67, 361), false), ((67, 340), false), ((67, 88), false), ((67, 130), false), ((67, 151), false), ((67, 214), false), ((67, 67), true), ((67, 235), false), ((67, 172), false), ((67, 382), false), ((67, 46), false), ((67, 592), false), ((67, 550), false), ((67, 508), false), ((67, 466), false), ((67, 487), false), ((67, 445), false), ((67, 424), false), ((67, 634), false), ((67, 529), false), ((67, 24), true), ((67, 613), false), ((67, 571), false), ((235, 256), false), ((235, 277), false), ((235, 193), false), ((235, 319), false), ((235, 109), false), ((235, 403), false), ((235, 298), false), ((235, 361), false), ((235, 340), false), ((235, 88), false), ((235, 130), false), ((235, 151), false), ((235, 214), false), ((235, 67), false), ((235, 235), true), ((235, 172), false), ((235, 382), false), ((235, 46), false), ((235, 592), false), ((235, 550), false), ((235, 508), false), ((235, 466), false), ((235, 487), false), ((235, 445), false), ((235, 424), false), ((235, 634), false), ((235, 529), false), ((235, 24), true), ((235, 613), false), ((235, 571), false), ((172, 256), false), ((172, 277), false), ((172, 193), false), ((172, 319), false), ((172, 109), false), ((172, 403), false), ((172, 298), false), ((172, 361), false), ((172, 340), false), ((172, 88), false), ((172, 130), false), ((172, 151), false), ((172, 214), false), ((172, 67), false), ((172, 235), false), ((172, 172), true), ((172, 382), false), ((172, 46), false), ((172, 592), false), ((172, 550), false), ((172, 508), false), ((172, 466), false), ((172, 487), false), ((172, 445), false), ((172, 424), false), ((172, 634), false), ((172, 529), false), ((172, 24), true), ((172, 613), false), ((172, 571), false), ((382, 256), false), ((382, 277), false), ((382, 193), false), ((382, 319), false), ((382, 109), false), ((382, 403), false), ((382, 298), false), ((382, 361), false), ((382, 340), false), ((382, 88), false), ((382, 130), false), ((382, 151), false), ((382, 214), false), ((382, 67), false), ((382, 235), false), ((382, 172), false), ((382, 382), true), ((382, 46), false), ((382, 592), false), ((382, 550), false), ((382, 508), false), ((382, 466), false), ((382, 487), false), ((382, 445), false), ((382, 424), false), ((382, 634), false), ((382, 529), false), ((382, 24), true), ((382, 613), false), ((382, 571), false), ((46, 256), false), ((46, 277), false), ((46, 193), false), ((46, 319), false), ((46, 109), false), ((46, 403), false), ((46, 298), false), ((46, 361), false), ((46, 340), false), ((46, 88), false), ((46, 130), false), ((46, 151), false), ((46, 214), false), ((46, 67), false), ((46, 235), false), ((46, 172), false), ((46, 382), false), ((46, 46), true), ((46, 592), false), ((46, 550), false), ((46, 508), false), ((46, 466), false), ((46, 487), false), ((46, 445), false), ((46, 424), false), ((46, 634), false), ((46, 529), false), ((46, 24), true), ((46, 613), false), ((46, 571), false), ((592, 256), false), ((592, 277), false), ((592, 193), false), ((592, 319), false), ((592, 109), false), ((592, 403), false), ((592, 298), false), ((592, 361), false), ((592, 340), false), ((592, 88), false), ((592, 130), false), ((592, 151), false), ((592, 214), false), ((592, 67), false), ((592, 235), false), ((592, 172), false), ((592, 382), false), ((592, 46), false), ((592, 592), true), ((592, 550), false), ((592, 508), false), ((592, 466), false), ((592, 487), false), ((592, 445), false), ((592, 424), false), ((592, 634), false), ((592, 529), false), ((592, 24), true), ((592, 613), false), ((592, 571), false), ((550, 256), false), ((550, 277), false), ((550, 193), false), ((550, 319), false), ((550, 109), false), ((550, 403), false), ((550, 298), false), ((550, 361), false), ((550, 340), false), ((550, 88), false), ((550, 130), false), ((550, 151), false), ((550, 214), false), ((550, 67), false), ((550, 235), false), ((550, 172), false), ((550, 382), false), ((550, 46), false), ((550, 592), false), ((550, 550), true), ((550, 508), false), ((550, 466), false), ((550, 487), false), ((550, 445), false), ((550, 424), false), ((550, 634), false), ((550, 529), false), ((550, 24), true), ((550, 613), false), ((550, 571), false), ((508, 256), false), ((508, 277), false), ((508, 193), false), ((508, 319), false), ((508, 109), false), ((508, 403), false), ((508, 298), false), ((508, 361), false), ((508, 340), false), ((508, 88), false), ((508, 130), false), ((508, 151), false), ((508, 214), false), ((508, 67), false), ((508, 235), false), ((508, 172), false), ((508, 382), false), ((508, 46), false), ((508, 592), false), ((508, 550), false), ((508, 508), true), ((508, 466), false), ((508, 487), false), ((508, 445), false), ((508, 424), false), ((508, 634), false), ((508, 529), false), ((508, 24), true), ((508, 613), false), ((508, 571), false), ((466, 256), false), ((466, 277), false), ((466, 193), false), ((466, 319), false), ((466, 109), false), ((466, 403), false), ((466, 298), false), ((466, 361), false), ((466, 340), false), ((466, 88), false), ((466, 130), false), ((466, 151), false), ((466, 214), false), ((466, 67), false), ((466, 235), false), ((466, 172), false), ((466, 382), false), ((466, 46), false), ((466, 592), false), ((466, 550), false), ((466, 508), false), ((466, 466), true), ((466, 487), false), ((466, 445), false), ((466, 424), false), ((466, 634), false), ((466, 529), false), ((466, 24), true), ((466, 613), false), ((466, 571), false), ((487, 256), false), ((487, 277), false), ((487, 193), false), ((487, 319), false), ((487, 109), false), ((487, 403), false), ((487, 298), false), ((487, 361), false), ((487, 340), false), ((487, 88), false), ((487, 130), false), ((487, 151), false), ((487, 214), false), ((487, 67), false), ((487, 235), false), ((487, 172), false), ((487, 382), false), ((487, 46), false), ((487, 592), false), ((487, 550), false), ((487, 508), false), ((487, 466), false), ((487, 487), true), ((487, 445), false), ((487, 424), false), ((487, 634), false), ((487, 529), false), ((487, 24), true), ((487, 613), false), ((487, 571), false), ((445, 256), false), ((445, 277), false), ((445, 193), false), ((445, 319), false), ((445, 109), false), ((445, 403), false), ((445, 298), false), ((445, 361), false), ((445, 340), false), ((445, 88), false), ((445, 130), false), ((445, 151), false), ((445, 214), false), ((445, 67), false), ((445, 235), false), ((445, 172), false), ((445, 382), false), ((445, 46), false), ((445, 592), false), ((445, 550), false), ((445, 508), false), ((445, 466), false), ((445, 487), false), ((445, 445), true), ((445, 424), false), ((445, 634), false), ((445, 529), false), ((445, 24), true), ((445, 613), false), ((445, 571), false), ((424, 256), false), ((424, 277), false), ((424, 193), false), ((424, 319), false), ((424, 109), false), ((424, 403), false), ((424, 298), false), ((424, 361), false), ((424, 340), false), ((424, 88), false), ((424, 130), false), ((424, 151), false), ((424, 214), false), ((424, 67), false), ((424, 235), false), ((424, 172), false), ((424, 382), false), ((424, 46), false), ((424, 592), false), ((424, 550), false), ((424, 508), false), ((424, 466), false), ((424, 487), false), ((424, 445), false), ((424, 424), true), ((424, 634), false), ((424, 529), false), ((424, 24), true), ((424, 613), false), ((424, 571), false), ((634, 256), false), ((634, 277), false), ((634, 193), false), ((634, 319), false), ((634, 109), false), ((634, 403), false), ((634, 298), false), ((634, 361), false), ((634, 340), false), ((634, 88), false), ((634, 130), false), ((634, 151), false), ((634, 214), false), ((634, 67), false), ((634, 235), false), ((634, 172), false), ((634, 382), false), ((634, 46), false), ((634, 592), false), ((634, 550), false), ((634, 508), false), ((634, 466), false), ((634, 487), false), ((634, 445), false), ((634, 424), false), ((634, 634), true), ((634, 529), false), ((634, 24), true), ((634, 613), false), ((634, 571), false), ((529, 256), false), ((529, 277), false), ((529, 193), false), ((529, 319), false), ((529, 109), false), ((529, 403), false), ((529, 298), false), ((529, 361), false), ((529, 340), false), ((529, 88), false), ((529, 130), false), ((529, 151), false), ((529, 214), false), ((529, 67), false), ((529, 235), false), ((529, 172), false), ((529, 382), false), ((529, 46), false), ((529, 592), false), ((529, 550), false), ((529, 508), false), ((529, 466), false), ((529, 487), false), ((529, 445), false), ((529, 424), false), ((529, 634), false), ((529, 529), true), ((529, 24), true), ((529, 613), false), ((529, 571), false), ((613, 256), false), ((613, 277), false), ((613, 193), false), ((613, 319), false), ((613, 109), false), ((613, 403), false), ((613, 298), false), ((613, 361), false), ((613, 340), false), ((613, 88), false), ((613, 130), false), ((613, 151), false), ((613, 214), false), ((613, 67), false), ((613, 235), false), ((613, 172), false), ((613, 382), false), ((613, 46), false), ((613, 592), false), ((613, 550), false), ((613, 508), false), ((613, 466), false), ((613, 487), false), ((613, 445), false), ((613, 424), false), ((613, 634), false), ((613, 529), false), ((613, 24), true), ((613, 613), true), ((613, 571), false), ((571, 256), false), ((571, 277), false), ((571, 193), false), ((571, 319), false), ((571, 109), false), ((571, 403), false), ((571, 298), false), ((571, 361), false), ((571, 340), false), ((571, 88), false), ((571, 130), false), ((571, 151), false), ((571, 214), false), ((571, 67), false), ((571, 235), false), ((571, 172), false), ((571, 382), false), ((571, 46), false), ((571, 592), false), ((571, 550), false), ((571, 508), false), ((571, 466), false), ((571, 487), false), ((571, 445), false), ((571, 424), false), ((571, 634), false), ((571, 529), false), ((571, 24), true), ((571, 613), false), ((571, 571), true)], [((256, "int"), false), ((256, "bool"), false), ((256, "str"), false), ((256, "list"), false), ((256, "tuple"), false), ((256, "dict"), false), ((256, "ValueError"), true), ((277, "int"), false), ((277, "bool"), false), ((277, "str"), false), ((277, "list"), false), ((277, "tuple"), false), ((277, "dict"), false), ((277, "ValueError"), true), ((193, "int"), false), ((193, "bool"), false), ((193, "str"), false), ((193, "list"), false), ((193, "tuple"), false), ((193, "dict"), false), ((193, "ValueError"), true), ((319, "int"), false), ((319, "bool"), false), ((319, "str"), false), ((319, "list"), false), ((319, "tuple"), false), ((319, "dict"), false), ((319, "ValueError"), true), ((109, "int"), false), ((109, "bool"), false), ((109, "str"), false), ((109, "list"), false), ((109, "tuple"), false), ((109, "dict"), false), ((109, "ValueError"), true), ((403, "int"), false), ((403, "bool"), false), ((403, "str"), false), ((403, "list"), false), ((403, "tuple"), false), ((403, "dict"), false), ((403, "ValueError"), true), ((298, "int"), false), ((298, "bool"), false), ((298, "str"), false), ((298, "list"), false), ((298, "tuple"), false), ((298, "dict"), false), ((298, "ValueError"), true), ((361, "int"), false), ((361, "bool"), false), ((361, "str"), false), ((361, "list"), false), ((361, "tuple"), false), ((361, "dict"), false), ((361, "ValueError"), true), ((340, "int"), false), ((340, "bool"), false), ((340, "str"), false), ((340, "list"), false), ((340, "tuple"), false), ((340, "dict"), false), ((340, "ValueError"), true), ((88, "int"), false), ((88, "bool"), false), ((88, "str"), false), ((88, "list"), false), ((88, "tuple"), false), ((88, "dict"), false), ((88, "ValueError"), true), ((130, "int"), false), ((130, "bool"), false), ((130, "str"), false), ((130, "list"), false), ((130, "tuple"), false), ((130, "dict"), false), ((130, "ValueError"), true), ((151, "int"), false), ((151, "bool"), false), ((151, "str"), false), ((151, "list"), false), ((151, "tuple"), false), ((151, "dict"), false), ((151, "ValueError"), true), ((214, "int"), false), ((214, "bool"), false), ((214, "str"), false), ((214, "list"), false), ((214, "tuple"), false), ((214, "dict"), false), ((214, "ValueError"), true), ((67, "int"), false), ((67, "bool"), false), ((67, "str"), false), ((67, "list"), false), ((67, "tuple"), false), ((67, "dict"), false), ((67, "ValueError"), true), ((235, "int"), false), ((235, "bool"), false), ((235, "str"), false), ((235, "list"), false), ((235, "tuple"), false), ((235, "dict"), false), ((235, "ValueError"), true), ((172, "int"), false), ((172, "bool"), false), ((172, "str"), false), ((172, "list"), false), ((172, "tuple"), false), ((172, "dict"), false), ((172, "ValueError"), true), ((382, "int"), false), ((382, "bool"), false), ((382, "str"), false), ((382, "list"), false), ((382, "tuple"), false), ((382, "dict"), false), ((382, "ValueError"), true), ((46, "int"), false), ((46, "bool"), false), ((46, "str"), false), ((46, "list"), false), ((46, "tuple"), false), ((46, "dict"), false), ((46, "ValueError"), true), ((592, "int"), false), ((592, "bool"), false), ((592, "str"), false), ((592, "list"), false), ((592, "tuple"), false), ((592, "dict"), false), ((592, "ValueError"), true), ((550, "int"), false), ((550, "bool"), false), ((550, "str"), false), ((550, "list"), false), ((550, "tuple"), false), ((550, "dict"), false), ((550, "ValueError"), true), ((508, "int"), false), ((508, "bool"), false), ((508, "str"), false), ((508, "list"), false), ((508, "tuple"), false), ((508, "dict"), false), ((508, "ValueError"), true), ((466, "int"), false), ((466, "bool"), false), ((466, "str"), false), ((466, "list"), false), ((466, "tuple"), false), ((466, "dict"), false), ((466, "ValueError"), true), ((487, "int"), false), ((487, "bool"), false), ((487, "str"), false), ((487, "list"), false), ((487, "tuple"), false), ((487, "dict"), false), ((487, "ValueError"), true), ((445, "int"), false), ((445, "bool"), false), ((445, "str"), false), ((445, "list"), false), ((445, "tuple"), false), ((445, "dict"), false), ((445, "ValueError"), true), ((424, "int"), false), ((424, "bool"), false), ((424, "str"), false), ((424, "list"), false), ((424, "tuple"), false), ((424, "dict"), false), ((424, "ValueError"), true), ((634, "int"), false), ((634, "bool"), false), ((634, "str"), false), ((634, "list"), false), ((634, "tuple"), false), ((634, "dict"), false), ((634, "ValueError"), true), ((529, "int"), false), ((529, "bool"), false), ((529, "str"), false), ((529, "list"), false), ((529, "tuple"), false), ((529, "dict"), false), ((529, "ValueError"), true), ((613, "int"), false), ((613, "bool"), false), ((613, "str"), false), ((613, "list"), false), ((613, "tuple"), false), ((613, "dict"), false), ((613, "ValueError"), true), ((571, "int"), false), ((571, "bool"), false), ((571, "str"), false), ((571, "list"), false), ((571, "tuple"), false), ((571, "dict"), false), ((571, "ValueError"), true)], [256, 277, 193, 319, 109, 403, 298, 361, 340, 88, 130, 151, 214, 67, 235, 172, 382, 46, 592, 550, 508, 466, 487, 445, 424, 634, 529, 24, 613, 571]⟩
def cs_at : List Addr := [24, 46, 67, 88, 109, 130, 151, 172, 193, 214, 235, 256, 277, 298, 319, 340, 361, 382, 403, 424, 445, 466, 487, 508, 529, 550, 571, 592, 613, 634]
def cs_line : List Addr := [24, 46, 67, 88, 109, 130, 151, 172, 193, 214, 235, 256, 277, 298, 319, 340, 361, 382, 403, 424, 445, 466, 487, 508, 529, 550, 571, 592, 613, 634]
def cs_most : List Addr := [24, 46, 67, 88, 109, 130, 151, 172, 193, 214, 235, 256, 277, 298, 319, 340, 361, 382, 403, 424, 445, 466, 487, 508, 529, 550, 571, 592, 613, 634]
def cs_name : List Addr := [24, 46, 67, 88, 109, 130, 151, 172, 193, 214, 235, 256, 277, 298, 319, 340, 361, 382, 403, 424, 445, 466, 487, 508, 529, 550, 571, 592, 613, 634]
def cs_part : List Addr := [24, 46, 67, 88, 109, 130, 151, 172, 193, 214, 235, 256, 277, 298, 319, 340, 361, 382, 403, 424, 445, 466, 487, 508, 529, 550, 571, 592, 613, 634]
def cs_value : List Addr := [24, 46, 67, 88, 109, 130, 151, 172, 193, 214, 235, 256, 277, 298, 319, 340, 361, 382, 403, 424, 445, 466, 487, 508, 529, 550, 571, 592, 613, 634]
def cs_what : List Addr := [24, 46, 67, 88, 109, 130, 151, 172, 193, 214, 235, 256, 277, 298, 319, 340, 361, 382, 403, 424, 445, 466, 487, 508, 529, 550, 571, 592, 613, 634]
def cs_wish : List Addr := [24, 46, 67, 88, 109, 130, 151, 172, 193, 214, 235, 256, 277, 298, 319, 340, 361, 382, 403, 424, 445, 466, 487, 508, 529, 550, 571, 592, 613, 634]
def cs_word : List Addr := [24, 46, 67, 88, 109, 130, 151, 172, 193, 214, 235, 256, 277, 298, 319, 340, 361, 382, 403, 424, 445, 466, 487, 508, 529, 550, 571, 592, 613, 634]
def mgs : List (Str × Addr) := [(("_law_is_alone" : Str), 679), (("_law_names" : Str), 674), (("_law_parts" : Str), 669), (("_law_pen" : Str), 643), (("_law_draw" : Str), 650), (("_law_pick" : Str), 657), (("_law_some" : Str), 664), (("_law_two_right" : Str), 684), (("law" : Str), 691), (("BadBook" : Str), 256), (("BadCalendar" : Str), 277), (("BadCounts" : Str), 193), (("BadHouse" : Str), 319), (("BadLimit" : Str), 109), (("BadLine" : Str), 403), (("BadLines" : Str), 298), (("BadName" : Str), 361), (("BadNumber" : Str), 340), (("BadPlan" : Str), 88), (("BadPromise" : Str), 130), (("BadRow" : Str), 151), (("BadRule" : Str), 214), (("BadSite" : Str), 67), (("BadStay" : Str), 235), (("BadStock" : Str), 172), (("BadText" : Str), 382), (("BadWish" : Str), 46), (("Barred" : Str), 592), (("NoBay" : Str), 550), (("NoGate" : Str), 508), (("NoGuest" : Str), 466), (("NoHall" : Str), 487), (("NoSite" : Str), 445), (("NoWish" : Str), 424), (("Nothing" : Str), 634), (("Refused" : Str), 529), (("StayError" : Str), 24), (("TooMany" : Str), 613), (("Unbounded" : Str), 571)]
def nos : List Str := ["ValueError", "abs", "int", "isinstance", "len", "list", "range", "repr", "super"]
def fns : List (Addr × Addr × Str) := [(679, 678, ("_law_is_alone" : Str)), (674, 673, ("_law_names" : Str)), (669, 668, ("_law_parts" : Str)), (643, 642, ("_law_pen" : Str)), (650, 649, ("_law_draw" : Str)), (657, 656, ("_law_pick" : Str)), (664, 663, ("_law_some" : Str)), (684, 683, ("_law_two_right" : Str)), (691, 690, ("law" : Str))]
def mets : List (Addr × Str × Addr) := []
def gints : List (Str × Int) := []
def gstrs : List (Str × Str) := []
def topB (K : Frag) : Bool := (mgB K mgs) && ((noB K nos) && ((fnsB K fns) && ((methB K mets) && ((intB K gints) && ((strB K gstrs) && ((naB K cs_at "at") && ((naB K cs_line "line") && ((naB K cs_most "most") && ((naB K cs_name "name") && ((naB K cs_part "part") && ((naB K cs_value "value") && ((naB K cs_what "what") && ((naB K cs_wish "wish") && ((naB K cs_word "word") && ((isiB K isi) && ((errB K PySem.Challenge.pw_stayhouse_k00_errors_and_their_fields.main.file "BadBook.__init__" 256 253 252 241) && ((errB K PySem.Challenge.pw_stayhouse_k00_errors_and_their_fields.main.file "BadCalendar.__init__" 277 274 273 262) && ((errB K PySem.Challenge.pw_stayhouse_k00_errors_and_their_fields.main.file "BadCounts.__init__" 193 190 189 178) && ((errB K PySem.Challenge.pw_stayhouse_k00_errors_and_their_fields.main.file "BadHouse.__init__" 319 316 315 304) && ((errB K PySem.Challenge.pw_stayhouse_k00_errors_and_their_fields.main.file "BadLimit.__init__" 109 106 105 94) && ((errB K PySem.Challenge.pw_stayhouse_k00_errors_and_their_fields.main.file "BadLine.__init__" 403 400 399 388) && ((errB K PySem.Challenge.pw_stayhouse_k00_errors_and_their_fields.main.file "BadLines.__init__" 298 295 294 283) && ((errB K PySem.Challenge.pw_stayhouse_k00_errors_and_their_fields.main.file "BadName.__init__" 361 358 357 346) && ((errB K PySem.Challenge.pw_stayhouse_k00_errors_and_their_fields.main.file "BadNumber.__init__" 340 337 336 325) && ((errB K PySem.Challenge.pw_stayhouse_k00_errors_and_their_fields.main.file "BadPlan.__init__" 88 85 84 73) && ((errB K PySem.Challenge.pw_stayhouse_k00_errors_and_their_fields.main.file "BadPromise.__init__" 130 127 126 115) && ((errB K PySem.Challenge.pw_stayhouse_k00_errors_and_their_fields.main.file "BadRow.__init__" 151 148 147 136) && ((errB K PySem.Challenge.pw_stayhouse_k00_errors_and_their_fields.main.file "BadRule.__init__" 214 211 210 199) && ((errB K PySem.Challenge.pw_stayhouse_k00_errors_and_their_fields.main.file "BadSite.__init__" 67 64 63 52) && ((errB K PySem.Challenge.pw_stayhouse_k00_errors_and_their_fields.main.file "BadStay.__init__" 235 232 231 220) && ((errB K PySem.Challenge.pw_stayhouse_k00_errors_and_their_fields.main.file "BadStock.__init__" 172 169 168 157) && ((errB K PySem.Challenge.pw_stayhouse_k00_errors_and_their_fields.main.file "BadText.__init__" 382 379 378 367) && ((errB K PySem.Challenge.pw_stayhouse_k00_errors_and_their_fields.main.file "BadWish.__init__" 46 43 42 31) && ((errB K PySem.Challenge.pw_stayhouse_k00_errors_and_their_fields.main.file "Barred.__init__" 592 589 588 577) && ((errB K PySem.Challenge.pw_stayhouse_k00_errors_and_their_fields.main.file "NoBay.__init__" 550 547 546 535) && ((errB K PySem.Challenge.pw_stayhouse_k00_errors_and_their_fields.main.file "NoGate.__init__" 508 505 504 493) && ((errB K PySem.Challenge.pw_stayhouse_k00_errors_and_their_fields.main.file "NoGuest.__init__" 466 463 462 451) && ((errB K PySem.Challenge.pw_stayhouse_k00_errors_and_their_fields.main.file "NoHall.__init__" 487 484 483 472) && ((errB K PySem.Challenge.pw_stayhouse_k00_errors_and_their_fields.main.file "NoSite.__init__" 445 442 441 430) && ((errB K PySem.Challenge.pw_stayhouse_k00_errors_and_their_fields.main.file "NoWish.__init__" 424 421 420 409) && ((errB K PySem.Challenge.pw_stayhouse_k00_errors_and_their_fields.main.file "Nothing.__init__" 634 631 630 619) && ((errB K PySem.Challenge.pw_stayhouse_k00_errors_and_their_fields.main.file "Refused.__init__" 529 526 525 514) && ((errB K PySem.Challenge.pw_stayhouse_k00_errors_and_their_fields.main.file "TooMany.__init__" 613 610 609 598) && ((errB K PySem.Challenge.pw_stayhouse_k00_errors_and_their_fields.main.file "Unbounded.__init__" 571 568 567 556)))))))))))))))))))))))))))))))))))))))))))))
structure TopB (K : Frag) : Prop where
  mg : (mgB K mgs) = true
  no : (noB K nos) = true
  fn : (fnsB K fns) = true
  me : (methB K mets) = true
  it : (intB K gints) = true
  st : (strB K gstrs) = true
  na_at : (naB K cs_at "at") = true
  na_line : (naB K cs_line "line") = true
  na_most : (naB K cs_most "most") = true
  na_name : (naB K cs_name "name") = true
  na_part : (naB K cs_part "part") = true
  na_value : (naB K cs_value "value") = true
  na_what : (naB K cs_what "what") = true
  na_wish : (naB K cs_wish "wish") = true
  na_word : (naB K cs_word "word") = true
  isi : (isiB K isi) = true
  err_BadBook : (errB K PySem.Challenge.pw_stayhouse_k00_errors_and_their_fields.main.file "BadBook.__init__" 256 253 252 241) = true
  err_BadCalendar : (errB K PySem.Challenge.pw_stayhouse_k00_errors_and_their_fields.main.file "BadCalendar.__init__" 277 274 273 262) = true
  err_BadCounts : (errB K PySem.Challenge.pw_stayhouse_k00_errors_and_their_fields.main.file "BadCounts.__init__" 193 190 189 178) = true
  err_BadHouse : (errB K PySem.Challenge.pw_stayhouse_k00_errors_and_their_fields.main.file "BadHouse.__init__" 319 316 315 304) = true
  err_BadLimit : (errB K PySem.Challenge.pw_stayhouse_k00_errors_and_their_fields.main.file "BadLimit.__init__" 109 106 105 94) = true
  err_BadLine : (errB K PySem.Challenge.pw_stayhouse_k00_errors_and_their_fields.main.file "BadLine.__init__" 403 400 399 388) = true
  err_BadLines : (errB K PySem.Challenge.pw_stayhouse_k00_errors_and_their_fields.main.file "BadLines.__init__" 298 295 294 283) = true
  err_BadName : (errB K PySem.Challenge.pw_stayhouse_k00_errors_and_their_fields.main.file "BadName.__init__" 361 358 357 346) = true
  err_BadNumber : (errB K PySem.Challenge.pw_stayhouse_k00_errors_and_their_fields.main.file "BadNumber.__init__" 340 337 336 325) = true
  err_BadPlan : (errB K PySem.Challenge.pw_stayhouse_k00_errors_and_their_fields.main.file "BadPlan.__init__" 88 85 84 73) = true
  err_BadPromise : (errB K PySem.Challenge.pw_stayhouse_k00_errors_and_their_fields.main.file "BadPromise.__init__" 130 127 126 115) = true
  err_BadRow : (errB K PySem.Challenge.pw_stayhouse_k00_errors_and_their_fields.main.file "BadRow.__init__" 151 148 147 136) = true
  err_BadRule : (errB K PySem.Challenge.pw_stayhouse_k00_errors_and_their_fields.main.file "BadRule.__init__" 214 211 210 199) = true
  err_BadSite : (errB K PySem.Challenge.pw_stayhouse_k00_errors_and_their_fields.main.file "BadSite.__init__" 67 64 63 52) = true
  err_BadStay : (errB K PySem.Challenge.pw_stayhouse_k00_errors_and_their_fields.main.file "BadStay.__init__" 235 232 231 220) = true
  err_BadStock : (errB K PySem.Challenge.pw_stayhouse_k00_errors_and_their_fields.main.file "BadStock.__init__" 172 169 168 157) = true
  err_BadText : (errB K PySem.Challenge.pw_stayhouse_k00_errors_and_their_fields.main.file "BadText.__init__" 382 379 378 367) = true
  err_BadWish : (errB K PySem.Challenge.pw_stayhouse_k00_errors_and_their_fields.main.file "BadWish.__init__" 46 43 42 31) = true
  err_Barred : (errB K PySem.Challenge.pw_stayhouse_k00_errors_and_their_fields.main.file "Barred.__init__" 592 589 588 577) = true
  err_NoBay : (errB K PySem.Challenge.pw_stayhouse_k00_errors_and_their_fields.main.file "NoBay.__init__" 550 547 546 535) = true
  err_NoGate : (errB K PySem.Challenge.pw_stayhouse_k00_errors_and_their_fields.main.file "NoGate.__init__" 508 505 504 493) = true
  err_NoGuest : (errB K PySem.Challenge.pw_stayhouse_k00_errors_and_their_fields.main.file "NoGuest.__init__" 466 463 462 451) = true
  err_NoHall : (errB K PySem.Challenge.pw_stayhouse_k00_errors_and_their_fields.main.file "NoHall.__init__" 487 484 483 472) = true
  err_NoSite : (errB K PySem.Challenge.pw_stayhouse_k00_errors_and_their_fields.main.file "NoSite.__init__" 445 442 441 430) = true
  err_NoWish : (errB K PySem.Challenge.pw_stayhouse_k00_errors_and_their_fields.main.file "NoWish.__init__" 424 421 420 409) = true
  err_Nothing : (errB K PySem.Challenge.pw_stayhouse_k00_errors_and_their_fields.main.file "Nothing.__init__" 634 631 630 619) = true
  err_Refused : (errB K PySem.Challenge.pw_stayhouse_k00_errors_and_their_fields.main.file "Refused.__init__" 529 526 525 514) = true
  err_TooMany : (errB K PySem.Challenge.pw_stayhouse_k00_errors_and_their_fields.main.file "TooMany.__init__" 613 610 609 598) = true
  err_Unbounded : (errB K PySem.Challenge.pw_stayhouse_k00_errors_and_their_fields.main.file "Unbounded.__init__" 571 568 567 556) = true
theorem topB_of {K : Frag} (h : topB K = true) : TopB K := by
  unfold topB at h
  obtain ⟨h0, h⟩ := Bool.and_eq_true_iff.mp h
  obtain ⟨h1, h⟩ := Bool.and_eq_true_iff.mp h
  obtain ⟨h2, h⟩ := Bool.and_eq_true_iff.mp h
  obtain ⟨h3, h⟩ := Bool.and_eq_true_iff.mp h
  obtain ⟨h4, h⟩ := Bool.and_eq_true_iff.mp h
  obtain ⟨h5, h⟩ := Bool.and_eq_true_iff.mp h
  obtain ⟨h6, h⟩ := Bool.and_eq_true_iff.mp h
  obtain ⟨h7, h⟩ := Bool.and_eq_true_iff.mp h
  obtain ⟨h8, h⟩ := Bool.and_eq_true_iff.mp h
  obtain ⟨h9, h⟩ := Bool.and_eq_true_iff.mp h
  obtain ⟨h10, h⟩ := Bool.and_eq_true_iff.mp h
  obtain ⟨h11, h⟩ := Bool.and_eq_true_iff.mp h
  obtain ⟨h12, h⟩ := Bool.and_eq_true_iff.mp h
  obtain ⟨h13, h⟩ := Bool.and_eq_true_iff.mp h
  obtain ⟨h14, h⟩ := Bool.and_eq_true_iff.mp h
  obtain ⟨h15, h⟩ := Bool.and_eq_true_iff.mp h
  obtain ⟨h16, h⟩ := Bool.and_eq_true_iff.mp h
  obtain ⟨h17, h⟩ := Bool.and_eq_true_iff.mp h
  obtain ⟨h18, h⟩ := Bool.and_eq_true_iff.mp h
  obtain ⟨h19, h⟩ := Bool.and_eq_true_iff.mp h
  obtain ⟨h20, h⟩ := Bool.and_eq_true_iff.mp h
  obtain ⟨h21, h⟩ := Bool.and_eq_true_iff.mp h
  obtain ⟨h22, h⟩ := Bool.and_eq_true_iff.mp h
  obtain ⟨h23, h⟩ := Bool.and_eq_true_iff.mp h
  obtain ⟨h24, h⟩ := Bool.and_eq_true_iff.mp h
  obtain ⟨h25, h⟩ := Bool.and_eq_true_iff.mp h
  obtain ⟨h26, h⟩ := Bool.and_eq_true_iff.mp h
  obtain ⟨h27, h⟩ := Bool.and_eq_true_iff.mp h
  obtain ⟨h28, h⟩ := Bool.and_eq_true_iff.mp h
  obtain ⟨h29, h⟩ := Bool.and_eq_true_iff.mp h
  obtain ⟨h30, h⟩ := Bool.and_eq_true_iff.mp h
  obtain ⟨h31, h⟩ := Bool.and_eq_true_iff.mp h
  obtain ⟨h32, h⟩ := Bool.and_eq_true_iff.mp h
  obtain ⟨h33, h⟩ := Bool.and_eq_true_iff.mp h
  obtain ⟨h34, h⟩ := Bool.and_eq_true_iff.mp h
  obtain ⟨h35, h⟩ := Bool.and_eq_true_iff.mp h
  obtain ⟨h36, h⟩ := Bool.and_eq_true_iff.mp h
  obtain ⟨h37, h⟩ := Bool.and_eq_true_iff.mp h
  obtain ⟨h38, h⟩ := Bool.and_eq_true_iff.mp h
  obtain ⟨h39, h⟩ := Bool.and_eq_true_iff.mp h
  obtain ⟨h40, h⟩ := Bool.and_eq_true_iff.mp h
  obtain ⟨h41, h⟩ := Bool.and_eq_true_iff.mp h
  obtain ⟨h42, h⟩ := Bool.and_eq_true_iff.mp h
  obtain ⟨h43, h⟩ := Bool.and_eq_true_iff.mp h
  exact ⟨h0, h1, h2, h3, h4, h5, h6, h7, h8, h9, h10, h11, h12, h13, h14, h15, h16, h17, h18, h19, h20, h21, h22, h23, h24, h25, h26, h27, h28, h29, h30, h31, h32, h33, h34, h35, h36, h37, h38, h39, h40, h41, h42, h43, h⟩
structure Ad where
  d_l_is_alone : FuncData
  d_l_names : FuncData
  d_l_parts : FuncData
  d_l_pen : FuncData
  d_l_draw : FuncData
  d_l_pick : FuncData
  d_l_some : FuncData
  d_l_two_right : FuncData
  d_law : FuncData
  d_BadBook_init : FuncData
  d_BadCalendar_init : FuncData
  d_BadCounts_init : FuncData
  d_BadHouse_init : FuncData
  d_BadLimit_init : FuncData
  d_BadLine_init : FuncData
  d_BadLines_init : FuncData
  d_BadName_init : FuncData
  d_BadNumber_init : FuncData
  d_BadPlan_init : FuncData
  d_BadPromise_init : FuncData
  d_BadRow_init : FuncData
  d_BadRule_init : FuncData
  d_BadSite_init : FuncData
  d_BadStay_init : FuncData
  d_BadStock_init : FuncData
  d_BadText_init : FuncData
  d_BadWish_init : FuncData
  d_Barred_init : FuncData
  d_NoBay_init : FuncData
  d_NoGate_init : FuncData
  d_NoGuest_init : FuncData
  d_NoHall_init : FuncData
  d_NoSite_init : FuncData
  d_NoWish_init : FuncData
  d_Nothing_init : FuncData
  d_Refused_init : FuncData
  d_TooMany_init : FuncData
  d_Unbounded_init : FuncData
structure Tp (P : Program) (K : Frag) (mg : Str → Option Value) (a : Ad) : Prop where
  fun_l_is_alone : Fun K "_law_is_alone" "_law_is_alone" s_l_is_alone 679 a.d_l_is_alone
  kp_l_is_alone : PySem.W.keepIn K (.ref 679) = true
  mg__law_is_alone : mg "_law_is_alone" = some (.ref 679)
  fun_l_names : Fun K "_law_names" "_law_names" s_l_names 674 a.d_l_names
  kp_l_names : PySem.W.keepIn K (.ref 674) = true
  mg__law_names : mg "_law_names" = some (.ref 674)
  fun_l_parts : Fun K "_law_parts" "_law_parts" s_l_parts 669 a.d_l_parts
  kp_l_parts : PySem.W.keepIn K (.ref 669) = true
  mg__law_parts : mg "_law_parts" = some (.ref 669)
  fun_l_pen : Fun K "_law_pen" "_law_pen" s_l_pen 643 a.d_l_pen
  kp_l_pen : PySem.W.keepIn K (.ref 643) = true
  mg__law_pen : mg "_law_pen" = some (.ref 643)
  fun_l_draw : Fun K "_law_draw" "_law_draw" s_l_draw 650 a.d_l_draw
  kp_l_draw : PySem.W.keepIn K (.ref 650) = true
  mg__law_draw : mg "_law_draw" = some (.ref 650)
  fun_l_pick : Fun K "_law_pick" "_law_pick" s_l_pick 657 a.d_l_pick
  kp_l_pick : PySem.W.keepIn K (.ref 657) = true
  mg__law_pick : mg "_law_pick" = some (.ref 657)
  fun_l_some : Fun K "_law_some" "_law_some" s_l_some 664 a.d_l_some
  kp_l_some : PySem.W.keepIn K (.ref 664) = true
  mg__law_some : mg "_law_some" = some (.ref 664)
  fun_l_two_right : Fun K "_law_two_right" "_law_two_right" s_l_two_right 684 a.d_l_two_right
  kp_l_two_right : PySem.W.keepIn K (.ref 684) = true
  mg__law_two_right : mg "_law_two_right" = some (.ref 684)
  fun_law : Fun K "law" "law" s_law 691 a.d_law
  kp_law : PySem.W.keepIn K (.ref 691) = true
  mg_law : mg "law" = some (.ref 691)
  mg_BadBook : mg "BadBook" = some (.ref 256)
  mg_BadCalendar : mg "BadCalendar" = some (.ref 277)
  mg_BadCounts : mg "BadCounts" = some (.ref 193)
  mg_BadHouse : mg "BadHouse" = some (.ref 319)
  mg_BadLimit : mg "BadLimit" = some (.ref 109)
  mg_BadLine : mg "BadLine" = some (.ref 403)
  mg_BadLines : mg "BadLines" = some (.ref 298)
  mg_BadName : mg "BadName" = some (.ref 361)
  mg_BadNumber : mg "BadNumber" = some (.ref 340)
  mg_BadPlan : mg "BadPlan" = some (.ref 88)
  mg_BadPromise : mg "BadPromise" = some (.ref 130)
  mg_BadRow : mg "BadRow" = some (.ref 151)
  mg_BadRule : mg "BadRule" = some (.ref 214)
  mg_BadSite : mg "BadSite" = some (.ref 67)
  mg_BadStay : mg "BadStay" = some (.ref 235)
  mg_BadStock : mg "BadStock" = some (.ref 172)
  mg_BadText : mg "BadText" = some (.ref 382)
  mg_BadWish : mg "BadWish" = some (.ref 46)
  mg_Barred : mg "Barred" = some (.ref 592)
  mg_NoBay : mg "NoBay" = some (.ref 550)
  mg_NoGate : mg "NoGate" = some (.ref 508)
  mg_NoGuest : mg "NoGuest" = some (.ref 466)
  mg_NoHall : mg "NoHall" = some (.ref 487)
  mg_NoSite : mg "NoSite" = some (.ref 445)
  mg_NoWish : mg "NoWish" = some (.ref 424)
  mg_Nothing : mg "Nothing" = some (.ref 634)
  mg_Refused : mg "Refused" = some (.ref 529)
  mg_StayError : mg "StayError" = some (.ref 24)
  mg_TooMany : mg "TooMany" = some (.ref 613)
  mg_Unbounded : mg "Unbounded" = some (.ref 571)
  na_at : naB K cs_at "at" = true
  na_line : naB K cs_line "line" = true
  na_most : naB K cs_most "most" = true
  na_name : naB K cs_name "name" = true
  na_part : naB K cs_part "part" = true
  na_value : naB K cs_value "value" = true
  na_what : naB K cs_what "what" = true
  na_wish : naB K cs_wish "wish" = true
  na_word : naB K cs_word "word" = true
  isi : isiB K isi = true
  err_BadBook : ErrC P K mg 256 253 "__init__" "BadBook.__init__" s_BadBook_init a.d_BadBook_init
  err_BadCalendar : ErrC P K mg 277 274 "__init__" "BadCalendar.__init__" s_BadCalendar_init a.d_BadCalendar_init
  err_BadCounts : ErrC P K mg 193 190 "__init__" "BadCounts.__init__" s_BadCounts_init a.d_BadCounts_init
  err_BadHouse : ErrC P K mg 319 316 "__init__" "BadHouse.__init__" s_BadHouse_init a.d_BadHouse_init
  err_BadLimit : ErrC P K mg 109 106 "__init__" "BadLimit.__init__" s_BadLimit_init a.d_BadLimit_init
  err_BadLine : ErrC P K mg 403 400 "__init__" "BadLine.__init__" s_BadLine_init a.d_BadLine_init
  err_BadLines : ErrC P K mg 298 295 "__init__" "BadLines.__init__" s_BadLines_init a.d_BadLines_init
  err_BadName : ErrC P K mg 361 358 "__init__" "BadName.__init__" s_BadName_init a.d_BadName_init
  err_BadNumber : ErrC P K mg 340 337 "__init__" "BadNumber.__init__" s_BadNumber_init a.d_BadNumber_init
  err_BadPlan : ErrC P K mg 88 85 "__init__" "BadPlan.__init__" s_BadPlan_init a.d_BadPlan_init
  err_BadPromise : ErrC P K mg 130 127 "__init__" "BadPromise.__init__" s_BadPromise_init a.d_BadPromise_init
  err_BadRow : ErrC P K mg 151 148 "__init__" "BadRow.__init__" s_BadRow_init a.d_BadRow_init
  err_BadRule : ErrC P K mg 214 211 "__init__" "BadRule.__init__" s_BadRule_init a.d_BadRule_init
  err_BadSite : ErrC P K mg 67 64 "__init__" "BadSite.__init__" s_BadSite_init a.d_BadSite_init
  err_BadStay : ErrC P K mg 235 232 "__init__" "BadStay.__init__" s_BadStay_init a.d_BadStay_init
  err_BadStock : ErrC P K mg 172 169 "__init__" "BadStock.__init__" s_BadStock_init a.d_BadStock_init
  err_BadText : ErrC P K mg 382 379 "__init__" "BadText.__init__" s_BadText_init a.d_BadText_init
  err_BadWish : ErrC P K mg 46 43 "__init__" "BadWish.__init__" s_BadWish_init a.d_BadWish_init
  err_Barred : ErrC P K mg 592 589 "__init__" "Barred.__init__" s_Barred_init a.d_Barred_init
  err_NoBay : ErrC P K mg 550 547 "__init__" "NoBay.__init__" s_NoBay_init a.d_NoBay_init
  err_NoGate : ErrC P K mg 508 505 "__init__" "NoGate.__init__" s_NoGate_init a.d_NoGate_init
  err_NoGuest : ErrC P K mg 466 463 "__init__" "NoGuest.__init__" s_NoGuest_init a.d_NoGuest_init
  err_NoHall : ErrC P K mg 487 484 "__init__" "NoHall.__init__" s_NoHall_init a.d_NoHall_init
  err_NoSite : ErrC P K mg 445 442 "__init__" "NoSite.__init__" s_NoSite_init a.d_NoSite_init
  err_NoWish : ErrC P K mg 424 421 "__init__" "NoWish.__init__" s_NoWish_init a.d_NoWish_init
  err_Nothing : ErrC P K mg 634 631 "__init__" "Nothing.__init__" s_Nothing_init a.d_Nothing_init
  err_Refused : ErrC P K mg 529 526 "__init__" "Refused.__init__" s_Refused_init a.d_Refused_init
  err_TooMany : ErrC P K mg 613 610 "__init__" "TooMany.__init__" s_TooMany_init a.d_TooMany_init
  err_Unbounded : ErrC P K mg 571 568 "__init__" "Unbounded.__init__" s_Unbounded_init a.d_Unbounded_init
  no_ValueError : mg "ValueError" = none
  no_abs : mg "abs" = none
  no_int : mg "int" = none
  no_isinstance : mg "isinstance" = none
  no_len : mg "len" = none
  no_list : mg "list" = none
  no_range : mg "range" = none
  no_repr : mg "repr" = none
  no_super : mg "super" = none
section
variable {P : Program} {w : World} {K : Frag} {mg : Str → Option Value} {base : Heap} {a : Ad}
theorem b_l_pen_1 (T : Tp P K mg a) : Bk K a.d_l_pen ["_law_script"] 1 [] [.p 0] := bk_of T.fun_l_pen rfl fun _ _ _ _ _ _ us ws h1 h2 => match us, ws, h1, h2 with
  | [u0], [], _, _ => ⟨[u0], rfl, (.cons rfl .nil)⟩
theorem b_l_some_1 (T : Tp P K mg a) : Bk K a.d_l_some ["_law_pen_here"] 1 [] [.p 0] := bk_of T.fun_l_some rfl fun _ _ _ _ _ _ us ws h1 h2 => match us, ws, h1, h2 with
  | [u0], [], _, _ => ⟨[u0], rfl, (.cons rfl .nil)⟩
theorem b_l_parts_2 (T : Tp P K mg a) : Bk K a.d_l_parts ["_law_one_so", "_law_two_so"] 2 [] [.p 0, .p 1] := bk_of T.fun_l_parts rfl fun _ _ _ _ _ _ us ws h1 h2 => match us, ws, h1, h2 with
  | [u0, u1], [], _, _ => ⟨[u0, u1], rfl, (.cons rfl (.cons rfl .nil))⟩
theorem b_l_names_2 (T : Tp P K mg a) : Bk K a.d_l_names ["_law_one_so", "_law_two_so"] 2 [] [.p 0, .p 1] := bk_of T.fun_l_names rfl fun _ _ _ _ _ _ us ws h1 h2 => match us, ws, h1, h2 with
  | [u0, u1], [], _, _ => ⟨[u0, u1], rfl, (.cons rfl (.cons rfl .nil))⟩
theorem b_l_is_alone_2 (T : Tp P K mg a) : Bk K a.d_l_is_alone ["_law_made", "_law_kind"] 2 [] [.p 0, .p 1] := bk_of T.fun_l_is_alone rfl fun _ _ _ _ _ _ us ws h1 h2 => match us, ws, h1, h2 with
  | [u0, u1], [], _, _ => ⟨[u0, u1], rfl, (.cons rfl (.cons rfl .nil))⟩
theorem b_l_two_right_2 (T : Tp P K mg a) : Bk K a.d_l_two_right ["_law_one_so", "_law_two_so"] 2 [] [.p 0, .p 1] := bk_of T.fun_l_two_right rfl fun _ _ _ _ _ _ us ws h1 h2 => match us, ws, h1, h2 with
  | [u0, u1], [], _, _ => ⟨[u0, u1], rfl, (.cons rfl (.cons rfl .nil))⟩
theorem b_BadName_init_1_value (T : Tp P K mg a) : Bk K a.d_BadName_init ["self", "value"] 1 ["value"] [.p 0, .k 0] := ebk_of T.err_BadName rfl fun _ _ _ _ _ _ _ us ws h1 h2 => match us, ws, h1, h2 with
  | [u0], [w0], _, _ => ⟨[u0, w0], rfl, (.cons rfl (.cons rfl .nil))⟩
theorem b_BadName_init_2 (T : Tp P K mg a) : Bk K a.d_BadName_init ["self", "value"] 2 [] [.p 0, .p 1] := ebk_of T.err_BadName rfl fun _ _ _ _ _ _ _ us ws h1 h2 => match us, ws, h1, h2 with
  | [u0, u1], [], _, _ => ⟨[u0, u1], rfl, (.cons rfl (.cons rfl .nil))⟩
theorem b_BadNumber_init_1_value (T : Tp P K mg a) : Bk K a.d_BadNumber_init ["self", "value"] 1 ["value"] [.p 0, .k 0] := ebk_of T.err_BadNumber rfl fun _ _ _ _ _ _ _ us ws h1 h2 => match us, ws, h1, h2 with
  | [u0], [w0], _, _ => ⟨[u0, w0], rfl, (.cons rfl (.cons rfl .nil))⟩
theorem b_BadNumber_init_2 (T : Tp P K mg a) : Bk K a.d_BadNumber_init ["self", "value"] 2 [] [.p 0, .p 1] := ebk_of T.err_BadNumber rfl fun _ _ _ _ _ _ _ us ws h1 h2 => match us, ws, h1, h2 with
  | [u0, u1], [], _, _ => ⟨[u0, u1], rfl, (.cons rfl (.cons rfl .nil))⟩
theorem b_NoSite_init_1_name (T : Tp P K mg a) : Bk K a.d_NoSite_init ["self", "name"] 1 ["name"] [.p 0, .k 0] := ebk_of T.err_NoSite rfl fun _ _ _ _ _ _ _ us ws h1 h2 => match us, ws, h1, h2 with
  | [u0], [w0], _, _ => ⟨[u0, w0], rfl, (.cons rfl (.cons rfl .nil))⟩
theorem b_NoSite_init_2 (T : Tp P K mg a) : Bk K a.d_NoSite_init ["self", "name"] 2 [] [.p 0, .p 1] := ebk_of T.err_NoSite rfl fun _ _ _ _ _ _ _ us ws h1 h2 => match us, ws, h1, h2 with
  | [u0, u1], [], _, _ => ⟨[u0, u1], rfl, (.cons rfl (.cons rfl .nil))⟩
theorem b_NoWish_init_1_name (T : Tp P K mg a) : Bk K a.d_NoWish_init ["self", "name"] 1 ["name"] [.p 0, .k 0] := ebk_of T.err_NoWish rfl fun _ _ _ _ _ _ _ us ws h1 h2 => match us, ws, h1, h2 with
  | [u0], [w0], _, _ => ⟨[u0, w0], rfl, (.cons rfl (.cons rfl .nil))⟩
theorem b_NoWish_init_2 (T : Tp P K mg a) : Bk K a.d_NoWish_init ["self", "name"] 2 [] [.p 0, .p 1] := ebk_of T.err_NoWish rfl fun _ _ _ _ _ _ _ us ws h1 h2 => match us, ws, h1, h2 with
  | [u0, u1], [], _, _ => ⟨[u0, u1], rfl, (.cons rfl (.cons rfl .nil))⟩
theorem b_NoHall_init_1_name (T : Tp P K mg a) : Bk K a.d_NoHall_init ["self", "name"] 1 ["name"] [.p 0, .k 0] := ebk_of T.err_NoHall rfl fun _ _ _ _ _ _ _ us ws h1 h2 => match us, ws, h1, h2 with
  | [u0], [w0], _, _ => ⟨[u0, w0], rfl, (.cons rfl (.cons rfl .nil))⟩
theorem b_NoHall_init_2 (T : Tp P K mg a) : Bk K a.d_NoHall_init ["self", "name"] 2 [] [.p 0, .p 1] := ebk_of T.err_NoHall rfl fun _ _ _ _ _ _ _ us ws h1 h2 => match us, ws, h1, h2 with
  | [u0, u1], [], _, _ => ⟨[u0, u1], rfl, (.cons rfl (.cons rfl .nil))⟩
theorem b_NoGuest_init_1_name (T : Tp P K mg a) : Bk K a.d_NoGuest_init ["self", "name"] 1 ["name"] [.p 0, .k 0] := ebk_of T.err_NoGuest rfl fun _ _ _ _ _ _ _ us ws h1 h2 => match us, ws, h1, h2 with
  | [u0], [w0], _, _ => ⟨[u0, w0], rfl, (.cons rfl (.cons rfl .nil))⟩
theorem b_NoGuest_init_2 (T : Tp P K mg a) : Bk K a.d_NoGuest_init ["self", "name"] 2 [] [.p 0, .p 1] := ebk_of T.err_NoGuest rfl fun _ _ _ _ _ _ _ us ws h1 h2 => match us, ws, h1, h2 with
  | [u0, u1], [], _, _ => ⟨[u0, u1], rfl, (.cons rfl (.cons rfl .nil))⟩
theorem b_NoGate_init_1_name (T : Tp P K mg a) : Bk K a.d_NoGate_init ["self", "name"] 1 ["name"] [.p 0, .k 0] := ebk_of T.err_NoGate rfl fun _ _ _ _ _ _ _ us ws h1 h2 => match us, ws, h1, h2 with
  | [u0], [w0], _, _ => ⟨[u0, w0], rfl, (.cons rfl (.cons rfl .nil))⟩
theorem b_NoGate_init_2 (T : Tp P K mg a) : Bk K a.d_NoGate_init ["self", "name"] 2 [] [.p 0, .p 1] := ebk_of T.err_NoGate rfl fun _ _ _ _ _ _ _ us ws h1 h2 => match us, ws, h1, h2 with
  | [u0, u1], [], _, _ => ⟨[u0, u1], rfl, (.cons rfl (.cons rfl .nil))⟩
theorem b_BadLine_init_1_word (T : Tp P K mg a) : Bk K a.d_BadLine_init ["self", "word"] 1 ["word"] [.p 0, .k 0] := ebk_of T.err_BadLine rfl fun _ _ _ _ _ _ _ us ws h1 h2 => match us, ws, h1, h2 with
  | [u0], [w0], _, _ => ⟨[u0, w0], rfl, (.cons rfl (.cons rfl .nil))⟩
theorem b_BadLine_init_2 (T : Tp P K mg a) : Bk K a.d_BadLine_init ["self", "word"] 2 [] [.p 0, .p 1] := ebk_of T.err_BadLine rfl fun _ _ _ _ _ _ _ us ws h1 h2 => match us, ws, h1, h2 with
  | [u0, u1], [], _, _ => ⟨[u0, u1], rfl, (.cons rfl (.cons rfl .nil))⟩
theorem b_BadRow_init_1_at (T : Tp P K mg a) : Bk K a.d_BadRow_init ["self", "at"] 1 ["at"] [.p 0, .k 0] := ebk_of T.err_BadRow rfl fun _ _ _ _ _ _ _ us ws h1 h2 => match us, ws, h1, h2 with
  | [u0], [w0], _, _ => ⟨[u0, w0], rfl, (.cons rfl (.cons rfl .nil))⟩
theorem b_BadRow_init_2 (T : Tp P K mg a) : Bk K a.d_BadRow_init ["self", "at"] 2 [] [.p 0, .p 1] := ebk_of T.err_BadRow rfl fun _ _ _ _ _ _ _ us ws h1 h2 => match us, ws, h1, h2 with
  | [u0, u1], [], _, _ => ⟨[u0, u1], rfl, (.cons rfl (.cons rfl .nil))⟩
theorem b_NoBay_init_1_wish (T : Tp P K mg a) : Bk K a.d_NoBay_init ["self", "wish"] 1 ["wish"] [.p 0, .k 0] := ebk_of T.err_NoBay rfl fun _ _ _ _ _ _ _ us ws h1 h2 => match us, ws, h1, h2 with
  | [u0], [w0], _, _ => ⟨[u0, w0], rfl, (.cons rfl (.cons rfl .nil))⟩
theorem b_NoBay_init_2 (T : Tp P K mg a) : Bk K a.d_NoBay_init ["self", "wish"] 2 [] [.p 0, .p 1] := ebk_of T.err_NoBay rfl fun _ _ _ _ _ _ _ us ws h1 h2 => match us, ws, h1, h2 with
  | [u0, u1], [], _, _ => ⟨[u0, u1], rfl, (.cons rfl (.cons rfl .nil))⟩
theorem b_Barred_init_1_word (T : Tp P K mg a) : Bk K a.d_Barred_init ["self", "word"] 1 ["word"] [.p 0, .k 0] := ebk_of T.err_Barred rfl fun _ _ _ _ _ _ _ us ws h1 h2 => match us, ws, h1, h2 with
  | [u0], [w0], _, _ => ⟨[u0, w0], rfl, (.cons rfl (.cons rfl .nil))⟩
theorem b_Barred_init_2 (T : Tp P K mg a) : Bk K a.d_Barred_init ["self", "word"] 2 [] [.p 0, .p 1] := ebk_of T.err_Barred rfl fun _ _ _ _ _ _ _ us ws h1 h2 => match us, ws, h1, h2 with
  | [u0, u1], [], _, _ => ⟨[u0, u1], rfl, (.cons rfl (.cons rfl .nil))⟩
theorem b_BadSite_init_1_part (T : Tp P K mg a) : Bk K a.d_BadSite_init ["self", "part"] 1 ["part"] [.p 0, .k 0] := ebk_of T.err_BadSite rfl fun _ _ _ _ _ _ _ us ws h1 h2 => match us, ws, h1, h2 with
  | [u0], [w0], _, _ => ⟨[u0, w0], rfl, (.cons rfl (.cons rfl .nil))⟩
theorem b_BadSite_init_2 (T : Tp P K mg a) : Bk K a.d_BadSite_init ["self", "part"] 2 [] [.p 0, .p 1] := ebk_of T.err_BadSite rfl fun _ _ _ _ _ _ _ us ws h1 h2 => match us, ws, h1, h2 with
  | [u0, u1], [], _, _ => ⟨[u0, u1], rfl, (.cons rfl (.cons rfl .nil))⟩
theorem b_BadWish_init_1_part (T : Tp P K mg a) : Bk K a.d_BadWish_init ["self", "part"] 1 ["part"] [.p 0, .k 0] := ebk_of T.err_BadWish rfl fun _ _ _ _ _ _ _ us ws h1 h2 => match us, ws, h1, h2 with
  | [u0], [w0], _, _ => ⟨[u0, w0], rfl, (.cons rfl (.cons rfl .nil))⟩
theorem b_BadWish_init_2 (T : Tp P K mg a) : Bk K a.d_BadWish_init ["self", "part"] 2 [] [.p 0, .p 1] := ebk_of T.err_BadWish rfl fun _ _ _ _ _ _ _ us ws h1 h2 => match us, ws, h1, h2 with
  | [u0, u1], [], _, _ => ⟨[u0, u1], rfl, (.cons rfl (.cons rfl .nil))⟩
theorem b_BadLimit_init_1_part (T : Tp P K mg a) : Bk K a.d_BadLimit_init ["self", "part"] 1 ["part"] [.p 0, .k 0] := ebk_of T.err_BadLimit rfl fun _ _ _ _ _ _ _ us ws h1 h2 => match us, ws, h1, h2 with
  | [u0], [w0], _, _ => ⟨[u0, w0], rfl, (.cons rfl (.cons rfl .nil))⟩
theorem b_BadLimit_init_2 (T : Tp P K mg a) : Bk K a.d_BadLimit_init ["self", "part"] 2 [] [.p 0, .p 1] := ebk_of T.err_BadLimit rfl fun _ _ _ _ _ _ _ us ws h1 h2 => match us, ws, h1, h2 with
  | [u0, u1], [], _, _ => ⟨[u0, u1], rfl, (.cons rfl (.cons rfl .nil))⟩
theorem b_BadPlan_init_1_part (T : Tp P K mg a) : Bk K a.d_BadPlan_init ["self", "part"] 1 ["part"] [.p 0, .k 0] := ebk_of T.err_BadPlan rfl fun _ _ _ _ _ _ _ us ws h1 h2 => match us, ws, h1, h2 with
  | [u0], [w0], _, _ => ⟨[u0, w0], rfl, (.cons rfl (.cons rfl .nil))⟩
theorem b_BadPlan_init_2 (T : Tp P K mg a) : Bk K a.d_BadPlan_init ["self", "part"] 2 [] [.p 0, .p 1] := ebk_of T.err_BadPlan rfl fun _ _ _ _ _ _ _ us ws h1 h2 => match us, ws, h1, h2 with
  | [u0, u1], [], _, _ => ⟨[u0, u1], rfl, (.cons rfl (.cons rfl .nil))⟩
theorem b_BadStock_init_1_part (T : Tp P K mg a) : Bk K a.d_BadStock_init ["self", "part"] 1 ["part"] [.p 0, .k 0] := ebk_of T.err_BadStock rfl fun _ _ _ _ _ _ _ us ws h1 h2 => match us, ws, h1, h2 with
  | [u0], [w0], _, _ => ⟨[u0, w0], rfl, (.cons rfl (.cons rfl .nil))⟩
theorem b_BadStock_init_2 (T : Tp P K mg a) : Bk K a.d_BadStock_init ["self", "part"] 2 [] [.p 0, .p 1] := ebk_of T.err_BadStock rfl fun _ _ _ _ _ _ _ us ws h1 h2 => match us, ws, h1, h2 with
  | [u0, u1], [], _, _ => ⟨[u0, u1], rfl, (.cons rfl (.cons rfl .nil))⟩
theorem b_BadPromise_init_1_part (T : Tp P K mg a) : Bk K a.d_BadPromise_init ["self", "part"] 1 ["part"] [.p 0, .k 0] := ebk_of T.err_BadPromise rfl fun _ _ _ _ _ _ _ us ws h1 h2 => match us, ws, h1, h2 with
  | [u0], [w0], _, _ => ⟨[u0, w0], rfl, (.cons rfl (.cons rfl .nil))⟩
theorem b_BadPromise_init_2 (T : Tp P K mg a) : Bk K a.d_BadPromise_init ["self", "part"] 2 [] [.p 0, .p 1] := ebk_of T.err_BadPromise rfl fun _ _ _ _ _ _ _ us ws h1 h2 => match us, ws, h1, h2 with
  | [u0, u1], [], _, _ => ⟨[u0, u1], rfl, (.cons rfl (.cons rfl .nil))⟩
theorem b_BadRule_init_1_part (T : Tp P K mg a) : Bk K a.d_BadRule_init ["self", "part"] 1 ["part"] [.p 0, .k 0] := ebk_of T.err_BadRule rfl fun _ _ _ _ _ _ _ us ws h1 h2 => match us, ws, h1, h2 with
  | [u0], [w0], _, _ => ⟨[u0, w0], rfl, (.cons rfl (.cons rfl .nil))⟩
theorem b_BadRule_init_2 (T : Tp P K mg a) : Bk K a.d_BadRule_init ["self", "part"] 2 [] [.p 0, .p 1] := ebk_of T.err_BadRule rfl fun _ _ _ _ _ _ _ us ws h1 h2 => match us, ws, h1, h2 with
  | [u0, u1], [], _, _ => ⟨[u0, u1], rfl, (.cons rfl (.cons rfl .nil))⟩
theorem b_BadCounts_init_1_part (T : Tp P K mg a) : Bk K a.d_BadCounts_init ["self", "part"] 1 ["part"] [.p 0, .k 0] := ebk_of T.err_BadCounts rfl fun _ _ _ _ _ _ _ us ws h1 h2 => match us, ws, h1, h2 with
  | [u0], [w0], _, _ => ⟨[u0, w0], rfl, (.cons rfl (.cons rfl .nil))⟩
theorem b_BadCounts_init_2 (T : Tp P K mg a) : Bk K a.d_BadCounts_init ["self", "part"] 2 [] [.p 0, .p 1] := ebk_of T.err_BadCounts rfl fun _ _ _ _ _ _ _ us ws h1 h2 => match us, ws, h1, h2 with
  | [u0, u1], [], _, _ => ⟨[u0, u1], rfl, (.cons rfl (.cons rfl .nil))⟩
theorem b_BadBook_init_1_part (T : Tp P K mg a) : Bk K a.d_BadBook_init ["self", "part"] 1 ["part"] [.p 0, .k 0] := ebk_of T.err_BadBook rfl fun _ _ _ _ _ _ _ us ws h1 h2 => match us, ws, h1, h2 with
  | [u0], [w0], _, _ => ⟨[u0, w0], rfl, (.cons rfl (.cons rfl .nil))⟩
theorem b_BadBook_init_2 (T : Tp P K mg a) : Bk K a.d_BadBook_init ["self", "part"] 2 [] [.p 0, .p 1] := ebk_of T.err_BadBook rfl fun _ _ _ _ _ _ _ us ws h1 h2 => match us, ws, h1, h2 with
  | [u0, u1], [], _, _ => ⟨[u0, u1], rfl, (.cons rfl (.cons rfl .nil))⟩
theorem b_BadStay_init_1_part (T : Tp P K mg a) : Bk K a.d_BadStay_init ["self", "part"] 1 ["part"] [.p 0, .k 0] := ebk_of T.err_BadStay rfl fun _ _ _ _ _ _ _ us ws h1 h2 => match us, ws, h1, h2 with
  | [u0], [w0], _, _ => ⟨[u0, w0], rfl, (.cons rfl (.cons rfl .nil))⟩
theorem b_BadStay_init_2 (T : Tp P K mg a) : Bk K a.d_BadStay_init ["self", "part"] 2 [] [.p 0, .p 1] := ebk_of T.err_BadStay rfl fun _ _ _ _ _ _ _ us ws h1 h2 => match us, ws, h1, h2 with
  | [u0, u1], [], _, _ => ⟨[u0, u1], rfl, (.cons rfl (.cons rfl .nil))⟩
theorem b_BadLines_init_1_part (T : Tp P K mg a) : Bk K a.d_BadLines_init ["self", "part"] 1 ["part"] [.p 0, .k 0] := ebk_of T.err_BadLines rfl fun _ _ _ _ _ _ _ us ws h1 h2 => match us, ws, h1, h2 with
  | [u0], [w0], _, _ => ⟨[u0, w0], rfl, (.cons rfl (.cons rfl .nil))⟩
theorem b_BadLines_init_2 (T : Tp P K mg a) : Bk K a.d_BadLines_init ["self", "part"] 2 [] [.p 0, .p 1] := ebk_of T.err_BadLines rfl fun _ _ _ _ _ _ _ us ws h1 h2 => match us, ws, h1, h2 with
  | [u0, u1], [], _, _ => ⟨[u0, u1], rfl, (.cons rfl (.cons rfl .nil))⟩
theorem b_BadCalendar_init_1_part (T : Tp P K mg a) : Bk K a.d_BadCalendar_init ["self", "part"] 1 ["part"] [.p 0, .k 0] := ebk_of T.err_BadCalendar rfl fun _ _ _ _ _ _ _ us ws h1 h2 => match us, ws, h1, h2 with
  | [u0], [w0], _, _ => ⟨[u0, w0], rfl, (.cons rfl (.cons rfl .nil))⟩
theorem b_BadCalendar_init_2 (T : Tp P K mg a) : Bk K a.d_BadCalendar_init ["self", "part"] 2 [] [.p 0, .p 1] := ebk_of T.err_BadCalendar rfl fun _ _ _ _ _ _ _ us ws h1 h2 => match us, ws, h1, h2 with
  | [u0, u1], [], _, _ => ⟨[u0, u1], rfl, (.cons rfl (.cons rfl .nil))⟩
theorem b_Unbounded_init_1_part (T : Tp P K mg a) : Bk K a.d_Unbounded_init ["self", "part"] 1 ["part"] [.p 0, .k 0] := ebk_of T.err_Unbounded rfl fun _ _ _ _ _ _ _ us ws h1 h2 => match us, ws, h1, h2 with
  | [u0], [w0], _, _ => ⟨[u0, w0], rfl, (.cons rfl (.cons rfl .nil))⟩
theorem b_Unbounded_init_2 (T : Tp P K mg a) : Bk K a.d_Unbounded_init ["self", "part"] 2 [] [.p 0, .p 1] := ebk_of T.err_Unbounded rfl fun _ _ _ _ _ _ _ us ws h1 h2 => match us, ws, h1, h2 with
  | [u0, u1], [], _, _ => ⟨[u0, u1], rfl, (.cons rfl (.cons rfl .nil))⟩
theorem b_BadHouse_init_1_part (T : Tp P K mg a) : Bk K a.d_BadHouse_init ["self", "part"] 1 ["part"] [.p 0, .k 0] := ebk_of T.err_BadHouse rfl fun _ _ _ _ _ _ _ us ws h1 h2 => match us, ws, h1, h2 with
  | [u0], [w0], _, _ => ⟨[u0, w0], rfl, (.cons rfl (.cons rfl .nil))⟩
theorem b_BadHouse_init_2 (T : Tp P K mg a) : Bk K a.d_BadHouse_init ["self", "part"] 2 [] [.p 0, .p 1] := ebk_of T.err_BadHouse rfl fun _ _ _ _ _ _ _ us ws h1 h2 => match us, ws, h1, h2 with
  | [u0, u1], [], _, _ => ⟨[u0, u1], rfl, (.cons rfl (.cons rfl .nil))⟩
theorem b_l_pick_2 (T : Tp P K mg a) : Bk K a.d_l_pick ["_law_pen_here", "_law_some_here"] 2 [] [.p 0, .p 1] := bk_of T.fun_l_pick rfl fun _ _ _ _ _ _ us ws h1 h2 => match us, ws, h1, h2 with
  | [u0, u1], [], _, _ => ⟨[u0, u1], rfl, (.cons rfl (.cons rfl .nil))⟩
theorem b_l_draw_2 (T : Tp P K mg a) : Bk K a.d_l_draw ["_law_pen_here", "_law_many"] 2 [] [.p 0, .p 1] := bk_of T.fun_l_draw rfl fun _ _ _ _ _ _ us ws h1 h2 => match us, ws, h1, h2 with
  | [u0, u1], [], _, _ => ⟨[u0, u1], rfl, (.cons rfl (.cons rfl .nil))⟩
theorem b_Refused_init_1_wish_part (T : Tp P K mg a) : Bk K a.d_Refused_init ["self", "part", "wish"] 1 ["wish", "part"] [.p 0, .k 1, .k 0] := ebk_of T.err_Refused rfl fun _ _ _ _ _ _ _ us ws h1 h2 => match us, ws, h1, h2 with
  | [u0], [w0, w1], _, _ => ⟨[u0, w1, w0], rfl, (.cons rfl (.cons rfl (.cons rfl .nil)))⟩
theorem b_Refused_init_3 (T : Tp P K mg a) : Bk K a.d_Refused_init ["self", "part", "wish"] 3 [] [.p 0, .p 1, .p 2] := ebk_of T.err_Refused rfl fun _ _ _ _ _ _ _ us ws h1 h2 => match us, ws, h1, h2 with
  | [u0, u1, u2], [], _, _ => ⟨[u0, u1, u2], rfl, (.cons rfl (.cons rfl (.cons rfl .nil)))⟩
theorem b_BadText_init_1_word_line (T : Tp P K mg a) : Bk K a.d_BadText_init ["self", "line", "word"] 1 ["word", "line"] [.p 0, .k 1, .k 0] := ebk_of T.err_BadText rfl fun _ _ _ _ _ _ _ us ws h1 h2 => match us, ws, h1, h2 with
  | [u0], [w0, w1], _, _ => ⟨[u0, w1, w0], rfl, (.cons rfl (.cons rfl (.cons rfl .nil)))⟩
theorem b_BadText_init_3 (T : Tp P K mg a) : Bk K a.d_BadText_init ["self", "line", "word"] 3 [] [.p 0, .p 1, .p 2] := ebk_of T.err_BadText rfl fun _ _ _ _ _ _ _ us ws h1 h2 => match us, ws, h1, h2 with
  | [u0, u1, u2], [], _, _ => ⟨[u0, u1, u2], rfl, (.cons rfl (.cons rfl (.cons rfl .nil)))⟩
theorem b_TooMany_init_1_most_what (T : Tp P K mg a) : Bk K a.d_TooMany_init ["self", "what", "most"] 1 ["most", "what"] [.p 0, .k 1, .k 0] := ebk_of T.err_TooMany rfl fun _ _ _ _ _ _ _ us ws h1 h2 => match us, ws, h1, h2 with
  | [u0], [w0, w1], _, _ => ⟨[u0, w1, w0], rfl, (.cons rfl (.cons rfl (.cons rfl .nil)))⟩
theorem b_TooMany_init_3 (T : Tp P K mg a) : Bk K a.d_TooMany_init ["self", "what", "most"] 3 [] [.p 0, .p 1, .p 2] := ebk_of T.err_TooMany rfl fun _ _ _ _ _ _ _ us ws h1 h2 => match us, ws, h1, h2 with
  | [u0, u1, u2], [], _, _ => ⟨[u0, u1, u2], rfl, (.cons rfl (.cons rfl (.cons rfl .nil)))⟩
theorem x_BadBook (T : Tp P K mg a) : FnOk P w K mg base CX0 1 253 a.d_BadBook_init ["self", "part"] (spX 256 ["part"]) := fn_err (k := 0) T.err_BadBook sc_BadBook_init rfl rfl rfl rfl (fun _ _ _ => ⟨_, rfl⟩) (fun _ _ _ => rfl) (fun cda cc A outer s H b ws Q hl he hq => rest1 T.err_BadBook.oex (naB_of T.na_part 256 (by decide)) (pv 0) (pv 1) rfl hl he hq)
theorem x_BadCalendar (T : Tp P K mg a) : FnOk P w K mg base CX0 1 274 a.d_BadCalendar_init ["self", "part"] (spX 277 ["part"]) := fn_err (k := 0) T.err_BadCalendar sc_BadCalendar_init rfl rfl rfl rfl (fun _ _ _ => ⟨_, rfl⟩) (fun _ _ _ => rfl) (fun cda cc A outer s H b ws Q hl he hq => rest1 T.err_BadCalendar.oex (naB_of T.na_part 277 (by decide)) (pv 0) (pv 1) rfl hl he hq)
theorem x_BadCounts (T : Tp P K mg a) : FnOk P w K mg base CX0 1 190 a.d_BadCounts_init ["self", "part"] (spX 193 ["part"]) := fn_err (k := 0) T.err_BadCounts sc_BadCounts_init rfl rfl rfl rfl (fun _ _ _ => ⟨_, rfl⟩) (fun _ _ _ => rfl) (fun cda cc A outer s H b ws Q hl he hq => rest1 T.err_BadCounts.oex (naB_of T.na_part 193 (by decide)) (pv 0) (pv 1) rfl hl he hq)
theorem x_BadHouse (T : Tp P K mg a) : FnOk P w K mg base CX0 1 316 a.d_BadHouse_init ["self", "part"] (spX 319 ["part"]) := fn_err (k := 0) T.err_BadHouse sc_BadHouse_init rfl rfl rfl rfl (fun _ _ _ => ⟨_, rfl⟩) (fun _ _ _ => rfl) (fun cda cc A outer s H b ws Q hl he hq => rest1 T.err_BadHouse.oex (naB_of T.na_part 319 (by decide)) (pv 0) (pv 1) rfl hl he hq)
theorem x_BadLimit (T : Tp P K mg a) : FnOk P w K mg base CX0 1 106 a.d_BadLimit_init ["self", "part"] (spX 109 ["part"]) := fn_err (k := 0) T.err_BadLimit sc_BadLimit_init rfl rfl rfl rfl (fun _ _ _ => ⟨_, rfl⟩) (fun _ _ _ => rfl) (fun cda cc A outer s H b ws Q hl he hq => rest1 T.err_BadLimit.oex (naB_of T.na_part 109 (by decide)) (pv 0) (pv 1) rfl hl he hq)
theorem x_BadLine (T : Tp P K mg a) : FnOk P w K mg base CX0 1 400 a.d_BadLine_init ["self", "word"] (spX 403 ["word"]) := fn_err (k := 0) T.err_BadLine sc_BadLine_init rfl rfl rfl rfl (fun _ _ _ => ⟨_, rfl⟩) (fun _ _ _ => rfl) (fun cda cc A outer s H b ws Q hl he hq => rest1 T.err_BadLine.oex (naB_of T.na_word 403 (by decide)) (pv 0) (pv 1) rfl hl he hq)
theorem x_BadLines (T : Tp P K mg a) : FnOk P w K mg base CX0 1 295 a.d_BadLines_init ["self", "part"] (spX 298 ["part"]) := fn_err (k := 0) T.err_BadLines sc_BadLines_init rfl rfl rfl rfl (fun _ _ _ => ⟨_, rfl⟩) (fun _ _ _ => rfl) (fun cda cc A outer s H b ws Q hl he hq => rest1 T.err_BadLines.oex (naB_of T.na_part 298 (by decide)) (pv 0) (pv 1) rfl hl he hq)
theorem x_BadName (T : Tp P K mg a) : FnOk P w K mg base CX0 1 358 a.d_BadName_init ["self", "value"] (spX 361 ["value"]) := fn_err (k := 0) T.err_BadName sc_BadName_init rfl rfl rfl rfl (fun _ _ _ => ⟨_, rfl⟩) (fun _ _ _ => rfl) (fun cda cc A outer s H b ws Q hl he hq => rest1 T.err_BadName.oex (naB_of T.na_value 361 (by decide)) (pv 0) (pv 1) rfl hl he hq)
theorem x_BadNumber (T : Tp P K mg a) : FnOk P w K mg base CX0 1 337 a.d_BadNumber_init ["self", "value"] (spX 340 ["value"]) := fn_err (k := 0) T.err_BadNumber sc_BadNumber_init rfl rfl rfl rfl (fun _ _ _ => ⟨_, rfl⟩) (fun _ _ _ => rfl) (fun cda cc A outer s H b ws Q hl he hq => rest1 T.err_BadNumber.oex (naB_of T.na_value 340 (by decide)) (pv 0) (pv 1) rfl hl he hq)
theorem x_BadPlan (T : Tp P K mg a) : FnOk P w K mg base CX0 1 85 a.d_BadPlan_init ["self", "part"] (spX 88 ["part"]) := fn_err (k := 0) T.err_BadPlan sc_BadPlan_init rfl rfl rfl rfl (fun _ _ _ => ⟨_, rfl⟩) (fun _ _ _ => rfl) (fun cda cc A outer s H b ws Q hl he hq => rest1 T.err_BadPlan.oex (naB_of T.na_part 88 (by decide)) (pv 0) (pv 1) rfl hl he hq)
theorem x_BadPromise (T : Tp P K mg a) : FnOk P w K mg base CX0 1 127 a.d_BadPromise_init ["self", "part"] (spX 130 ["part"]) := fn_err (k := 0) T.err_BadPromise sc_BadPromise_init rfl rfl rfl rfl (fun _ _ _ => ⟨_, rfl⟩) (fun _ _ _ => rfl) (fun cda cc A outer s H b ws Q hl he hq => rest1 T.err_BadPromise.oex (naB_of T.na_part 130 (by decide)) (pv 0) (pv 1) rfl hl he hq)
theorem x_BadRow (T : Tp P K mg a) : FnOk P w K mg base CX0 1 148 a.d_BadRow_init ["self", "at"] (spX 151 ["at"]) := fn_err (k := 0) T.err_BadRow sc_BadRow_init rfl rfl rfl rfl (fun _ _ _ => ⟨_, rfl⟩) (fun _ _ _ => rfl) (fun cda cc A outer s H b ws Q hl he hq => rest1 T.err_BadRow.oex (naB_of T.na_at 151 (by decide)) (pv 0) (pv 1) rfl hl he hq)
theorem x_BadRule (T : Tp P K mg a) : FnOk P w K mg base CX0 1 211 a.d_BadRule_init ["self", "part"] (spX 214 ["part"]) := fn_err (k := 0) T.err_BadRule sc_BadRule_init rfl rfl rfl rfl (fun _ _ _ => ⟨_, rfl⟩) (fun _ _ _ => rfl) (fun cda cc A outer s H b ws Q hl he hq => rest1 T.err_BadRule.oex (naB_of T.na_part 214 (by decide)) (pv 0) (pv 1) rfl hl he hq)
theorem x_BadSite (T : Tp P K mg a) : FnOk P w K mg base CX0 1 64 a.d_BadSite_init ["self", "part"] (spX 67 ["part"]) := fn_err (k := 0) T.err_BadSite sc_BadSite_init rfl rfl rfl rfl (fun _ _ _ => ⟨_, rfl⟩) (fun _ _ _ => rfl) (fun cda cc A outer s H b ws Q hl he hq => rest1 T.err_BadSite.oex (naB_of T.na_part 67 (by decide)) (pv 0) (pv 1) rfl hl he hq)
theorem x_BadStay (T : Tp P K mg a) : FnOk P w K mg base CX0 1 232 a.d_BadStay_init ["self", "part"] (spX 235 ["part"]) := fn_err (k := 0) T.err_BadStay sc_BadStay_init rfl rfl rfl rfl (fun _ _ _ => ⟨_, rfl⟩) (fun _ _ _ => rfl) (fun cda cc A outer s H b ws Q hl he hq => rest1 T.err_BadStay.oex (naB_of T.na_part 235 (by decide)) (pv 0) (pv 1) rfl hl he hq)
theorem x_BadStock (T : Tp P K mg a) : FnOk P w K mg base CX0 1 169 a.d_BadStock_init ["self", "part"] (spX 172 ["part"]) := fn_err (k := 0) T.err_BadStock sc_BadStock_init rfl rfl rfl rfl (fun _ _ _ => ⟨_, rfl⟩) (fun _ _ _ => rfl) (fun cda cc A outer s H b ws Q hl he hq => rest1 T.err_BadStock.oex (naB_of T.na_part 172 (by decide)) (pv 0) (pv 1) rfl hl he hq)
theorem x_BadText (T : Tp P K mg a) : FnOk P w K mg base CX0 1 379 a.d_BadText_init ["self", "line", "word"] (spX 382 ["line", "word"]) := fn_err (k := 0) T.err_BadText sc_BadText_init rfl rfl rfl rfl (fun _ _ _ => ⟨_, rfl⟩) (fun _ _ _ => rfl) (fun cda cc A outer s H b ws Q hl he hq => rest2 T.err_BadText.oex (naB_of T.na_line 382 (by decide)) (naB_of T.na_word 382 (by decide)) (pv 0) (pv 1) (pv 0) (pv 2) rfl rfl hl he hq)
theorem x_BadWish (T : Tp P K mg a) : FnOk P w K mg base CX0 1 43 a.d_BadWish_init ["self", "part"] (spX 46 ["part"]) := fn_err (k := 0) T.err_BadWish sc_BadWish_init rfl rfl rfl rfl (fun _ _ _ => ⟨_, rfl⟩) (fun _ _ _ => rfl) (fun cda cc A outer s H b ws Q hl he hq => rest1 T.err_BadWish.oex (naB_of T.na_part 46 (by decide)) (pv 0) (pv 1) rfl hl he hq)
theorem x_Barred (T : Tp P K mg a) : FnOk P w K mg base CX0 1 589 a.d_Barred_init ["self", "word"] (spX 592 ["word"]) := fn_err (k := 0) T.err_Barred sc_Barred_init rfl rfl rfl rfl (fun _ _ _ => ⟨_, rfl⟩) (fun _ _ _ => rfl) (fun cda cc A outer s H b ws Q hl he hq => rest1 T.err_Barred.oex (naB_of T.na_word 592 (by decide)) (pv 0) (pv 1) rfl hl he hq)
theorem x_NoBay (T : Tp P K mg a) : FnOk P w K mg base CX0 1 547 a.d_NoBay_init ["self", "wish"] (spX 550 ["wish"]) := fn_err (k := 0) T.err_NoBay sc_NoBay_init rfl rfl rfl rfl (fun _ _ _ => ⟨_, rfl⟩) (fun _ _ _ => rfl) (fun cda cc A outer s H b ws Q hl he hq => rest1 T.err_NoBay.oex (naB_of T.na_wish 550 (by decide)) (pv 0) (pv 1) rfl hl he hq)
theorem x_NoGate (T : Tp P K mg a) : FnOk P w K mg base CX0 1 505 a.d_NoGate_init ["self", "name"] (spX 508 ["name"]) := fn_err (k := 0) T.err_NoGate sc_NoGate_init rfl rfl rfl rfl (fun _ _ _ => ⟨_, rfl⟩) (fun _ _ _ => rfl) (fun cda cc A outer s H b ws Q hl he hq => rest1 T.err_NoGate.oex (naB_of T.na_name 508 (by decide)) (pv 0) (pv 1) rfl hl he hq)
theorem x_NoGuest (T : Tp P K mg a) : FnOk P w K mg base CX0 1 463 a.d_NoGuest_init ["self", "name"] (spX 466 ["name"]) := fn_err (k := 0) T.err_NoGuest sc_NoGuest_init rfl rfl rfl rfl (fun _ _ _ => ⟨_, rfl⟩) (fun _ _ _ => rfl) (fun cda cc A outer s H b ws Q hl he hq => rest1 T.err_NoGuest.oex (naB_of T.na_name 466 (by decide)) (pv 0) (pv 1) rfl hl he hq)
theorem x_NoHall (T : Tp P K mg a) : FnOk P w K mg base CX0 1 484 a.d_NoHall_init ["self", "name"] (spX 487 ["name"]) := fn_err (k := 0) T.err_NoHall sc_NoHall_init rfl rfl rfl rfl (fun _ _ _ => ⟨_, rfl⟩) (fun _ _ _ => rfl) (fun cda cc A outer s H b ws Q hl he hq => rest1 T.err_NoHall.oex (naB_of T.na_name 487 (by decide)) (pv 0) (pv 1) rfl hl he hq)
theorem x_NoSite (T : Tp P K mg a) : FnOk P w K mg base CX0 1 442 a.d_NoSite_init ["self", "name"] (spX 445 ["name"]) := fn_err (k := 0) T.err_NoSite sc_NoSite_init rfl rfl rfl rfl (fun _ _ _ => ⟨_, rfl⟩) (fun _ _ _ => rfl) (fun cda cc A outer s H b ws Q hl he hq => rest1 T.err_NoSite.oex (naB_of T.na_name 445 (by decide)) (pv 0) (pv 1) rfl hl he hq)
theorem x_NoWish (T : Tp P K mg a) : FnOk P w K mg base CX0 1 421 a.d_NoWish_init ["self", "name"] (spX 424 ["name"]) := fn_err (k := 0) T.err_NoWish sc_NoWish_init rfl rfl rfl rfl (fun _ _ _ => ⟨_, rfl⟩) (fun _ _ _ => rfl) (fun cda cc A outer s H b ws Q hl he hq => rest1 T.err_NoWish.oex (naB_of T.na_name 424 (by decide)) (pv 0) (pv 1) rfl hl he hq)
theorem eb_Nothing (T : Tp P K mg a) : Binds K a.d_Nothing_init ["self"] [] := ebinds_of T.err_Nothing fun _ _ _ _ _ _ _ us h => match us, h with
  | [u0], _ => rfl
theorem x_Nothing (T : Tp P K mg a) : FnOk P w K mg base CX0 1 631 a.d_Nothing_init ["self"] (spX0 634) := fn_err0 (k := 0) T.err_Nothing sc_Nothing_init rfl rfl rfl rfl (fun _ _ _ => ⟨_, rfl⟩) (fun _ _ _ => rfl)
theorem x_Refused (T : Tp P K mg a) : FnOk P w K mg base CX0 1 526 a.d_Refused_init ["self", "part", "wish"] (spX 529 ["part", "wish"]) := fn_err (k := 0) T.err_Refused sc_Refused_init rfl rfl rfl rfl (fun _ _ _ => ⟨_, rfl⟩) (fun _ _ _ => rfl) (fun cda cc A outer s H b ws Q hl he hq => rest2 T.err_Refused.oex (naB_of T.na_part 529 (by decide)) (naB_of T.na_wish 529 (by decide)) (pv 0) (pv 1) (pv 0) (pv 2) rfl rfl hl he hq)
theorem x_TooMany (T : Tp P K mg a) : FnOk P w K mg base CX0 1 610 a.d_TooMany_init ["self", "what", "most"] (spX 613 ["what", "most"]) := fn_err (k := 0) T.err_TooMany sc_TooMany_init rfl rfl rfl rfl (fun _ _ _ => ⟨_, rfl⟩) (fun _ _ _ => rfl) (fun cda cc A outer s H b ws Q hl he hq => rest2 T.err_TooMany.oex (naB_of T.na_what 613 (by decide)) (naB_of T.na_most 613 (by decide)) (pv 0) (pv 1) (pv 0) (pv 2) rfl rfl hl he hq)
theorem x_Unbounded (T : Tp P K mg a) : FnOk P w K mg base CX0 1 568 a.d_Unbounded_init ["self", "part"] (spX 571 ["part"]) := fn_err (k := 0) T.err_Unbounded sc_Unbounded_init rfl rfl rfl rfl (fun _ _ _ => ⟨_, rfl⟩) (fun _ _ _ => rfl) (fun cda cc A outer s H b ws Q hl he hq => rest1 T.err_Unbounded.oex (naB_of T.na_part 571 (by decide)) (pv 0) (pv 1) rfl hl he hq)
def m_l_is_alone : FF := fnF 2 5 (sSeq (sSet 2 (eLst (aCons (eFn (isiT isi) (aCons (eVar 0) (aCons (eC (.obj 46)) aNil))) (aCons (eFn (isiT isi) (aCons (eVar 0) (aCons (eC (.obj 67)) aNil))) (aCons (eFn (isiT isi) (aCons (eVar 0) (aCons (eC (.obj 88)) aNil))) aNil))))) (sSeq (sSet 2 (eBin addD (eVar 2) (eLst (aCons (eFn (isiT isi) (aCons (eVar 0) (aCons (eC (.obj 109)) aNil))) (aCons (eFn (isiT isi) (aCons (eVar 0) (aCons (eC (.obj 130)) aNil))) (aCons (eFn (isiT isi) (aCons (eVar 0) (aCons (eC (.obj 172)) aNil))) aNil)))))) (sSeq (sSet 2 (eBin addD (eVar 2) (eLst (aCons (eFn (isiT isi) (aCons (eVar 0) (aCons (eC (.obj 193)) aNil))) (aCons (eFn (isiT isi) (aCons (eVar 0) (aCons (eC (.obj 214)) aNil))) (aCons (eFn (isiT isi) (aCons (eVar 0) (aCons (eC (.obj 235)) aNil))) aNil)))))) (sSeq (sSet 2 (eBin addD (eVar 2) (eLst (aCons (eFn (isiT isi) (aCons (eVar 0) (aCons (eC (.obj 256)) aNil))) (aCons (eFn (isiT isi) (aCons (eVar 0) (aCons (eC (.obj 277)) aNil))) (aCons (eFn (isiT isi) (aCons (eVar 0) (aCons (eC (.obj 298)) aNil))) aNil)))))) (sSeq (sSet 2 (eBin addD (eVar 2) (eLst (aCons (eFn (isiT isi) (aCons (eVar 0) (aCons (eC (.obj 319)) aNil))) (aCons (eFn (isiT isi) (aCons (eVar 0) (aCons (eC (.obj 571)) aNil))) (aCons (eFn (isiT isi) (aCons (eVar 0) (aCons (eC (.obj 340)) aNil))) aNil)))))) (sSeq (sSet 2 (eBin addD (eVar 2) (eLst (aCons (eFn (isiT isi) (aCons (eVar 0) (aCons (eC (.obj 361)) aNil))) (aCons (eFn (isiT isi) (aCons (eVar 0) (aCons (eC (.obj 424)) aNil))) (aCons (eFn (isiT isi) (aCons (eVar 0) (aCons (eC (.obj 445)) aNil))) aNil)))))) (sSeq (sSet 2 (eBin addD (eVar 2) (eLst (aCons (eFn (isiT isi) (aCons (eVar 0) (aCons (eC (.obj 466)) aNil))) (aCons (eFn (isiT isi) (aCons (eVar 0) (aCons (eC (.obj 487)) aNil))) (aCons (eFn (isiT isi) (aCons (eVar 0) (aCons (eC (.obj 508)) aNil))) aNil)))))) (sSeq (sSet 2 (eBin addD (eVar 2) (eLst (aCons (eFn (isiT isi) (aCons (eVar 0) (aCons (eC (.obj 151)) aNil))) (aCons (eFn (isiT isi) (aCons (eVar 0) (aCons (eC (.obj 403)) aNil))) (aCons (eFn (isiT isi) (aCons (eVar 0) (aCons (eC (.obj 592)) aNil))) aNil)))))) (sSeq (sSet 2 (eBin addD (eVar 2) (eLst (aCons (eFn (isiT isi) (aCons (eVar 0) (aCons (eC (.obj 550)) aNil))) (aCons (eFn (isiT isi) (aCons (eVar 0) (aCons (eC (.obj 529)) aNil))) (aCons (eFn (isiT isi) (aCons (eVar 0) (aCons (eC (.obj 382)) aNil))) aNil)))))) (sSeq (sSet 2 (eBin addD (eVar 2) (eLst (aCons (eFn (isiT isi) (aCons (eVar 0) (aCons (eC (.obj 613)) aNil))) (aCons (eFn (isiT isi) (aCons (eVar 0) (aCons (eC (.obj 634)) aNil))) aNil))))) (sSeq (sSet 3 (eComp (iRng1 (aCons (eFn lenD (aCons (eVar 2) aNil)) aNil)) [4] (tfName 4) (bTru (eBin ixD (eVar 2) (eVar 4))) (eVar 4))) (sRet (eAnd (eCmp eqB (eVar 3) (eLst (aCons (eVar 1) aNil))) (eAnd (eFn (isiT isi) (aCons (eVar 0) (aCons (eC (.obj 24)) aNil))) (eFn (isiT isi) (aCons (eVar 0) (aCons (eC (.ty "ValueError")) aNil)))))))))))))))))
theorem k_l_is_alone (T : Tp P K mg a) (B : Bs base) : KFn P w K mg base 1 679 a.d_l_is_alone ["_law_made", "_law_kind"] m_l_is_alone :=
  kfn_of (k := 0) T.fun_l_is_alone sc_l_is_alone fun cdv A outer s H E hr =>
    (kss_cons (ks_set 2 sc_l_is_alone.nd (ke_lst (ka_cons (ke_callB (cd_isiT T.isi) T.no_isinstance bt_isinstance (ka_cons (ke_var 0) (ka_cons (ke_obj T.mg_BadWish) ka_nil))) (ka_cons (ke_callB (cd_isiT T.isi) T.no_isinstance bt_isinstance (ka_cons (ke_var 0) (ka_cons (ke_obj T.mg_BadSite) ka_nil))) (ka_cons (ke_callB (cd_isiT T.isi) T.no_isinstance bt_isinstance (ka_cons (ke_var 0) (ka_cons (ke_obj T.mg_BadPlan) ka_nil))) ka_nil)))))
      (kss_cons (ks_set 2 sc_l_is_alone.nd (ke_bin od_add (ke_var 2) (ke_lst (ka_cons (ke_callB (cd_isiT T.isi) T.no_isinstance bt_isinstance (ka_cons (ke_var 0) (ka_cons (ke_obj T.mg_BadLimit) ka_nil))) (ka_cons (ke_callB (cd_isiT T.isi) T.no_isinstance bt_isinstance (ka_cons (ke_var 0) (ka_cons (ke_obj T.mg_BadPromise) ka_nil))) (ka_cons (ke_callB (cd_isiT T.isi) T.no_isinstance bt_isinstance (ka_cons (ke_var 0) (ka_cons (ke_obj T.mg_BadStock) ka_nil))) ka_nil))))))
      (kss_cons (ks_set 2 sc_l_is_alone.nd (ke_bin od_add (ke_var 2) (ke_lst (ka_cons (ke_callB (cd_isiT T.isi) T.no_isinstance bt_isinstance (ka_cons (ke_var 0) (ka_cons (ke_obj T.mg_BadCounts) ka_nil))) (ka_cons (ke_callB (cd_isiT T.isi) T.no_isinstance bt_isinstance (ka_cons (ke_var 0) (ka_cons (ke_obj T.mg_BadRule) ka_nil))) (ka_cons (ke_callB (cd_isiT T.isi) T.no_isinstance bt_isinstance (ka_cons (ke_var 0) (ka_cons (ke_obj T.mg_BadStay) ka_nil))) ka_nil))))))
      (kss_cons (ks_set 2 sc_l_is_alone.nd (ke_bin od_add (ke_var 2) (ke_lst (ka_cons (ke_callB (cd_isiT T.isi) T.no_isinstance bt_isinstance (ka_cons (ke_var 0) (ka_cons (ke_obj T.mg_BadBook) ka_nil))) (ka_cons (ke_callB (cd_isiT T.isi) T.no_isinstance bt_isinstance (ka_cons (ke_var 0) (ka_cons (ke_obj T.mg_BadCalendar) ka_nil))) (ka_cons (ke_callB (cd_isiT T.isi) T.no_isinstance bt_isinstance (ka_cons (ke_var 0) (ka_cons (ke_obj T.mg_BadLines) ka_nil))) ka_nil))))))
      (kss_cons (ks_set 2 sc_l_is_alone.nd (ke_bin od_add (ke_var 2) (ke_lst (ka_cons (ke_callB (cd_isiT T.isi) T.no_isinstance bt_isinstance (ka_cons (ke_var 0) (ka_cons (ke_obj T.mg_BadHouse) ka_nil))) (ka_cons (ke_callB (cd_isiT T.isi) T.no_isinstance bt_isinstance (ka_cons (ke_var 0) (ka_cons (ke_obj T.mg_Unbounded) ka_nil))) (ka_cons (ke_callB (cd_isiT T.isi) T.no_isinstance bt_isinstance (ka_cons (ke_var 0) (ka_cons (ke_obj T.mg_BadNumber) ka_nil))) ka_nil))))))
      (kss_cons (ks_set 2 sc_l_is_alone.nd (ke_bin od_add (ke_var 2) (ke_lst (ka_cons (ke_callB (cd_isiT T.isi) T.no_isinstance bt_isinstance (ka_cons (ke_var 0) (ka_cons (ke_obj T.mg_BadName) ka_nil))) (ka_cons (ke_callB (cd_isiT T.isi) T.no_isinstance bt_isinstance (ka_cons (ke_var 0) (ka_cons (ke_obj T.mg_NoWish) ka_nil))) (ka_cons (ke_callB (cd_isiT T.isi) T.no_isinstance bt_isinstance (ka_cons (ke_var 0) (ka_cons (ke_obj T.mg_NoSite) ka_nil))) ka_nil))))))
      (kss_cons (ks_set 2 sc_l_is_alone.nd (ke_bin od_add (ke_var 2) (ke_lst (ka_cons (ke_callB (cd_isiT T.isi) T.no_isinstance bt_isinstance (ka_cons (ke_var 0) (ka_cons (ke_obj T.mg_NoGuest) ka_nil))) (ka_cons (ke_callB (cd_isiT T.isi) T.no_isinstance bt_isinstance (ka_cons (ke_var 0) (ka_cons (ke_obj T.mg_NoHall) ka_nil))) (ka_cons (ke_callB (cd_isiT T.isi) T.no_isinstance bt_isinstance (ka_cons (ke_var 0) (ka_cons (ke_obj T.mg_NoGate) ka_nil))) ka_nil))))))
      (kss_cons (ks_set 2 sc_l_is_alone.nd (ke_bin od_add (ke_var 2) (ke_lst (ka_cons (ke_callB (cd_isiT T.isi) T.no_isinstance bt_isinstance (ka_cons (ke_var 0) (ka_cons (ke_obj T.mg_BadRow) ka_nil))) (ka_cons (ke_callB (cd_isiT T.isi) T.no_isinstance bt_isinstance (ka_cons (ke_var 0) (ka_cons (ke_obj T.mg_BadLine) ka_nil))) (ka_cons (ke_callB (cd_isiT T.isi) T.no_isinstance bt_isinstance (ka_cons (ke_var 0) (ka_cons (ke_obj T.mg_Barred) ka_nil))) ka_nil))))))
      (kss_cons (ks_set 2 sc_l_is_alone.nd (ke_bin od_add (ke_var 2) (ke_lst (ka_cons (ke_callB (cd_isiT T.isi) T.no_isinstance bt_isinstance (ka_cons (ke_var 0) (ka_cons (ke_obj T.mg_NoBay) ka_nil))) (ka_cons (ke_callB (cd_isiT T.isi) T.no_isinstance bt_isinstance (ka_cons (ke_var 0) (ka_cons (ke_obj T.mg_Refused) ka_nil))) (ka_cons (ke_callB (cd_isiT T.isi) T.no_isinstance bt_isinstance (ka_cons (ke_var 0) (ka_cons (ke_obj T.mg_BadText) ka_nil))) ka_nil))))))
      (kss_cons (ks_set 2 sc_l_is_alone.nd (ke_bin od_add (ke_var 2) (ke_lst (ka_cons (ke_callB (cd_isiT T.isi) T.no_isinstance bt_isinstance (ka_cons (ke_var 0) (ka_cons (ke_obj T.mg_TooMany) ka_nil))) (ka_cons (ke_callB (cd_isiT T.isi) T.no_isinstance bt_isinstance (ka_cons (ke_var 0) (ka_cons (ke_obj T.mg_Nothing) ka_nil))) ka_nil)))))
      (kss_cons (ks_setComp 3 (own := [("_law_k", 4)]) sc_l_is_alone.nd (ki_range1 T.no_range (ka_cons (ke_callB cd_len T.no_len bt_len (ka_cons (ke_var 2) ka_nil)) ka_nil)) (blkOk_by (N := ["_law_made", "_law_kind", "_law_kinds", "_law_told_so", "_law_k"]) (sc := defScope s_l_is_alone) (by decide +kernel)) (fun _ _ _ _ _ => (kg_name 4 sc_l_is_alone.nd)) (fun _ _ _ _ _ => (kts_one (kb_tru (ke_ix xd_seq (ke_var 2) (ke_var 4))))) (fun _ _ _ _ _ => (ke_var 4)))
      (kss_one (ks_ret (ke_and (ke_cmp (od_eq hr.u) (ke_var 3) (ke_lst (ka_cons (ke_var 1) ka_nil)) (by first | exact nomark _ | rfl)) (ke_and (ke_callB (cd_isiT T.isi) T.no_isinstance bt_isinstance (ka_cons (ke_var 0) (ka_cons (ke_obj T.mg_StayError) ka_nil))) (ke_one (ke_callB (cd_isiT T.isi) T.no_isinstance bt_isinstance (ka_cons (ke_var 0) (ka_cons (ke_ty T.no_ValueError bt_ValueError) ka_nil)))))))))))))))))))
def m_l_names : FF := fnF 2 15 (sSeq (sSet 2 (eLst (aCons (eTup (aCons (eExc 340 ["value"] [.p 1] 1 0 (cPos (aCons (eVar 0) aNil))) (aCons (eExc 340 ["value"] [.k 0] 0 1 (cBoth aNil (aCons (eVar 1) aNil))) aNil))) (aCons (eTup (aCons (eExc 361 ["value"] [.p 1] 1 0 (cPos (aCons (eVar 0) aNil))) (aCons (eExc 361 ["value"] [.k 0] 0 1 (cBoth aNil (aCons (eVar 1) aNil))) aNil))) aNil)))) (sSeq (sSet 3 (eComp (iSeq (eVar 2)) [13, 14] (tfTup 2 (tfCons (tfName 13) (tfCons (tfName 14) tfNil))) tYesF (eTup (aCons (eVar 13) (aCons (eUn (fldT cs_value "value") (eVar 13)) (aCons (eVar 14) (aCons (eUn (fldT cs_value "value") (eVar 14)) aNil))))))) (sSeq (sSet 4 (eLstL (aCons (eTup (aCons (eExc 424 ["name"] [.p 1] 1 0 (cPos (aCons (eVar 0) aNil))) (aCons (eExc 424 ["name"] [.k 0] 0 1 (cBoth aNil (aCons (eVar 1) aNil))) aNil))) (aCons (eTup (aCons (eExc 445 ["name"] [.p 1] 1 0 (cPos (aCons (eVar 0) aNil))) (aCons (eExc 445 ["name"] [.k 0] 0 1 (cBoth aNil (aCons (eVar 1) aNil))) aNil))) aNil)))) (sSeq (sSet 4 (eBinU catL (eVar 4) (eLst (aCons (eTup (aCons (eExc 466 ["name"] [.p 1] 1 0 (cPos (aCons (eVar 0) aNil))) (aCons (eExc 466 ["name"] [.k 0] 0 1 (cBoth aNil (aCons (eVar 1) aNil))) aNil))) (aCons (eTup (aCons (eExc 487 ["name"] [.p 1] 1 0 (cPos (aCons (eVar 0) aNil))) (aCons (eExc 487 ["name"] [.k 0] 0 1 (cBoth aNil (aCons (eVar 1) aNil))) aNil))) aNil))))) (sSeq (sDrop (eAppend (eVar 4) (eTup (aCons (eExc 508 ["name"] [.p 1] 1 0 (cPos (aCons (eVar 0) aNil))) (aCons (eExc 508 ["name"] [.k 0] 0 1 (cBoth aNil (aCons (eVar 1) aNil))) aNil))))) (sSeq (sSet 3 (eBin addD (eVar 3) (eComp (iSeq (eVar 4)) [13, 14] (tfTup 2 (tfCons (tfName 13) (tfCons (tfName 14) tfNil))) tYesF (eTup (aCons (eVar 13) (aCons (eUn (fldT cs_name "name") (eVar 13)) (aCons (eVar 14) (aCons (eUn (fldT cs_name "name") (eVar 14)) aNil)))))))) (sSeq (sAsg (tfTup 4 (tfCons (tfName 5) (tfCons (tfName 6) (tfCons (tfName 7) (tfCons (tfName 8) tfNil))))) (eTup (aCons (eExc 151 ["at"] [.p 1] 1 0 (cPos (aCons (eVar 0) aNil))) (aCons (eExc 151 ["at"] [.k 0] 0 1 (cBoth aNil (aCons (eVar 1) aNil))) (aCons (eExc 403 ["word"] [.p 1] 1 0 (cPos (aCons (eVar 0) aNil))) (aCons (eExc 403 ["word"] [.k 0] 0 1 (cBoth aNil (aCons (eVar 1) aNil))) aNil)))))) (sSeq (sSet 3 (eBin addD (eVar 3) (eLst (aCons (eTup (aCons (eVar 5) (aCons (eUn (fldT cs_at "at") (eVar 5)) (aCons (eVar 6) (aCons (eUn (fldT cs_at "at") (eVar 6)) aNil))))) (aCons (eTup (aCons (eVar 7) (aCons (eUn (fldT cs_word "word") (eVar 7)) (aCons (eVar 8) (aCons (eUn (fldT cs_word "word") (eVar 8)) aNil))))) aNil))))) (sSeq (sAsg (tfTup 4 (tfCons (tfName 9) (tfCons (tfName 10) (tfCons (tfName 11) (tfCons (tfName 12) tfNil))))) (eTup (aCons (eExc 592 ["word"] [.p 1] 1 0 (cPos (aCons (eVar 0) aNil))) (aCons (eExc 592 ["word"] [.k 0] 0 1 (cBoth aNil (aCons (eVar 1) aNil))) (aCons (eExc 550 ["wish"] [.p 1] 1 0 (cPos (aCons (eVar 0) aNil))) (aCons (eExc 550 ["wish"] [.k 0] 0 1 (cBoth aNil (aCons (eVar 1) aNil))) aNil)))))) (sRet (eBin addD (eVar 3) (eLst (aCons (eTup (aCons (eVar 9) (aCons (eUn (fldT cs_word "word") (eVar 9)) (aCons (eVar 10) (aCons (eUn (fldT cs_word "word") (eVar 10)) aNil))))) (aCons (eTup (aCons (eVar 11) (aCons (eUn (fldT cs_wish "wish") (eVar 11)) (aCons (eVar 12) (aCons (eUn (fldT cs_wish "wish") (eVar 12)) aNil))))) aNil))))))))))))))
theorem k_l_names (T : Tp P K mg a) (B : Bs base) : KFn P w K mg base 3 674 a.d_l_names ["_law_one_so", "_law_two_so"] m_l_names :=
  kfn_of (k := 2) T.fun_l_names sc_l_names fun cdv A outer s H E hr =>
    (kss_cons (ks_set 2 sc_l_names.nd (ke_lst (ka_cons (ke_tup (ka_cons (ke_exc T.err_BadNumber (x_BadNumber T) (hr.rm.mono (by decide)) (b_BadNumber_init_2 T) T.mg_BadNumber (kc_pos (ka_cons (ke_var 0) ka_nil)) (by decide)) (ka_cons (ke_exc T.err_BadNumber (x_BadNumber T) (hr.rm.mono (by decide)) (b_BadNumber_init_1_value T) T.mg_BadNumber (kc_kw (kk_cons (ke_var 1) kk_nil)) (by decide)) ka_nil))) (ka_cons (ke_tup (ka_cons (ke_exc T.err_BadName (x_BadName T) (hr.rm.mono (by decide)) (b_BadName_init_2 T) T.mg_BadName (kc_pos (ka_cons (ke_var 0) ka_nil)) (by decide)) (ka_cons (ke_exc T.err_BadName (x_BadName T) (hr.rm.mono (by decide)) (b_BadName_init_1_value T) T.mg_BadName (kc_kw (kk_cons (ke_var 1) kk_nil)) (by decide)) ka_nil))) ka_nil))))
      (kss_cons (ks_setComp 3 (own := [("_law_one", 13), ("_law_two", 14)]) sc_l_names.nd (ki_seq (ke_var 2)) (blkOk_by (N := ["_law_one_so", "_law_two_so", "_law_numbers", "_law_found", "_law_absent", "_law_row", "_law_other", "_law_line", "_law_more", "_law_bar", "_law_door", "_law_bay", "_law_none", "_law_one", "_law_two"]) (sc := defScope s_l_names) (by decide +kernel)) (fun _ _ _ _ _ => (kg_tup (kgs_cons (kg_name 13 sc_l_names.nd) (kgs_cons (kg_name 14 sc_l_names.nd) kgs_nil)))) (fun _ _ _ _ _ => kts_nil) (fun _ _ _ _ _ => (ke_tup (ka_cons (ke_var 13) (ka_cons (ke_fldT (naB_of T.na_value) (ke_var 13)) (ka_cons (ke_var 14) (ka_cons (ke_fldT (naB_of T.na_value) (ke_var 14)) ka_nil)))))))
      (kss_cons (ks_set 4 sc_l_names.nd (ke_lstL (ka_cons (ke_tup (ka_cons (ke_exc T.err_NoWish (x_NoWish T) (hr.rm.mono (by decide)) (b_NoWish_init_2 T) T.mg_NoWish (kc_pos (ka_cons (ke_var 0) ka_nil)) (by decide)) (ka_cons (ke_exc T.err_NoWish (x_NoWish T) (hr.rm.mono (by decide)) (b_NoWish_init_1_name T) T.mg_NoWish (kc_kw (kk_cons (ke_var 1) kk_nil)) (by decide)) ka_nil))) (ka_cons (ke_tup (ka_cons (ke_exc T.err_NoSite (x_NoSite T) (hr.rm.mono (by decide)) (b_NoSite_init_2 T) T.mg_NoSite (kc_pos (ka_cons (ke_var 0) ka_nil)) (by decide)) (ka_cons (ke_exc T.err_NoSite (x_NoSite T) (hr.rm.mono (by decide)) (b_NoSite_init_1_name T) T.mg_NoSite (kc_kw (kk_cons (ke_var 1) kk_nil)) (by decide)) ka_nil))) ka_nil))))
      (kss_cons (ks_set 4 sc_l_names.nd (ke_binU op_catL (ke_var 4) (ke_lst (ka_cons (ke_tup (ka_cons (ke_exc T.err_NoGuest (x_NoGuest T) (hr.rm.mono (by decide)) (b_NoGuest_init_2 T) T.mg_NoGuest (kc_pos (ka_cons (ke_var 0) ka_nil)) (by decide)) (ka_cons (ke_exc T.err_NoGuest (x_NoGuest T) (hr.rm.mono (by decide)) (b_NoGuest_init_1_name T) T.mg_NoGuest (kc_kw (kk_cons (ke_var 1) kk_nil)) (by decide)) ka_nil))) (ka_cons (ke_tup (ka_cons (ke_exc T.err_NoHall (x_NoHall T) (hr.rm.mono (by decide)) (b_NoHall_init_2 T) T.mg_NoHall (kc_pos (ka_cons (ke_var 0) ka_nil)) (by decide)) (ka_cons (ke_exc T.err_NoHall (x_NoHall T) (hr.rm.mono (by decide)) (b_NoHall_init_1_name T) T.mg_NoHall (kc_kw (kk_cons (ke_var 1) kk_nil)) (by decide)) ka_nil))) ka_nil)))))
      (kss_cons (ks_expr (ke_append (ke_var 4) (ke_tup (ka_cons (ke_exc T.err_NoGate (x_NoGate T) (hr.rm.mono (by decide)) (b_NoGate_init_2 T) T.mg_NoGate (kc_pos (ka_cons (ke_var 0) ka_nil)) (by decide)) (ka_cons (ke_exc T.err_NoGate (x_NoGate T) (hr.rm.mono (by decide)) (b_NoGate_init_1_name T) T.mg_NoGate (kc_kw (kk_cons (ke_var 1) kk_nil)) (by decide)) ka_nil)))))
      (kss_cons (ks_set 3 sc_l_names.nd (ke_bin od_add (ke_var 3) (ke_comp (own := [("_law_one", 13), ("_law_two", 14)]) sc_l_names.nd (ki_seq (ke_var 4)) (blkOk_by (N := ["_law_one_so", "_law_two_so", "_law_numbers", "_law_found", "_law_absent", "_law_row", "_law_other", "_law_line", "_law_more", "_law_bar", "_law_door", "_law_bay", "_law_none", "_law_one", "_law_two"]) (sc := defScope s_l_names) (by decide +kernel)) (fun _ _ _ _ _ => (kg_tup (kgs_cons (kg_name 13 sc_l_names.nd) (kgs_cons (kg_name 14 sc_l_names.nd) kgs_nil)))) (fun _ _ _ _ _ => kts_nil) (fun _ _ _ _ _ => (ke_tup (ka_cons (ke_var 13) (ka_cons (ke_fldT (naB_of T.na_name) (ke_var 13)) (ka_cons (ke_var 14) (ka_cons (ke_fldT (naB_of T.na_name) (ke_var 14)) ka_nil)))))))))
      (kss_cons (ks_asg (ke_tup (ka_cons (ke_exc T.err_BadRow (x_BadRow T) (hr.rm.mono (by decide)) (b_BadRow_init_2 T) T.mg_BadRow (kc_pos (ka_cons (ke_var 0) ka_nil)) (by decide)) (ka_cons (ke_exc T.err_BadRow (x_BadRow T) (hr.rm.mono (by decide)) (b_BadRow_init_1_at T) T.mg_BadRow (kc_kw (kk_cons (ke_var 1) kk_nil)) (by decide)) (ka_cons (ke_exc T.err_BadLine (x_BadLine T) (hr.rm.mono (by decide)) (b_BadLine_init_2 T) T.mg_BadLine (kc_pos (ka_cons (ke_var 0) ka_nil)) (by decide)) (ka_cons (ke_exc T.err_BadLine (x_BadLine T) (hr.rm.mono (by decide)) (b_BadLine_init_1_word T) T.mg_BadLine (kc_kw (kk_cons (ke_var 1) kk_nil)) (by decide)) ka_nil))))) (kg_tup (kgs_cons (kg_name 5 sc_l_names.nd) (kgs_cons (kg_name 6 sc_l_names.nd) (kgs_cons (kg_name 7 sc_l_names.nd) (kgs_cons (kg_name 8 sc_l_names.nd) kgs_nil))))))
      (kss_cons (ks_set 3 sc_l_names.nd (ke_bin od_add (ke_var 3) (ke_lst (ka_cons (ke_tup (ka_cons (ke_var 5) (ka_cons (ke_fldT (naB_of T.na_at) (ke_var 5)) (ka_cons (ke_var 6) (ka_cons (ke_fldT (naB_of T.na_at) (ke_var 6)) ka_nil))))) (ka_cons (ke_tup (ka_cons (ke_var 7) (ka_cons (ke_fldT (naB_of T.na_word) (ke_var 7)) (ka_cons (ke_var 8) (ka_cons (ke_fldT (naB_of T.na_word) (ke_var 8)) ka_nil))))) ka_nil)))))
      (kss_cons (ks_asg (ke_tup (ka_cons (ke_exc T.err_Barred (x_Barred T) (hr.rm.mono (by decide)) (b_Barred_init_2 T) T.mg_Barred (kc_pos (ka_cons (ke_var 0) ka_nil)) (by decide)) (ka_cons (ke_exc T.err_Barred (x_Barred T) (hr.rm.mono (by decide)) (b_Barred_init_1_word T) T.mg_Barred (kc_kw (kk_cons (ke_var 1) kk_nil)) (by decide)) (ka_cons (ke_exc T.err_NoBay (x_NoBay T) (hr.rm.mono (by decide)) (b_NoBay_init_2 T) T.mg_NoBay (kc_pos (ka_cons (ke_var 0) ka_nil)) (by decide)) (ka_cons (ke_exc T.err_NoBay (x_NoBay T) (hr.rm.mono (by decide)) (b_NoBay_init_1_wish T) T.mg_NoBay (kc_kw (kk_cons (ke_var 1) kk_nil)) (by decide)) ka_nil))))) (kg_tup (kgs_cons (kg_name 9 sc_l_names.nd) (kgs_cons (kg_name 10 sc_l_names.nd) (kgs_cons (kg_name 11 sc_l_names.nd) (kgs_cons (kg_name 12 sc_l_names.nd) kgs_nil))))))
      (kss_one (ks_ret (ke_bin od_add (ke_var 3) (ke_lst (ka_cons (ke_tup (ka_cons (ke_var 9) (ka_cons (ke_fldT (naB_of T.na_word) (ke_var 9)) (ka_cons (ke_var 10) (ka_cons (ke_fldT (naB_of T.na_word) (ke_var 10)) ka_nil))))) (ka_cons (ke_tup (ka_cons (ke_var 11) (ka_cons (ke_fldT (naB_of T.na_wish) (ke_var 11)) (ka_cons (ke_var 12) (ka_cons (ke_fldT (naB_of T.na_wish) (ke_var 12)) ka_nil))))) ka_nil)))))))))))))))
def m_l_parts : FF := fnF 2 5 (sSeq (sSet 2 (eLst (aCons (eTup (aCons (eExc 46 ["part"] [.p 1] 1 0 (cPos (aCons (eVar 0) aNil))) (aCons (eExc 46 ["part"] [.k 0] 0 1 (cBoth aNil (aCons (eVar 1) aNil))) aNil))) (aCons (eTup (aCons (eExc 67 ["part"] [.p 1] 1 0 (cPos (aCons (eVar 0) aNil))) (aCons (eExc 67 ["part"] [.k 0] 0 1 (cBoth aNil (aCons (eVar 1) aNil))) aNil))) aNil)))) (sSeq (sSet 2 (eBin addD (eVar 2) (eLst (aCons (eTup (aCons (eExc 88 ["part"] [.p 1] 1 0 (cPos (aCons (eVar 0) aNil))) (aCons (eExc 88 ["part"] [.k 0] 0 1 (cBoth aNil (aCons (eVar 1) aNil))) aNil))) (aCons (eTup (aCons (eExc 109 ["part"] [.p 1] 1 0 (cPos (aCons (eVar 0) aNil))) (aCons (eExc 109 ["part"] [.k 0] 0 1 (cBoth aNil (aCons (eVar 1) aNil))) aNil))) aNil))))) (sSeq (sSet 2 (eBin addD (eVar 2) (eLst (aCons (eTup (aCons (eExc 130 ["part"] [.p 1] 1 0 (cPos (aCons (eVar 0) aNil))) (aCons (eExc 130 ["part"] [.k 0] 0 1 (cBoth aNil (aCons (eVar 1) aNil))) aNil))) (aCons (eTup (aCons (eExc 172 ["part"] [.p 1] 1 0 (cPos (aCons (eVar 0) aNil))) (aCons (eExc 172 ["part"] [.k 0] 0 1 (cBoth aNil (aCons (eVar 1) aNil))) aNil))) aNil))))) (sSeq (sSet 2 (eBin addD (eVar 2) (eLst (aCons (eTup (aCons (eExc 193 ["part"] [.p 1] 1 0 (cPos (aCons (eVar 0) aNil))) (aCons (eExc 193 ["part"] [.k 0] 0 1 (cBoth aNil (aCons (eVar 1) aNil))) aNil))) (aCons (eTup (aCons (eExc 214 ["part"] [.p 1] 1 0 (cPos (aCons (eVar 0) aNil))) (aCons (eExc 214 ["part"] [.k 0] 0 1 (cBoth aNil (aCons (eVar 1) aNil))) aNil))) aNil))))) (sSeq (sSet 2 (eBin addD (eVar 2) (eLst (aCons (eTup (aCons (eExc 235 ["part"] [.p 1] 1 0 (cPos (aCons (eVar 0) aNil))) (aCons (eExc 235 ["part"] [.k 0] 0 1 (cBoth aNil (aCons (eVar 1) aNil))) aNil))) (aCons (eTup (aCons (eExc 256 ["part"] [.p 1] 1 0 (cPos (aCons (eVar 0) aNil))) (aCons (eExc 256 ["part"] [.k 0] 0 1 (cBoth aNil (aCons (eVar 1) aNil))) aNil))) aNil))))) (sSeq (sSet 2 (eBin addD (eVar 2) (eLst (aCons (eTup (aCons (eExc 277 ["part"] [.p 1] 1 0 (cPos (aCons (eVar 0) aNil))) (aCons (eExc 277 ["part"] [.k 0] 0 1 (cBoth aNil (aCons (eVar 1) aNil))) aNil))) (aCons (eTup (aCons (eExc 298 ["part"] [.p 1] 1 0 (cPos (aCons (eVar 0) aNil))) (aCons (eExc 298 ["part"] [.k 0] 0 1 (cBoth aNil (aCons (eVar 1) aNil))) aNil))) aNil))))) (sSeq (sSet 2 (eBin addD (eVar 2) (eLst (aCons (eTup (aCons (eExc 319 ["part"] [.p 1] 1 0 (cPos (aCons (eVar 0) aNil))) (aCons (eExc 319 ["part"] [.k 0] 0 1 (cBoth aNil (aCons (eVar 1) aNil))) aNil))) (aCons (eTup (aCons (eExc 571 ["part"] [.p 1] 1 0 (cPos (aCons (eVar 0) aNil))) (aCons (eExc 571 ["part"] [.k 0] 0 1 (cBoth aNil (aCons (eVar 1) aNil))) aNil))) aNil))))) (sRet (eComp (iSeq (eVar 2)) [3, 4] (tfTup 2 (tfCons (tfName 3) (tfCons (tfName 4) tfNil))) tYesF (eTup (aCons (eVar 3) (aCons (eUn (fldT cs_part "part") (eVar 3)) (aCons (eVar 4) (aCons (eUn (fldT cs_part "part") (eVar 4)) aNil))))))))))))))
theorem k_l_parts (T : Tp P K mg a) (B : Bs base) : KFn P w K mg base 3 669 a.d_l_parts ["_law_one_so", "_law_two_so"] m_l_parts :=
  kfn_of (k := 2) T.fun_l_parts sc_l_parts fun cdv A outer s H E hr =>
    (kss_cons (ks_set 2 sc_l_parts.nd (ke_lst (ka_cons (ke_tup (ka_cons (ke_exc T.err_BadWish (x_BadWish T) (hr.rm.mono (by decide)) (b_BadWish_init_2 T) T.mg_BadWish (kc_pos (ka_cons (ke_var 0) ka_nil)) (by decide)) (ka_cons (ke_exc T.err_BadWish (x_BadWish T) (hr.rm.mono (by decide)) (b_BadWish_init_1_part T) T.mg_BadWish (kc_kw (kk_cons (ke_var 1) kk_nil)) (by decide)) ka_nil))) (ka_cons (ke_tup (ka_cons (ke_exc T.err_BadSite (x_BadSite T) (hr.rm.mono (by decide)) (b_BadSite_init_2 T) T.mg_BadSite (kc_pos (ka_cons (ke_var 0) ka_nil)) (by decide)) (ka_cons (ke_exc T.err_BadSite (x_BadSite T) (hr.rm.mono (by decide)) (b_BadSite_init_1_part T) T.mg_BadSite (kc_kw (kk_cons (ke_var 1) kk_nil)) (by decide)) ka_nil))) ka_nil))))
      (kss_cons (ks_set 2 sc_l_parts.nd (ke_bin od_add (ke_var 2) (ke_lst (ka_cons (ke_tup (ka_cons (ke_exc T.err_BadPlan (x_BadPlan T) (hr.rm.mono (by decide)) (b_BadPlan_init_2 T) T.mg_BadPlan (kc_pos (ka_cons (ke_var 0) ka_nil)) (by decide)) (ka_cons (ke_exc T.err_BadPlan (x_BadPlan T) (hr.rm.mono (by decide)) (b_BadPlan_init_1_part T) T.mg_BadPlan (kc_kw (kk_cons (ke_var 1) kk_nil)) (by decide)) ka_nil))) (ka_cons (ke_tup (ka_cons (ke_exc T.err_BadLimit (x_BadLimit T) (hr.rm.mono (by decide)) (b_BadLimit_init_2 T) T.mg_BadLimit (kc_pos (ka_cons (ke_var 0) ka_nil)) (by decide)) (ka_cons (ke_exc T.err_BadLimit (x_BadLimit T) (hr.rm.mono (by decide)) (b_BadLimit_init_1_part T) T.mg_BadLimit (kc_kw (kk_cons (ke_var 1) kk_nil)) (by decide)) ka_nil))) ka_nil)))))
      (kss_cons (ks_set 2 sc_l_parts.nd (ke_bin od_add (ke_var 2) (ke_lst (ka_cons (ke_tup (ka_cons (ke_exc T.err_BadPromise (x_BadPromise T) (hr.rm.mono (by decide)) (b_BadPromise_init_2 T) T.mg_BadPromise (kc_pos (ka_cons (ke_var 0) ka_nil)) (by decide)) (ka_cons (ke_exc T.err_BadPromise (x_BadPromise T) (hr.rm.mono (by decide)) (b_BadPromise_init_1_part T) T.mg_BadPromise (kc_kw (kk_cons (ke_var 1) kk_nil)) (by decide)) ka_nil))) (ka_cons (ke_tup (ka_cons (ke_exc T.err_BadStock (x_BadStock T) (hr.rm.mono (by decide)) (b_BadStock_init_2 T) T.mg_BadStock (kc_pos (ka_cons (ke_var 0) ka_nil)) (by decide)) (ka_cons (ke_exc T.err_BadStock (x_BadStock T) (hr.rm.mono (by decide)) (b_BadStock_init_1_part T) T.mg_BadStock (kc_kw (kk_cons (ke_var 1) kk_nil)) (by decide)) ka_nil))) ka_nil)))))
      (kss_cons (ks_set 2 sc_l_parts.nd (ke_bin od_add (ke_var 2) (ke_lst (ka_cons (ke_tup (ka_cons (ke_exc T.err_BadCounts (x_BadCounts T) (hr.rm.mono (by decide)) (b_BadCounts_init_2 T) T.mg_BadCounts (kc_pos (ka_cons (ke_var 0) ka_nil)) (by decide)) (ka_cons (ke_exc T.err_BadCounts (x_BadCounts T) (hr.rm.mono (by decide)) (b_BadCounts_init_1_part T) T.mg_BadCounts (kc_kw (kk_cons (ke_var 1) kk_nil)) (by decide)) ka_nil))) (ka_cons (ke_tup (ka_cons (ke_exc T.err_BadRule (x_BadRule T) (hr.rm.mono (by decide)) (b_BadRule_init_2 T) T.mg_BadRule (kc_pos (ka_cons (ke_var 0) ka_nil)) (by decide)) (ka_cons (ke_exc T.err_BadRule (x_BadRule T) (hr.rm.mono (by decide)) (b_BadRule_init_1_part T) T.mg_BadRule (kc_kw (kk_cons (ke_var 1) kk_nil)) (by decide)) ka_nil))) ka_nil)))))
      (kss_cons (ks_set 2 sc_l_parts.nd (ke_bin od_add (ke_var 2) (ke_lst (ka_cons (ke_tup (ka_cons (ke_exc T.err_BadStay (x_BadStay T) (hr.rm.mono (by decide)) (b_BadStay_init_2 T) T.mg_BadStay (kc_pos (ka_cons (ke_var 0) ka_nil)) (by decide)) (ka_cons (ke_exc T.err_BadStay (x_BadStay T) (hr.rm.mono (by decide)) (b_BadStay_init_1_part T) T.mg_BadStay (kc_kw (kk_cons (ke_var 1) kk_nil)) (by decide)) ka_nil))) (ka_cons (ke_tup (ka_cons (ke_exc T.err_BadBook (x_BadBook T) (hr.rm.mono (by decide)) (b_BadBook_init_2 T) T.mg_BadBook (kc_pos (ka_cons (ke_var 0) ka_nil)) (by decide)) (ka_cons (ke_exc T.err_BadBook (x_BadBook T) (hr.rm.mono (by decide)) (b_BadBook_init_1_part T) T.mg_BadBook (kc_kw (kk_cons (ke_var 1) kk_nil)) (by decide)) ka_nil))) ka_nil)))))
      (kss_cons (ks_set 2 sc_l_parts.nd (ke_bin od_add (ke_var 2) (ke_lst (ka_cons (ke_tup (ka_cons (ke_exc T.err_BadCalendar (x_BadCalendar T) (hr.rm.mono (by decide)) (b_BadCalendar_init_2 T) T.mg_BadCalendar (kc_pos (ka_cons (ke_var 0) ka_nil)) (by decide)) (ka_cons (ke_exc T.err_BadCalendar (x_BadCalendar T) (hr.rm.mono (by decide)) (b_BadCalendar_init_1_part T) T.mg_BadCalendar (kc_kw (kk_cons (ke_var 1) kk_nil)) (by decide)) ka_nil))) (ka_cons (ke_tup (ka_cons (ke_exc T.err_BadLines (x_BadLines T) (hr.rm.mono (by decide)) (b_BadLines_init_2 T) T.mg_BadLines (kc_pos (ka_cons (ke_var 0) ka_nil)) (by decide)) (ka_cons (ke_exc T.err_BadLines (x_BadLines T) (hr.rm.mono (by decide)) (b_BadLines_init_1_part T) T.mg_BadLines (kc_kw (kk_cons (ke_var 1) kk_nil)) (by decide)) ka_nil))) ka_nil)))))
      (kss_cons (ks_set 2 sc_l_parts.nd (ke_bin od_add (ke_var 2) (ke_lst (ka_cons (ke_tup (ka_cons (ke_exc T.err_BadHouse (x_BadHouse T) (hr.rm.mono (by decide)) (b_BadHouse_init_2 T) T.mg_BadHouse (kc_pos (ka_cons (ke_var 0) ka_nil)) (by decide)) (ka_cons (ke_exc T.err_BadHouse (x_BadHouse T) (hr.rm.mono (by decide)) (b_BadHouse_init_1_part T) T.mg_BadHouse (kc_kw (kk_cons (ke_var 1) kk_nil)) (by decide)) ka_nil))) (ka_cons (ke_tup (ka_cons (ke_exc T.err_Unbounded (x_Unbounded T) (hr.rm.mono (by decide)) (b_Unbounded_init_2 T) T.mg_Unbounded (kc_pos (ka_cons (ke_var 0) ka_nil)) (by decide)) (ka_cons (ke_exc T.err_Unbounded (x_Unbounded T) (hr.rm.mono (by decide)) (b_Unbounded_init_1_part T) T.mg_Unbounded (kc_kw (kk_cons (ke_var 1) kk_nil)) (by decide)) ka_nil))) ka_nil)))))
      (kss_one (ks_ret (ke_comp (own := [("_law_one", 3), ("_law_two", 4)]) sc_l_parts.nd (ki_seq (ke_var 2)) (blkOk_by (N := ["_law_one_so", "_law_two_so", "_law_found", "_law_one", "_law_two"]) (sc := defScope s_l_parts) (by decide +kernel)) (fun _ _ _ _ _ => (kg_tup (kgs_cons (kg_name 3 sc_l_parts.nd) (kgs_cons (kg_name 4 sc_l_parts.nd) kgs_nil)))) (fun _ _ _ _ _ => kts_nil) (fun _ _ _ _ _ => (ke_tup (ka_cons (ke_var 3) (ka_cons (ke_fldT (naB_of T.na_part) (ke_var 3)) (ka_cons (ke_var 4) (ka_cons (ke_fldT (naB_of T.na_part) (ke_var 4)) ka_nil))))))))))))))))
def m_l_pen : FF := fnF 1 1 (sRet (eLstL (aCons (eFn listD (aCons (eSl (eVar 0) oNone (oSome (eC (.int 63)))) aNil)) (aCons (eC (.int 0)) (aCons (eC (.int 0)) aNil)))))
theorem k_l_pen (T : Tp P K mg a) (B : Bs base) : KFn P w K mg base 1 643 a.d_l_pen ["_law_script"] m_l_pen :=
  kfn_of (k := 0) T.fun_l_pen sc_l_pen fun cdv A outer s H E hr =>
    (kss_one (ks_ret (ke_lstL (ka_cons (ke_callT cd_list T.no_list bt_list (ka_cons (ke_slice (ke_var 0) ko_none (ko_some ke_int)) ka_nil)) (ka_cons ke_int (ka_cons ke_int ka_nil))))))
def m_l_draw : FF := fnF 2 7 (sSeq (sIf (bCmp gtB (eBin ixD (eVar 0) (eC (.int 2))) (eC (.int 0))) (sSeq (sSet 2 (eBin modD (eFn intL (aCons (eBin ixD (eVar 0) (eC (.int 2))) aNil)) (eVar 1))) (sSeq (sSub (eVar 0) (eC (.int 2)) (eBin divD (eFn intL (aCons (eBin ixD (eVar 0) (eC (.int 2))) aNil)) (eVar 1))) (sRet (eVar 2)))) sNil) (sSeq (sSet 3 (eBin ixD (eVar 0) (eC (.int 1)))) (sSeq (sSub (eVar 0) (eC (.int 1)) (eBin addD (eVar 3) (eC (.int 1)))) (sSeq (sSet 4 (eBin addD (eBin mulD (eC (.int 97007)) (eVar 3)) (eC (.int 853)))) (sSeq (sIf (bCmp neB (eBin ixD (eVar 0) (eC (.int 0))) (eLst aNil)) (sSet 4 (eBin ixD (eBin ixD (eVar 0) (eC (.int 0))) (eBin modD (eFn intL (aCons (eVar 3) aNil)) (eFn lenD (aCons (eBin ixD (eVar 0) (eC (.int 0))) aNil))))) sNil) (sSeq (sIf (bAnd (bCmp ltB (eVar 3) (eFn lenD (aCons (eBin ixD (eVar 0) (eC (.int 0))) aNil))) (bCmp geB (eFn absD (aCons (eVar 4) aNil)) (eBin powD (eC (.int 10)) (eC (.int 18))))) (sSeq (sSet 5 (eBin addD (eBin mulD (eC (.int 2)) (eBin subD (eFn absD (aCons (eVar 4) aNil)) (eBin powD (eC (.int 10)) (eC (.int 18))))) (eFn intL (aCons (eCmp ltB (eVar 4) (eC (.int 0))) aNil)))) (sSeq (sSub (eVar 0) (eC (.int 2)) (eBin divD (eFn intL (aCons (eVar 5) aNil)) (eVar 1))) (sRet (eBin modD (eFn intL (aCons (eVar 5) aNil)) (eVar 1))))) sNil) (sSeq (sSet 6 (eBin modD (eFn intL (aCons (eBin powD (eBin addD (eBin addD (eBin modD (eFn intL (aCons (eVar 4) aNil)) (eC (.int 2147442011))) (eBin mulD (eC (.int 88003)) (eVar 3))) (eC (.int 463))) (eC (.int 5))) aNil)) (eC (.int 2147432009)))) (sSeq (sSet 6 (eBin modD (eFn intL (aCons (eBin powD (eBin addD (eBin addD (eBin mulD (eVar 6) (eBin addD (eBin mulD (eC (.int 2)) (eVar 3)) (eC (.int 151)))) (eBin mulD (eBin mulD (eC (.int 75011)) (eVar 3)) (eVar 3))) (eC (.int 127))) (eC (.int 3))) aNil)) (eC (.int 2147422033)))) (sRet (eBin modD (eFn intL (aCons (eBin divD (eVar 6) (eC (.int 32))) aNil)) (eVar 1)))))))))))
theorem k_l_draw (T : Tp P K mg a) (B : Bs base) : KFn P w K mg base 1 650 a.d_l_draw ["_law_pen_here", "_law_many"] m_l_draw :=
  kfn_of (k := 0) T.fun_l_draw sc_l_draw fun cdv A outer s H E hr =>
    (kss_cons (ks_if (kb_cmp (od_gt) (ke_ix xd_seq (ke_var 0) ke_int) ke_int (by first | exact nomark _ | rfl)) (kss_cons (ks_set 2 sc_l_draw.nd (ke_bin od_mod (ke_callT (cd_intL B.nd) T.no_int bt_int (ka_cons (ke_ix xd_seq (ke_var 0) ke_int) ka_nil)) (ke_var 1)))
      (kss_cons (ks_sub (ke_var 0) ke_int (ke_bin od_div (ke_callT (cd_intL B.nd) T.no_int bt_int (ka_cons (ke_ix xd_seq (ke_var 0) ke_int) ka_nil)) (ke_var 1)))
      (kss_one (ks_ret (ke_var 2))))) kss_nil)
      (kss_cons (ks_set 3 sc_l_draw.nd (ke_ix xd_seq (ke_var 0) ke_int))
      (kss_cons (ks_sub (ke_var 0) ke_int (ke_bin od_add (ke_var 3) ke_int))
      (kss_cons (ks_set 4 sc_l_draw.nd (ke_bin od_add (ke_bin od_mul ke_int (ke_var 3)) ke_int))
      (kss_cons (ks_if (kb_cmp (od_ne hr.u) (ke_ix xd_seq (ke_var 0) ke_int) (ke_lst ka_nil) (by first | exact nomark _ | rfl)) (kss_one (ks_set 4 sc_l_draw.nd (ke_ix xd_seq (ke_ix xd_seq (ke_var 0) ke_int) (ke_bin od_mod (ke_callT (cd_intL B.nd) T.no_int bt_int (ka_cons (ke_var 3) ka_nil)) (ke_callB cd_len T.no_len bt_len (ka_cons (ke_ix xd_seq (ke_var 0) ke_int) ka_nil)))))) kss_nil)
      (kss_cons (ks_if (kb_w (kw_and (kb_cmp (od_lt) (ke_var 3) (ke_callB cd_len T.no_len bt_len (ka_cons (ke_ix xd_seq (ke_var 0) ke_int) ka_nil)) (by first | exact nomark _ | rfl)) (kw_and1 (kb_cmp (od_ge) (ke_callB cd_abs T.no_abs bt_abs (ka_cons (ke_var 4) ka_nil)) (ke_bin od_pow ke_int ke_int) (by first | exact nomark _ | rfl))))) (kss_cons (ks_set 5 sc_l_draw.nd (ke_bin od_add (ke_bin od_mul ke_int (ke_bin od_sub (ke_callB cd_abs T.no_abs bt_abs (ka_cons (ke_var 4) ka_nil)) (ke_bin od_pow ke_int ke_int))) (ke_callT (cd_intL B.nd) T.no_int bt_int (ka_cons (ke_cmp (od_lt) (ke_var 4) ke_int (by first | exact nomark _ | rfl)) ka_nil))))
      (kss_cons (ks_sub (ke_var 0) ke_int (ke_bin od_div (ke_callT (cd_intL B.nd) T.no_int bt_int (ka_cons (ke_var 5) ka_nil)) (ke_var 1)))
      (kss_one (ks_ret (ke_bin od_mod (ke_callT (cd_intL B.nd) T.no_int bt_int (ka_cons (ke_var 5) ka_nil)) (ke_var 1)))))) kss_nil)
      (kss_cons (ks_set 6 sc_l_draw.nd (ke_bin od_mod (ke_callT (cd_intL B.nd) T.no_int bt_int (ka_cons (ke_bin od_pow (ke_bin od_add (ke_bin od_add (ke_bin od_mod (ke_callT (cd_intL B.nd) T.no_int bt_int (ka_cons (ke_var 4) ka_nil)) ke_int) (ke_bin od_mul ke_int (ke_var 3))) ke_int) ke_int) ka_nil)) ke_int))
      (kss_cons (ks_set 6 sc_l_draw.nd (ke_bin od_mod (ke_callT (cd_intL B.nd) T.no_int bt_int (ka_cons (ke_bin od_pow (ke_bin od_add (ke_bin od_add (ke_bin od_mul (ke_var 6) (ke_bin od_add (ke_bin od_mul ke_int (ke_var 3)) ke_int)) (ke_bin od_mul (ke_bin od_mul ke_int (ke_var 3)) (ke_var 3))) ke_int) ke_int) ka_nil)) ke_int))
      (kss_one (ks_ret (ke_bin od_mod (ke_callT (cd_intL B.nd) T.no_int bt_int (ka_cons (ke_bin od_div (ke_var 6) ke_int) ka_nil)) (ke_var 1))))))))))))
def m_l_pick : FF := fnF 2 2 (sRet (eBin ixD (eVar 1) (eCall m_l_draw [.p 0, .p 1] 2 0 (cPos (aCons (eVar 0) (aCons (eFn lenD (aCons (eVar 1) aNil)) aNil))))))
theorem k_l_pick (T : Tp P K mg a) (B : Bs base) : KFn P w K mg base 2 657 a.d_l_pick ["_law_pen_here", "_law_some_here"] m_l_pick :=
  kfn_of (k := 1) T.fun_l_pick sc_l_pick fun cdv A outer s H E hr =>
    (kss_one (ks_ret (ke_ix xd_seq (ke_var 1) (ke_call tk_of hr ((k_l_draw T B).mono (by decide)) (b_l_draw_2 T) T.mg__law_draw T.kp_l_draw (kc_pos (ka_cons (ke_var 0) (ka_cons (ke_callB cd_len T.no_len bt_len (ka_cons (ke_var 1) ka_nil)) ka_nil)))))))
def m_l_some : FF := fnF 1 2 (sSeq (sSet 1 (eLst (aCons (eC .non) (aCons (eC (.bl true)) (aCons (eC (.bl false)) (aCons (eC (.int 0)) (aCons (eC (.int 1)) (aCons (eUn negD (eC (.int 7))) (aCons (eBin powD (eC (.int 10)) (eC (.int 39))) (aCons (eC (.str "")) (aCons (eC (.str "a")) (aCons (eC (.str "house")) (aCons (eTup aNil) (aCons (eTup (aCons (eC (.str "a")) (aCons (eC (.int 1)) aNil))) (aCons (eLst aNil) (aCons (eLst (aCons (eC (.str "e")) aNil)) (aCons eDic0 (aCons (eDic (((eC (.str "a")), (eC (.str "b"))) :: [])) (aCons (eTup (aCons (eC (.int 0)) (aCons (eC (.int 15)) aNil))) aNil))))))))))))))))))) (sRet (eCall m_l_pick [.p 0, .p 1] 2 0 (cPos (aCons (eVar 0) (aCons (eVar 1) aNil))))))
theorem k_l_some (T : Tp P K mg a) (B : Bs base) : KFn P w K mg base 3 664 a.d_l_some ["_law_pen_here"] m_l_some :=
  kfn_of (k := 2) T.fun_l_some sc_l_some fun cdv A outer s H E hr =>
    (kss_cons (ks_set 1 sc_l_some.nd (ke_lst (ka_cons ke_non (ka_cons ke_bl (ka_cons ke_bl (ka_cons ke_int (ka_cons ke_int (ka_cons (ke_un od_neg ke_int) (ka_cons (ke_bin od_pow ke_int ke_int) (ka_cons ke_str (ka_cons ke_str (ka_cons ke_str (ka_cons (ke_tup ka_nil) (ka_cons (ke_tup (ka_cons ke_str (ka_cons ke_int ka_nil))) (ka_cons (ke_lst ka_nil) (ka_cons (ke_lst (ka_cons ke_str ka_nil)) (ka_cons ke_dic0 (ka_cons (ke_dict (kps_cons ke_str ke_str kps_nil)) (ka_cons (ke_tup (ka_cons ke_int (ka_cons ke_int ka_nil))) ka_nil)))))))))))))))))))
      (kss_one (ks_ret (ke_call tk_of hr ((k_l_pick T B).mono (by decide)) (b_l_pick_2 T) T.mg__law_pick T.kp_l_pick (kc_pos (ka_cons (ke_var 0) (ka_cons (ke_var 1) ka_nil)))))))
def m_l_two_right : FF := fnF 2 8 (sSeq (sSet 2 (eLst (aCons (eExc 529 ["part", "wish"] [.p 1, .p 2] 2 0 (cPos (aCons (eVar 0) (aCons (eVar 1) aNil)))) (aCons (eExc 529 ["part", "wish"] [.k 1, .k 0] 0 2 (cBoth aNil (aCons (eVar 1) (aCons (eVar 0) aNil)))) aNil)))) (sSeq (sSet 3 (eLst (aCons (eExc 382 ["line", "word"] [.p 1, .p 2] 2 0 (cPos (aCons (eVar 0) (aCons (eVar 1) aNil)))) (aCons (eExc 382 ["line", "word"] [.k 1, .k 0] 0 2 (cBoth aNil (aCons (eVar 1) (aCons (eVar 0) aNil)))) aNil)))) (sSeq (sSet 4 (eLst (aCons (eExc 613 ["what", "most"] [.p 1, .p 2] 2 0 (cPos (aCons (eVar 0) (aCons (eVar 1) aNil)))) (aCons (eExc 613 ["what", "most"] [.k 1, .k 0] 0 2 (cBoth aNil (aCons (eVar 1) (aCons (eVar 0) aNil)))) aNil)))) (sSeq (sSet 5 (eBin addD (eComp (iSeq (eVar 2)) [7] (tfName 7) tYesF (eLst (aCons (eUn (fldT cs_part "part") (eVar 7)) (aCons (eUn (fldT cs_wish "wish") (eVar 7)) aNil)))) (eComp (iSeq (eVar 3)) [7] (tfName 7) tYesF (eLst (aCons (eUn (fldT cs_line "line") (eVar 7)) (aCons (eUn (fldT cs_word "word") (eVar 7)) aNil)))))) (sSeq (sSet 5 (eBin addD (eVar 5) (eComp (iSeq (eVar 4)) [7] (tfName 7) tYesF (eLst (aCons (eUn (fldT cs_what "what") (eVar 7)) (aCons (eUn (fldT cs_most "most") (eVar 7)) aNil)))))) (sSeq (sSet 6 (eBin addD (eComp (iSeq (eVar 2)) [7] (tfName 7) tYesF (eCall m_l_is_alone [.p 0, .p 1] 2 0 (cPos (aCons (eVar 7) (aCons (eC (.int 25)) aNil))))) (eComp (iSeq (eVar 3)) [7] (tfName 7) tYesF (eCall m_l_is_alone [.p 0, .p 1] 2 0 (cPos (aCons (eVar 7) (aCons (eC (.int 26)) aNil))))))) (sSeq (sSet 6 (eBin addD (eBin addD (eVar 6) (eComp (iSeq (eVar 4)) [7] (tfName 7) tYesF (eCall m_l_is_alone [.p 0, .p 1] 2 0 (cPos (aCons (eVar 7) (aCons (eC (.int 27)) aNil)))))) (eLst (aCons (eCall m_l_is_alone [.p 0, .p 1] 2 0 (cPos (aCons (eExc0 634) (aCons (eC (.int 28)) aNil)))) aNil)))) (sRet (eAnd (eCmp eqB (eFn reprR (aCons (eVar 5) aNil)) (eFn reprR (aCons (eBin mulD (eLst (aCons (eLst (aCons (eVar 0) (aCons (eVar 1) aNil))) aNil)) (eC (.int 6))) aNil))) (eCmp eqB (eVar 6) (eBin mulD (eLst (aCons (eC (.bl true)) aNil)) (eC (.int 7)))))))))))))
theorem k_l_two_right (T : Tp P K mg a) (B : Bs base) : KFn P w K mg base 3 684 a.d_l_two_right ["_law_one_so", "_law_two_so"] m_l_two_right :=
  kfn_of (k := 2) T.fun_l_two_right sc_l_two_right fun cdv A outer s H E hr =>
    (kss_cons (ks_set 2 sc_l_two_right.nd (ke_lst (ka_cons (ke_exc T.err_Refused (x_Refused T) (hr.rm.mono (by decide)) (b_Refused_init_3 T) T.mg_Refused (kc_pos (ka_cons (ke_var 0) (ka_cons (ke_var 1) ka_nil))) (by decide)) (ka_cons (ke_exc T.err_Refused (x_Refused T) (hr.rm.mono (by decide)) (b_Refused_init_1_wish_part T) T.mg_Refused (kc_kw (kk_cons (ke_var 1) (kk_cons (ke_var 0) kk_nil))) (by decide)) ka_nil))))
      (kss_cons (ks_set 3 sc_l_two_right.nd (ke_lst (ka_cons (ke_exc T.err_BadText (x_BadText T) (hr.rm.mono (by decide)) (b_BadText_init_3 T) T.mg_BadText (kc_pos (ka_cons (ke_var 0) (ka_cons (ke_var 1) ka_nil))) (by decide)) (ka_cons (ke_exc T.err_BadText (x_BadText T) (hr.rm.mono (by decide)) (b_BadText_init_1_word_line T) T.mg_BadText (kc_kw (kk_cons (ke_var 1) (kk_cons (ke_var 0) kk_nil))) (by decide)) ka_nil))))
      (kss_cons (ks_set 4 sc_l_two_right.nd (ke_lst (ka_cons (ke_exc T.err_TooMany (x_TooMany T) (hr.rm.mono (by decide)) (b_TooMany_init_3 T) T.mg_TooMany (kc_pos (ka_cons (ke_var 0) (ka_cons (ke_var 1) ka_nil))) (by decide)) (ka_cons (ke_exc T.err_TooMany (x_TooMany T) (hr.rm.mono (by decide)) (b_TooMany_init_1_most_what T) T.mg_TooMany (kc_kw (kk_cons (ke_var 1) (kk_cons (ke_var 0) kk_nil))) (by decide)) ka_nil))))
      (kss_cons (ks_set 5 sc_l_two_right.nd (ke_bin od_add (ke_comp (own := [("_law_one", 7)]) sc_l_two_right.nd (ki_seq (ke_var 2)) (blkOk_by (N := ["_law_one_so", "_law_two_so", "_law_made", "_law_texts", "_law_most_so", "_law_told_so", "_law_kinds", "_law_one"]) (sc := defScope s_l_two_right) (by decide +kernel)) (fun _ _ _ _ _ => (kg_name 7 sc_l_two_right.nd)) (fun _ _ _ _ _ => kts_nil) (fun _ _ _ _ _ => (ke_lst (ka_cons (ke_fldT (naB_of T.na_part) (ke_var 7)) (ka_cons (ke_fldT (naB_of T.na_wish) (ke_var 7)) ka_nil))))) (ke_comp (own := [("_law_one", 7)]) sc_l_two_right.nd (ki_seq (ke_var 3)) (blkOk_by (N := ["_law_one_so", "_law_two_so", "_law_made", "_law_texts", "_law_most_so", "_law_told_so", "_law_kinds", "_law_one"]) (sc := defScope s_l_two_right) (by decide +kernel)) (fun _ _ _ _ _ => (kg_name 7 sc_l_two_right.nd)) (fun _ _ _ _ _ => kts_nil) (fun _ _ _ _ _ => (ke_lst (ka_cons (ke_fldT (naB_of T.na_line) (ke_var 7)) (ka_cons (ke_fldT (naB_of T.na_word) (ke_var 7)) ka_nil)))))))
      (kss_cons (ks_set 5 sc_l_two_right.nd (ke_bin od_add (ke_var 5) (ke_comp (own := [("_law_one", 7)]) sc_l_two_right.nd (ki_seq (ke_var 4)) (blkOk_by (N := ["_law_one_so", "_law_two_so", "_law_made", "_law_texts", "_law_most_so", "_law_told_so", "_law_kinds", "_law_one"]) (sc := defScope s_l_two_right) (by decide +kernel)) (fun _ _ _ _ _ => (kg_name 7 sc_l_two_right.nd)) (fun _ _ _ _ _ => kts_nil) (fun _ _ _ _ _ => (ke_lst (ka_cons (ke_fldT (naB_of T.na_what) (ke_var 7)) (ka_cons (ke_fldT (naB_of T.na_most) (ke_var 7)) ka_nil)))))))
      (kss_cons (ks_set 6 sc_l_two_right.nd (ke_bin od_add (ke_comp (own := [("_law_one", 7)]) sc_l_two_right.nd (ki_seq (ke_var 2)) (blkOk_by (N := ["_law_one_so", "_law_two_so", "_law_made", "_law_texts", "_law_most_so", "_law_told_so", "_law_kinds", "_law_one"]) (sc := defScope s_l_two_right) (by decide +kernel)) (fun _ _ _ _ _ => (kg_name 7 sc_l_two_right.nd)) (fun _ _ _ _ _ => kts_nil) (fun _ _ _ _ _ => (ke_call tk0 hr ((k_l_is_alone T B).mono (by decide)) (b_l_is_alone_2 T) T.mg__law_is_alone T.kp_l_is_alone (kc_pos (ka_cons (ke_var 7) (ka_cons ke_int ka_nil)))))) (ke_comp (own := [("_law_one", 7)]) sc_l_two_right.nd (ki_seq (ke_var 3)) (blkOk_by (N := ["_law_one_so", "_law_two_so", "_law_made", "_law_texts", "_law_most_so", "_law_told_so", "_law_kinds", "_law_one"]) (sc := defScope s_l_two_right) (by decide +kernel)) (fun _ _ _ _ _ => (kg_name 7 sc_l_two_right.nd)) (fun _ _ _ _ _ => kts_nil) (fun _ _ _ _ _ => (ke_call tk0 hr ((k_l_is_alone T B).mono (by decide)) (b_l_is_alone_2 T) T.mg__law_is_alone T.kp_l_is_alone (kc_pos (ka_cons (ke_var 7) (ka_cons ke_int ka_nil))))))))
      (kss_cons (ks_set 6 sc_l_two_right.nd (ke_bin od_add (ke_bin od_add (ke_var 6) (ke_comp (own := [("_law_one", 7)]) sc_l_two_right.nd (ki_seq (ke_var 4)) (blkOk_by (N := ["_law_one_so", "_law_two_so", "_law_made", "_law_texts", "_law_most_so", "_law_told_so", "_law_kinds", "_law_one"]) (sc := defScope s_l_two_right) (by decide +kernel)) (fun _ _ _ _ _ => (kg_name 7 sc_l_two_right.nd)) (fun _ _ _ _ _ => kts_nil) (fun _ _ _ _ _ => (ke_call tk0 hr ((k_l_is_alone T B).mono (by decide)) (b_l_is_alone_2 T) T.mg__law_is_alone T.kp_l_is_alone (kc_pos (ka_cons (ke_var 7) (ka_cons ke_int ka_nil))))))) (ke_lst (ka_cons (ke_call tk_of hr ((k_l_is_alone T B).mono (by decide)) (b_l_is_alone_2 T) T.mg__law_is_alone T.kp_l_is_alone (kc_pos (ka_cons (ke_exc0 T.err_Nothing (x_Nothing T) (hr.rm.mono (by decide)) (eb_Nothing T) T.mg_Nothing) (ka_cons ke_int ka_nil)))) ka_nil))))
      (kss_one (ks_ret (ke_and (ke_cmp (od_eq hr.u) (ke_callB (cd_reprR hr) T.no_repr bt_repr (ka_cons (ke_var 5) ka_nil)) (ke_callB (cd_reprR hr) T.no_repr bt_repr (ka_cons (ke_bin od_mul (ke_lst (ka_cons (ke_lst (ka_cons (ke_var 0) (ka_cons (ke_var 1) ka_nil))) ka_nil)) ke_int) ka_nil)) (by first | exact nomark _ | rfl)) (ke_one (ke_cmp (od_eq hr.u) (ke_var 6) (ke_bin od_mul (ke_lst (ka_cons ke_bl ka_nil)) ke_int) (by first | exact nomark _ | rfl)))))))))))))
def m_law : FF := fnF 1 11 (sSeq (sSet 1 (eCall m_l_pen [.p 0] 1 0 (cPos (aCons (eVar 0) aNil)))) (sSeq (sFor (iRng1 (aCons (eC (.int 4)) aNil)) (tfName 2) (sSeq (sPar 3 4 (aCons (eCall m_l_some [.p 0] 1 0 (cPos (aCons (eVar 1) aNil))) (aCons (eCall m_l_some [.p 0] 1 0 (cPos (aCons (eVar 1) aNil))) aNil))) (sSeq (sSet 5 (eBin addD (eCall m_l_parts [.p 0, .p 1] 2 0 (cPos (aCons (eVar 3) (aCons (eVar 4) aNil)))) (eCall m_l_names [.p 0, .p 1] 2 0 (cPos (aCons (eVar 3) (aCons (eVar 4) aNil)))))) (sSeq (sFor (iRng1 (aCons (eFn lenD (aCons (eVar 5) aNil)) aNil)) (tfName 6) (sSeq (sAsg (tfTup 4 (tfCons (tfName 7) (tfCons (tfName 8) (tfCons (tfName 9) (tfCons (tfName 10) tfNil))))) (eBin ixD (eVar 5) (eVar 6))) (sSeq (sIf (bOr (bCmp neB (eFn reprR (aCons (eVar 8) aNil)) (eFn reprR (aCons (eVar 3) aNil))) (bCmp neB (eFn reprR (aCons (eVar 10) aNil)) (eFn reprR (aCons (eVar 4) aNil)))) (sRet (eC (.bl false))) sNil) (sIf (bOr (bNot (bTru (eCall m_l_is_alone [.p 0, .p 1] 2 0 (cPos (aCons (eVar 7) (aCons (eVar 6) aNil)))))) (bNot (bTru (eCall m_l_is_alone [.p 0, .p 1] 2 0 (cPos (aCons (eVar 9) (aCons (eVar 6) aNil))))))) (sRet (eC (.bl false))) sNil)))) (sIf (bNot (bTru (eCall m_l_two_right [.p 0, .p 1] 2 0 (cPos (aCons (eVar 3) (aCons (eVar 4) aNil)))))) (sRet (eC (.bl false))) sNil))))) (sRet (eNot (eFn (isiT isi) (aCons (eVE (aCons (eC (.str "a")) aNil)) (aCons (eC (.obj 24)) aNil)))))))
theorem k_law (T : Tp P K mg a) (B : Bs base) : KFn P w K mg base 4 691 a.d_law ["_law_script"] m_law :=
  kfn_of (k := 3) T.fun_law sc_law fun cdv A outer s H E hr =>
    (kss_cons (ks_set 1 sc_law.nd (ke_call tk_of hr ((k_l_pen T B).mono (by decide)) (b_l_pen_1 T) T.mg__law_pen T.kp_l_pen (kc_pos (ka_cons (ke_var 0) ka_nil))))
      (kss_cons (ks_for (passes_of rfl) (ki_range1 T.no_range (ka_cons ke_int ka_nil)) (kg_name 2 sc_law.nd) (kss_cons (ks_par 3 4 sc_law.nd (ka_cons (ke_call tk_of hr ((k_l_some T B).mono (by decide)) (b_l_some_1 T) T.mg__law_some T.kp_l_some (kc_pos (ka_cons (ke_var 1) ka_nil))) (ka_cons (ke_call tk_of hr ((k_l_some T B).mono (by decide)) (b_l_some_1 T) T.mg__law_some T.kp_l_some (kc_pos (ka_cons (ke_var 1) ka_nil))) ka_nil)))
      (kss_cons (ks_set 5 sc_law.nd (ke_bin od_add (ke_call tk_of hr ((k_l_parts T B).mono (by decide)) (b_l_parts_2 T) T.mg__law_parts T.kp_l_parts (kc_pos (ka_cons (ke_var 3) (ka_cons (ke_var 4) ka_nil)))) (ke_call tk_of hr ((k_l_names T B).mono (by decide)) (b_l_names_2 T) T.mg__law_names T.kp_l_names (kc_pos (ka_cons (ke_var 3) (ka_cons (ke_var 4) ka_nil))))))
      (kss_cons (ks_for (passes_of rfl) (ki_range1 T.no_range (ka_cons (ke_callB cd_len T.no_len bt_len (ka_cons (ke_var 5) ka_nil)) ka_nil)) (kg_name 6 sc_law.nd) (kss_cons (ks_asg (ke_ix xd_seq (ke_var 5) (ke_var 6)) (kg_tup (kgs_cons (kg_name 7 sc_law.nd) (kgs_cons (kg_name 8 sc_law.nd) (kgs_cons (kg_name 9 sc_law.nd) (kgs_cons (kg_name 10 sc_law.nd) kgs_nil))))))
      (kss_cons (ks_if (kb_w (kw_or (kb_cmp (od_ne hr.u) (ke_callB (cd_reprR hr) T.no_repr bt_repr (ka_cons (ke_var 8) ka_nil)) (ke_callB (cd_reprR hr) T.no_repr bt_repr (ka_cons (ke_var 3) ka_nil)) (by first | exact nomark _ | rfl)) (kw_or1 (kb_cmp (od_ne hr.u) (ke_callB (cd_reprR hr) T.no_repr bt_repr (ka_cons (ke_var 10) ka_nil)) (ke_callB (cd_reprR hr) T.no_repr bt_repr (ka_cons (ke_var 4) ka_nil)) (by first | exact nomark _ | rfl))))) (kss_one (ks_ret ke_bl)) kss_nil)
      (kss_one (ks_if (kb_w (kw_or (kb_not (kb_tru (ke_call tk_of hr ((k_l_is_alone T B).mono (by decide)) (b_l_is_alone_2 T) T.mg__law_is_alone T.kp_l_is_alone (kc_pos (ka_cons (ke_var 7) (ka_cons (ke_var 6) ka_nil)))))) (kw_or1 (kb_not (kb_tru (ke_call tk_of hr ((k_l_is_alone T B).mono (by decide)) (b_l_is_alone_2 T) T.mg__law_is_alone T.kp_l_is_alone (kc_pos (ka_cons (ke_var 9) (ka_cons (ke_var 6) ka_nil))))))))) (kss_one (ks_ret ke_bl)) kss_nil)))))
      (kss_one (ks_if (kb_not (kb_tru (ke_call tk_of hr ((k_l_two_right T B).mono (by decide)) (b_l_two_right_2 T) T.mg__law_two_right T.kp_l_two_right (kc_pos (ka_cons (ke_var 3) (ka_cons (ke_var 4) ka_nil)))))) (kss_one (ks_ret ke_bl)) kss_nil))))))
      (kss_one (ks_ret (ke_not (ke_callB (cd_isiT T.isi) T.no_isinstance bt_isinstance (ka_cons (ke_ve T.no_ValueError (ka_cons ke_str ka_nil)) (ka_cons (ke_obj T.mg_StayError) ka_nil))))))))
end
theorem mk_tp {K : Frag} {h : Heap} {mg : Str → Option Value}
    {oc_l_is_alone kV_l_is_alone dc_l_is_alone pm_l_is_alone ct_l_is_alone : Value} {od_l_is_alone an_l_is_alone : Option Addr} {sl_l_is_alone : Array (Option Value)}
    {oc_l_names kV_l_names dc_l_names pm_l_names ct_l_names : Value} {od_l_names an_l_names : Option Addr} {sl_l_names : Array (Option Value)}
    {oc_l_parts kV_l_parts dc_l_parts pm_l_parts ct_l_parts : Value} {od_l_parts an_l_parts : Option Addr} {sl_l_parts : Array (Option Value)}
    {oc_l_pen kV_l_pen dc_l_pen pm_l_pen ct_l_pen : Value} {od_l_pen an_l_pen : Option Addr} {sl_l_pen : Array (Option Value)}
    {oc_l_draw kV_l_draw dc_l_draw pm_l_draw ct_l_draw : Value} {od_l_draw an_l_draw : Option Addr} {sl_l_draw : Array (Option Value)}
    {oc_l_pick kV_l_pick dc_l_pick pm_l_pick ct_l_pick : Value} {od_l_pick an_l_pick : Option Addr} {sl_l_pick : Array (Option Value)}
    {oc_l_some kV_l_some dc_l_some pm_l_some ct_l_some : Value} {od_l_some an_l_some : Option Addr} {sl_l_some : Array (Option Value)}
    {oc_l_two_right kV_l_two_right dc_l_two_right pm_l_two_right ct_l_two_right : Value} {od_l_two_right an_l_two_right : Option Addr} {sl_l_two_right : Array (Option Value)}
    {oc_law kV_law dc_law pm_law ct_law : Value} {od_law an_law : Option Addr} {sl_law : Array (Option Value)}
    {oc_BadBook_init kV_BadBook_init dc_BadBook_init pm_BadBook_init ct_BadBook_init : Value} {od_BadBook_init an_BadBook_init : Option Addr} {sl_BadBook_init : Array (Option Value)}
    {oc_BadCalendar_init kV_BadCalendar_init dc_BadCalendar_init pm_BadCalendar_init ct_BadCalendar_init : Value} {od_BadCalendar_init an_BadCalendar_init : Option Addr} {sl_BadCalendar_init : Array (Option Value)}
    {oc_BadCounts_init kV_BadCounts_init dc_BadCounts_init pm_BadCounts_init ct_BadCounts_init : Value} {od_BadCounts_init an_BadCounts_init : Option Addr} {sl_BadCounts_init : Array (Option Value)}
    {oc_BadHouse_init kV_BadHouse_init dc_BadHouse_init pm_BadHouse_init ct_BadHouse_init : Value} {od_BadHouse_init an_BadHouse_init : Option Addr} {sl_BadHouse_init : Array (Option Value)}
    {oc_BadLimit_init kV_BadLimit_init dc_BadLimit_init pm_BadLimit_init ct_BadLimit_init : Value} {od_BadLimit_init an_BadLimit_init : Option Addr} {sl_BadLimit_init : Array (Option Value)}
    {oc_BadLine_init kV_BadLine_init dc_BadLine_init pm_BadLine_init ct_BadLine_init : Value} {od_BadLine_init an_BadLine_init : Option Addr} {sl_BadLine_init : Array (Option Value)}
    {oc_BadLines_init kV_BadLines_init dc_BadLines_init pm_BadLines_init ct_BadLines_init : Value} {od_BadLines_init an_BadLines_init : Option Addr} {sl_BadLines_init : Array (Option Value)}
    {oc_BadName_init kV_BadName_init dc_BadName_init pm_BadName_init ct_BadName_init : Value} {od_BadName_init an_BadName_init : Option Addr} {sl_BadName_init : Array (Option Value)}
    {oc_BadNumber_init kV_BadNumber_init dc_BadNumber_init pm_BadNumber_init ct_BadNumber_init : Value} {od_BadNumber_init an_BadNumber_init : Option Addr} {sl_BadNumber_init : Array (Option Value)}
    {oc_BadPlan_init kV_BadPlan_init dc_BadPlan_init pm_BadPlan_init ct_BadPlan_init : Value} {od_BadPlan_init an_BadPlan_init : Option Addr} {sl_BadPlan_init : Array (Option Value)}
    {oc_BadPromise_init kV_BadPromise_init dc_BadPromise_init pm_BadPromise_init ct_BadPromise_init : Value} {od_BadPromise_init an_BadPromise_init : Option Addr} {sl_BadPromise_init : Array (Option Value)}
    {oc_BadRow_init kV_BadRow_init dc_BadRow_init pm_BadRow_init ct_BadRow_init : Value} {od_BadRow_init an_BadRow_init : Option Addr} {sl_BadRow_init : Array (Option Value)}
    {oc_BadRule_init kV_BadRule_init dc_BadRule_init pm_BadRule_init ct_BadRule_init : Value} {od_BadRule_init an_BadRule_init : Option Addr} {sl_BadRule_init : Array (Option Value)}
    {oc_BadSite_init kV_BadSite_init dc_BadSite_init pm_BadSite_init ct_BadSite_init : Value} {od_BadSite_init an_BadSite_init : Option Addr} {sl_BadSite_init : Array (Option Value)}
    {oc_BadStay_init kV_BadStay_init dc_BadStay_init pm_BadStay_init ct_BadStay_init : Value} {od_BadStay_init an_BadStay_init : Option Addr} {sl_BadStay_init : Array (Option Value)}
    {oc_BadStock_init kV_BadStock_init dc_BadStock_init pm_BadStock_init ct_BadStock_init : Value} {od_BadStock_init an_BadStock_init : Option Addr} {sl_BadStock_init : Array (Option Value)}
    {oc_BadText_init kV_BadText_init dc_BadText_init pm_BadText_init ct_BadText_init : Value} {od_BadText_init an_BadText_init : Option Addr} {sl_BadText_init : Array (Option Value)}
    {oc_BadWish_init kV_BadWish_init dc_BadWish_init pm_BadWish_init ct_BadWish_init : Value} {od_BadWish_init an_BadWish_init : Option Addr} {sl_BadWish_init : Array (Option Value)}
    {oc_Barred_init kV_Barred_init dc_Barred_init pm_Barred_init ct_Barred_init : Value} {od_Barred_init an_Barred_init : Option Addr} {sl_Barred_init : Array (Option Value)}
    {oc_NoBay_init kV_NoBay_init dc_NoBay_init pm_NoBay_init ct_NoBay_init : Value} {od_NoBay_init an_NoBay_init : Option Addr} {sl_NoBay_init : Array (Option Value)}
    {oc_NoGate_init kV_NoGate_init dc_NoGate_init pm_NoGate_init ct_NoGate_init : Value} {od_NoGate_init an_NoGate_init : Option Addr} {sl_NoGate_init : Array (Option Value)}
    {oc_NoGuest_init kV_NoGuest_init dc_NoGuest_init pm_NoGuest_init ct_NoGuest_init : Value} {od_NoGuest_init an_NoGuest_init : Option Addr} {sl_NoGuest_init : Array (Option Value)}
    {oc_NoHall_init kV_NoHall_init dc_NoHall_init pm_NoHall_init ct_NoHall_init : Value} {od_NoHall_init an_NoHall_init : Option Addr} {sl_NoHall_init : Array (Option Value)}
    {oc_NoSite_init kV_NoSite_init dc_NoSite_init pm_NoSite_init ct_NoSite_init : Value} {od_NoSite_init an_NoSite_init : Option Addr} {sl_NoSite_init : Array (Option Value)}
    {oc_NoWish_init kV_NoWish_init dc_NoWish_init pm_NoWish_init ct_NoWish_init : Value} {od_NoWish_init an_NoWish_init : Option Addr} {sl_NoWish_init : Array (Option Value)}
    {oc_Nothing_init kV_Nothing_init dc_Nothing_init pm_Nothing_init ct_Nothing_init : Value} {od_Nothing_init an_Nothing_init : Option Addr} {sl_Nothing_init : Array (Option Value)}
    {oc_Refused_init kV_Refused_init dc_Refused_init pm_Refused_init ct_Refused_init : Value} {od_Refused_init an_Refused_init : Option Addr} {sl_Refused_init : Array (Option Value)}
    {oc_TooMany_init kV_TooMany_init dc_TooMany_init pm_TooMany_init ct_TooMany_init : Value} {od_TooMany_init an_TooMany_init : Option Addr} {sl_TooMany_init : Array (Option Value)}
    {oc_Unbounded_init kV_Unbounded_init dc_Unbounded_init pm_Unbounded_init ct_Unbounded_init : Value} {od_Unbounded_init an_Unbounded_init : Option Addr} {sl_Unbounded_init : Array (Option Value)}
    (X : K.In h) (G : h.Ns mainGlobals mg) (l_l_is_alone : K.lookup 679 = some ⟨oc_l_is_alone, od_l_is_alone, .func (PySem.W.fnOf "_law_is_alone" "_law_is_alone" (defArgs s_l_is_alone) (defBody s_l_is_alone) (defScope s_l_is_alone) .none kV_l_is_alone dc_l_is_alone pm_l_is_alone an_l_is_alone (.ref 678) ct_l_is_alone), sl_l_is_alone⟩)
    (l_l_names : K.lookup 674 = some ⟨oc_l_names, od_l_names, .func (PySem.W.fnOf "_law_names" "_law_names" (defArgs s_l_names) (defBody s_l_names) (defScope s_l_names) .none kV_l_names dc_l_names pm_l_names an_l_names (.ref 673) ct_l_names), sl_l_names⟩)
    (l_l_parts : K.lookup 669 = some ⟨oc_l_parts, od_l_parts, .func (PySem.W.fnOf "_law_parts" "_law_parts" (defArgs s_l_parts) (defBody s_l_parts) (defScope s_l_parts) .none kV_l_parts dc_l_parts pm_l_parts an_l_parts (.ref 668) ct_l_parts), sl_l_parts⟩)
    (l_l_pen : K.lookup 643 = some ⟨oc_l_pen, od_l_pen, .func (PySem.W.fnOf "_law_pen" "_law_pen" (defArgs s_l_pen) (defBody s_l_pen) (defScope s_l_pen) .none kV_l_pen dc_l_pen pm_l_pen an_l_pen (.ref 642) ct_l_pen), sl_l_pen⟩)
    (l_l_draw : K.lookup 650 = some ⟨oc_l_draw, od_l_draw, .func (PySem.W.fnOf "_law_draw" "_law_draw" (defArgs s_l_draw) (defBody s_l_draw) (defScope s_l_draw) .none kV_l_draw dc_l_draw pm_l_draw an_l_draw (.ref 649) ct_l_draw), sl_l_draw⟩)
    (l_l_pick : K.lookup 657 = some ⟨oc_l_pick, od_l_pick, .func (PySem.W.fnOf "_law_pick" "_law_pick" (defArgs s_l_pick) (defBody s_l_pick) (defScope s_l_pick) .none kV_l_pick dc_l_pick pm_l_pick an_l_pick (.ref 656) ct_l_pick), sl_l_pick⟩)
    (l_l_some : K.lookup 664 = some ⟨oc_l_some, od_l_some, .func (PySem.W.fnOf "_law_some" "_law_some" (defArgs s_l_some) (defBody s_l_some) (defScope s_l_some) .none kV_l_some dc_l_some pm_l_some an_l_some (.ref 663) ct_l_some), sl_l_some⟩)
    (l_l_two_right : K.lookup 684 = some ⟨oc_l_two_right, od_l_two_right, .func (PySem.W.fnOf "_law_two_right" "_law_two_right" (defArgs s_l_two_right) (defBody s_l_two_right) (defScope s_l_two_right) .none kV_l_two_right dc_l_two_right pm_l_two_right an_l_two_right (.ref 683) ct_l_two_right), sl_l_two_right⟩)
    (l_law : K.lookup 691 = some ⟨oc_law, od_law, .func (PySem.W.fnOf "law" "law" (defArgs s_law) (defBody s_law) (defScope s_law) .none kV_law dc_law pm_law an_law (.ref 690) ct_law), sl_law⟩)
    (l_BadBook_init : K.lookup 253 = some ⟨oc_BadBook_init, od_BadBook_init, .func (PySem.W.ksFn "__init__" "BadBook.__init__" (defArgs s_BadBook_init) (defBody s_BadBook_init) (defScope s_BadBook_init) .none kV_BadBook_init dc_BadBook_init pm_BadBook_init an_BadBook_init (.ref 252) ct_BadBook_init 241), sl_BadBook_init⟩)
    (l_BadCalendar_init : K.lookup 274 = some ⟨oc_BadCalendar_init, od_BadCalendar_init, .func (PySem.W.ksFn "__init__" "BadCalendar.__init__" (defArgs s_BadCalendar_init) (defBody s_BadCalendar_init) (defScope s_BadCalendar_init) .none kV_BadCalendar_init dc_BadCalendar_init pm_BadCalendar_init an_BadCalendar_init (.ref 273) ct_BadCalendar_init 262), sl_BadCalendar_init⟩)
    (l_BadCounts_init : K.lookup 190 = some ⟨oc_BadCounts_init, od_BadCounts_init, .func (PySem.W.ksFn "__init__" "BadCounts.__init__" (defArgs s_BadCounts_init) (defBody s_BadCounts_init) (defScope s_BadCounts_init) .none kV_BadCounts_init dc_BadCounts_init pm_BadCounts_init an_BadCounts_init (.ref 189) ct_BadCounts_init 178), sl_BadCounts_init⟩)
    (l_BadHouse_init : K.lookup 316 = some ⟨oc_BadHouse_init, od_BadHouse_init, .func (PySem.W.ksFn "__init__" "BadHouse.__init__" (defArgs s_BadHouse_init) (defBody s_BadHouse_init) (defScope s_BadHouse_init) .none kV_BadHouse_init dc_BadHouse_init pm_BadHouse_init an_BadHouse_init (.ref 315) ct_BadHouse_init 304), sl_BadHouse_init⟩)
    (l_BadLimit_init : K.lookup 106 = some ⟨oc_BadLimit_init, od_BadLimit_init, .func (PySem.W.ksFn "__init__" "BadLimit.__init__" (defArgs s_BadLimit_init) (defBody s_BadLimit_init) (defScope s_BadLimit_init) .none kV_BadLimit_init dc_BadLimit_init pm_BadLimit_init an_BadLimit_init (.ref 105) ct_BadLimit_init 94), sl_BadLimit_init⟩)
    (l_BadLine_init : K.lookup 400 = some ⟨oc_BadLine_init, od_BadLine_init, .func (PySem.W.ksFn "__init__" "BadLine.__init__" (defArgs s_BadLine_init) (defBody s_BadLine_init) (defScope s_BadLine_init) .none kV_BadLine_init dc_BadLine_init pm_BadLine_init an_BadLine_init (.ref 399) ct_BadLine_init 388), sl_BadLine_init⟩)
    (l_BadLines_init : K.lookup 295 = some ⟨oc_BadLines_init, od_BadLines_init, .func (PySem.W.ksFn "__init__" "BadLines.__init__" (defArgs s_BadLines_init) (defBody s_BadLines_init) (defScope s_BadLines_init) .none kV_BadLines_init dc_BadLines_init pm_BadLines_init an_BadLines_init (.ref 294) ct_BadLines_init 283), sl_BadLines_init⟩)
    (l_BadName_init : K.lookup 358 = some ⟨oc_BadName_init, od_BadName_init, .func (PySem.W.ksFn "__init__" "BadName.__init__" (defArgs s_BadName_init) (defBody s_BadName_init) (defScope s_BadName_init) .none kV_BadName_init dc_BadName_init pm_BadName_init an_BadName_init (.ref 357) ct_BadName_init 346), sl_BadName_init⟩)
    (l_BadNumber_init : K.lookup 337 = some ⟨oc_BadNumber_init, od_BadNumber_init, .func (PySem.W.ksFn "__init__" "BadNumber.__init__" (defArgs s_BadNumber_init) (defBody s_BadNumber_init) (defScope s_BadNumber_init) .none kV_BadNumber_init dc_BadNumber_init pm_BadNumber_init an_BadNumber_init (.ref 336) ct_BadNumber_init 325), sl_BadNumber_init⟩)
    (l_BadPlan_init : K.lookup 85 = some ⟨oc_BadPlan_init, od_BadPlan_init, .func (PySem.W.ksFn "__init__" "BadPlan.__init__" (defArgs s_BadPlan_init) (defBody s_BadPlan_init) (defScope s_BadPlan_init) .none kV_BadPlan_init dc_BadPlan_init pm_BadPlan_init an_BadPlan_init (.ref 84) ct_BadPlan_init 73), sl_BadPlan_init⟩)
    (l_BadPromise_init : K.lookup 127 = some ⟨oc_BadPromise_init, od_BadPromise_init, .func (PySem.W.ksFn "__init__" "BadPromise.__init__" (defArgs s_BadPromise_init) (defBody s_BadPromise_init) (defScope s_BadPromise_init) .none kV_BadPromise_init dc_BadPromise_init pm_BadPromise_init an_BadPromise_init (.ref 126) ct_BadPromise_init 115), sl_BadPromise_init⟩)
    (l_BadRow_init : K.lookup 148 = some ⟨oc_BadRow_init, od_BadRow_init, .func (PySem.W.ksFn "__init__" "BadRow.__init__" (defArgs s_BadRow_init) (defBody s_BadRow_init) (defScope s_BadRow_init) .none kV_BadRow_init dc_BadRow_init pm_BadRow_init an_BadRow_init (.ref 147) ct_BadRow_init 136), sl_BadRow_init⟩)
    (l_BadRule_init : K.lookup 211 = some ⟨oc_BadRule_init, od_BadRule_init, .func (PySem.W.ksFn "__init__" "BadRule.__init__" (defArgs s_BadRule_init) (defBody s_BadRule_init) (defScope s_BadRule_init) .none kV_BadRule_init dc_BadRule_init pm_BadRule_init an_BadRule_init (.ref 210) ct_BadRule_init 199), sl_BadRule_init⟩)
    (l_BadSite_init : K.lookup 64 = some ⟨oc_BadSite_init, od_BadSite_init, .func (PySem.W.ksFn "__init__" "BadSite.__init__" (defArgs s_BadSite_init) (defBody s_BadSite_init) (defScope s_BadSite_init) .none kV_BadSite_init dc_BadSite_init pm_BadSite_init an_BadSite_init (.ref 63) ct_BadSite_init 52), sl_BadSite_init⟩)
    (l_BadStay_init : K.lookup 232 = some ⟨oc_BadStay_init, od_BadStay_init, .func (PySem.W.ksFn "__init__" "BadStay.__init__" (defArgs s_BadStay_init) (defBody s_BadStay_init) (defScope s_BadStay_init) .none kV_BadStay_init dc_BadStay_init pm_BadStay_init an_BadStay_init (.ref 231) ct_BadStay_init 220), sl_BadStay_init⟩)
    (l_BadStock_init : K.lookup 169 = some ⟨oc_BadStock_init, od_BadStock_init, .func (PySem.W.ksFn "__init__" "BadStock.__init__" (defArgs s_BadStock_init) (defBody s_BadStock_init) (defScope s_BadStock_init) .none kV_BadStock_init dc_BadStock_init pm_BadStock_init an_BadStock_init (.ref 168) ct_BadStock_init 157), sl_BadStock_init⟩)
    (l_BadText_init : K.lookup 379 = some ⟨oc_BadText_init, od_BadText_init, .func (PySem.W.ksFn "__init__" "BadText.__init__" (defArgs s_BadText_init) (defBody s_BadText_init) (defScope s_BadText_init) .none kV_BadText_init dc_BadText_init pm_BadText_init an_BadText_init (.ref 378) ct_BadText_init 367), sl_BadText_init⟩)
    (l_BadWish_init : K.lookup 43 = some ⟨oc_BadWish_init, od_BadWish_init, .func (PySem.W.ksFn "__init__" "BadWish.__init__" (defArgs s_BadWish_init) (defBody s_BadWish_init) (defScope s_BadWish_init) .none kV_BadWish_init dc_BadWish_init pm_BadWish_init an_BadWish_init (.ref 42) ct_BadWish_init 31), sl_BadWish_init⟩)
    (l_Barred_init : K.lookup 589 = some ⟨oc_Barred_init, od_Barred_init, .func (PySem.W.ksFn "__init__" "Barred.__init__" (defArgs s_Barred_init) (defBody s_Barred_init) (defScope s_Barred_init) .none kV_Barred_init dc_Barred_init pm_Barred_init an_Barred_init (.ref 588) ct_Barred_init 577), sl_Barred_init⟩)
    (l_NoBay_init : K.lookup 547 = some ⟨oc_NoBay_init, od_NoBay_init, .func (PySem.W.ksFn "__init__" "NoBay.__init__" (defArgs s_NoBay_init) (defBody s_NoBay_init) (defScope s_NoBay_init) .none kV_NoBay_init dc_NoBay_init pm_NoBay_init an_NoBay_init (.ref 546) ct_NoBay_init 535), sl_NoBay_init⟩)
    (l_NoGate_init : K.lookup 505 = some ⟨oc_NoGate_init, od_NoGate_init, .func (PySem.W.ksFn "__init__" "NoGate.__init__" (defArgs s_NoGate_init) (defBody s_NoGate_init) (defScope s_NoGate_init) .none kV_NoGate_init dc_NoGate_init pm_NoGate_init an_NoGate_init (.ref 504) ct_NoGate_init 493), sl_NoGate_init⟩)
    (l_NoGuest_init : K.lookup 463 = some ⟨oc_NoGuest_init, od_NoGuest_init, .func (PySem.W.ksFn "__init__" "NoGuest.__init__" (defArgs s_NoGuest_init) (defBody s_NoGuest_init) (defScope s_NoGuest_init) .none kV_NoGuest_init dc_NoGuest_init pm_NoGuest_init an_NoGuest_init (.ref 462) ct_NoGuest_init 451), sl_NoGuest_init⟩)
    (l_NoHall_init : K.lookup 484 = some ⟨oc_NoHall_init, od_NoHall_init, .func (PySem.W.ksFn "__init__" "NoHall.__init__" (defArgs s_NoHall_init) (defBody s_NoHall_init) (defScope s_NoHall_init) .none kV_NoHall_init dc_NoHall_init pm_NoHall_init an_NoHall_init (.ref 483) ct_NoHall_init 472), sl_NoHall_init⟩)
    (l_NoSite_init : K.lookup 442 = some ⟨oc_NoSite_init, od_NoSite_init, .func (PySem.W.ksFn "__init__" "NoSite.__init__" (defArgs s_NoSite_init) (defBody s_NoSite_init) (defScope s_NoSite_init) .none kV_NoSite_init dc_NoSite_init pm_NoSite_init an_NoSite_init (.ref 441) ct_NoSite_init 430), sl_NoSite_init⟩)
    (l_NoWish_init : K.lookup 421 = some ⟨oc_NoWish_init, od_NoWish_init, .func (PySem.W.ksFn "__init__" "NoWish.__init__" (defArgs s_NoWish_init) (defBody s_NoWish_init) (defScope s_NoWish_init) .none kV_NoWish_init dc_NoWish_init pm_NoWish_init an_NoWish_init (.ref 420) ct_NoWish_init 409), sl_NoWish_init⟩)
    (l_Nothing_init : K.lookup 631 = some ⟨oc_Nothing_init, od_Nothing_init, .func (PySem.W.ksFn "__init__" "Nothing.__init__" (defArgs s_Nothing_init) (defBody s_Nothing_init) (defScope s_Nothing_init) .none kV_Nothing_init dc_Nothing_init pm_Nothing_init an_Nothing_init (.ref 630) ct_Nothing_init 619), sl_Nothing_init⟩)
    (l_Refused_init : K.lookup 526 = some ⟨oc_Refused_init, od_Refused_init, .func (PySem.W.ksFn "__init__" "Refused.__init__" (defArgs s_Refused_init) (defBody s_Refused_init) (defScope s_Refused_init) .none kV_Refused_init dc_Refused_init pm_Refused_init an_Refused_init (.ref 525) ct_Refused_init 514), sl_Refused_init⟩)
    (l_TooMany_init : K.lookup 610 = some ⟨oc_TooMany_init, od_TooMany_init, .func (PySem.W.ksFn "__init__" "TooMany.__init__" (defArgs s_TooMany_init) (defBody s_TooMany_init) (defScope s_TooMany_init) .none kV_TooMany_init dc_TooMany_init pm_TooMany_init an_TooMany_init (.ref 609) ct_TooMany_init 598), sl_TooMany_init⟩)
    (l_Unbounded_init : K.lookup 568 = some ⟨oc_Unbounded_init, od_Unbounded_init, .func (PySem.W.ksFn "__init__" "Unbounded.__init__" (defArgs s_Unbounded_init) (defBody s_Unbounded_init) (defScope s_Unbounded_init) .none kV_Unbounded_init dc_Unbounded_init pm_Unbounded_init an_Unbounded_init (.ref 567) ct_Unbounded_init 556), sl_Unbounded_init⟩)
    (tt : topB K = true) : ∃ a : Ad, Tp PySem.Challenge.pw_stayhouse_k00_errors_and_their_fields K mg a ∧ ∀ (s : Shared) (u : Value), BindsTo s a.d_law ⟨[u], []⟩ [("_law_script", u)] :=
  have t := topB_of tt
  ⟨{
    d_l_is_alone := PySem.W.fnOf "_law_is_alone" "_law_is_alone" (defArgs s_l_is_alone) (defBody s_l_is_alone) (defScope s_l_is_alone) .none kV_l_is_alone dc_l_is_alone pm_l_is_alone an_l_is_alone (.ref 678) ct_l_is_alone
    d_l_names := PySem.W.fnOf "_law_names" "_law_names" (defArgs s_l_names) (defBody s_l_names) (defScope s_l_names) .none kV_l_names dc_l_names pm_l_names an_l_names (.ref 673) ct_l_names
    d_l_parts := PySem.W.fnOf "_law_parts" "_law_parts" (defArgs s_l_parts) (defBody s_l_parts) (defScope s_l_parts) .none kV_l_parts dc_l_parts pm_l_parts an_l_parts (.ref 668) ct_l_parts
    d_l_pen := PySem.W.fnOf "_law_pen" "_law_pen" (defArgs s_l_pen) (defBody s_l_pen) (defScope s_l_pen) .none kV_l_pen dc_l_pen pm_l_pen an_l_pen (.ref 642) ct_l_pen
    d_l_draw := PySem.W.fnOf "_law_draw" "_law_draw" (defArgs s_l_draw) (defBody s_l_draw) (defScope s_l_draw) .none kV_l_draw dc_l_draw pm_l_draw an_l_draw (.ref 649) ct_l_draw
    d_l_pick := PySem.W.fnOf "_law_pick" "_law_pick" (defArgs s_l_pick) (defBody s_l_pick) (defScope s_l_pick) .none kV_l_pick dc_l_pick pm_l_pick an_l_pick (.ref 656) ct_l_pick
    d_l_some := PySem.W.fnOf "_law_some" "_law_some" (defArgs s_l_some) (defBody s_l_some) (defScope s_l_some) .none kV_l_some dc_l_some pm_l_some an_l_some (.ref 663) ct_l_some
    d_l_two_right := PySem.W.fnOf "_law_two_right" "_law_two_right" (defArgs s_l_two_right) (defBody s_l_two_right) (defScope s_l_two_right) .none kV_l_two_right dc_l_two_right pm_l_two_right an_l_two_right (.ref 683) ct_l_two_right
    d_law := PySem.W.fnOf "law" "law" (defArgs s_law) (defBody s_law) (defScope s_law) .none kV_law dc_law pm_law an_law (.ref 690) ct_law
    d_BadBook_init := PySem.W.ksFn "__init__" "BadBook.__init__" (defArgs s_BadBook_init) (defBody s_BadBook_init) (defScope s_BadBook_init) .none kV_BadBook_init dc_BadBook_init pm_BadBook_init an_BadBook_init (.ref 252) ct_BadBook_init 241
    d_BadCalendar_init := PySem.W.ksFn "__init__" "BadCalendar.__init__" (defArgs s_BadCalendar_init) (defBody s_BadCalendar_init) (defScope s_BadCalendar_init) .none kV_BadCalendar_init dc_BadCalendar_init pm_BadCalendar_init an_BadCalendar_init (.ref 273) ct_BadCalendar_init 262
    d_BadCounts_init := PySem.W.ksFn "__init__" "BadCounts.__init__" (defArgs s_BadCounts_init) (defBody s_BadCounts_init) (defScope s_BadCounts_init) .none kV_BadCounts_init dc_BadCounts_init pm_BadCounts_init an_BadCounts_init (.ref 189) ct_BadCounts_init 178
    d_BadHouse_init := PySem.W.ksFn "__init__" "BadHouse.__init__" (defArgs s_BadHouse_init) (defBody s_BadHouse_init) (defScope s_BadHouse_init) .none kV_BadHouse_init dc_BadHouse_init pm_BadHouse_init an_BadHouse_init (.ref 315) ct_BadHouse_init 304
    d_BadLimit_init := PySem.W.ksFn "__init__" "BadLimit.__init__" (defArgs s_BadLimit_init) (defBody s_BadLimit_init) (defScope s_BadLimit_init) .none kV_BadLimit_init dc_BadLimit_init pm_BadLimit_init an_BadLimit_init (.ref 105) ct_BadLimit_init 94
    d_BadLine_init := PySem.W.ksFn "__init__" "BadLine.__init__" (defArgs s_BadLine_init) (defBody s_BadLine_init) (defScope s_BadLine_init) .none kV_BadLine_init dc_BadLine_init pm_BadLine_init an_BadLine_init (.ref 399) ct_BadLine_init 388
    d_BadLines_init := PySem.W.ksFn "__init__" "BadLines.__init__" (defArgs s_BadLines_init) (defBody s_BadLines_init) (defScope s_BadLines_init) .none kV_BadLines_init dc_BadLines_init pm_BadLines_init an_BadLines_init (.ref 294) ct_BadLines_init 283
    d_BadName_init := PySem.W.ksFn "__init__" "BadName.__init__" (defArgs s_BadName_init) (defBody s_BadName_init) (defScope s_BadName_init) .none kV_BadName_init dc_BadName_init pm_BadName_init an_BadName_init (.ref 357) ct_BadName_init 346
    d_BadNumber_init := PySem.W.ksFn "__init__" "BadNumber.__init__" (defArgs s_BadNumber_init) (defBody s_BadNumber_init) (defScope s_BadNumber_init) .none kV_BadNumber_init dc_BadNumber_init pm_BadNumber_init an_BadNumber_init (.ref 336) ct_BadNumber_init 325
    d_BadPlan_init := PySem.W.ksFn "__init__" "BadPlan.__init__" (defArgs s_BadPlan_init) (defBody s_BadPlan_init) (defScope s_BadPlan_init) .none kV_BadPlan_init dc_BadPlan_init pm_BadPlan_init an_BadPlan_init (.ref 84) ct_BadPlan_init 73
    d_BadPromise_init := PySem.W.ksFn "__init__" "BadPromise.__init__" (defArgs s_BadPromise_init) (defBody s_BadPromise_init) (defScope s_BadPromise_init) .none kV_BadPromise_init dc_BadPromise_init pm_BadPromise_init an_BadPromise_init (.ref 126) ct_BadPromise_init 115
    d_BadRow_init := PySem.W.ksFn "__init__" "BadRow.__init__" (defArgs s_BadRow_init) (defBody s_BadRow_init) (defScope s_BadRow_init) .none kV_BadRow_init dc_BadRow_init pm_BadRow_init an_BadRow_init (.ref 147) ct_BadRow_init 136
    d_BadRule_init := PySem.W.ksFn "__init__" "BadRule.__init__" (defArgs s_BadRule_init) (defBody s_BadRule_init) (defScope s_BadRule_init) .none kV_BadRule_init dc_BadRule_init pm_BadRule_init an_BadRule_init (.ref 210) ct_BadRule_init 199
    d_BadSite_init := PySem.W.ksFn "__init__" "BadSite.__init__" (defArgs s_BadSite_init) (defBody s_BadSite_init) (defScope s_BadSite_init) .none kV_BadSite_init dc_BadSite_init pm_BadSite_init an_BadSite_init (.ref 63) ct_BadSite_init 52
    d_BadStay_init := PySem.W.ksFn "__init__" "BadStay.__init__" (defArgs s_BadStay_init) (defBody s_BadStay_init) (defScope s_BadStay_init) .none kV_BadStay_init dc_BadStay_init pm_BadStay_init an_BadStay_init (.ref 231) ct_BadStay_init 220
    d_BadStock_init := PySem.W.ksFn "__init__" "BadStock.__init__" (defArgs s_BadStock_init) (defBody s_BadStock_init) (defScope s_BadStock_init) .none kV_BadStock_init dc_BadStock_init pm_BadStock_init an_BadStock_init (.ref 168) ct_BadStock_init 157
    d_BadText_init := PySem.W.ksFn "__init__" "BadText.__init__" (defArgs s_BadText_init) (defBody s_BadText_init) (defScope s_BadText_init) .none kV_BadText_init dc_BadText_init pm_BadText_init an_BadText_init (.ref 378) ct_BadText_init 367
    d_BadWish_init := PySem.W.ksFn "__init__" "BadWish.__init__" (defArgs s_BadWish_init) (defBody s_BadWish_init) (defScope s_BadWish_init) .none kV_BadWish_init dc_BadWish_init pm_BadWish_init an_BadWish_init (.ref 42) ct_BadWish_init 31
    d_Barred_init := PySem.W.ksFn "__init__" "Barred.__init__" (defArgs s_Barred_init) (defBody s_Barred_init) (defScope s_Barred_init) .none kV_Barred_init dc_Barred_init pm_Barred_init an_Barred_init (.ref 588) ct_Barred_init 577
    d_NoBay_init := PySem.W.ksFn "__init__" "NoBay.__init__" (defArgs s_NoBay_init) (defBody s_NoBay_init) (defScope s_NoBay_init) .none kV_NoBay_init dc_NoBay_init pm_NoBay_init an_NoBay_init (.ref 546) ct_NoBay_init 535
    d_NoGate_init := PySem.W.ksFn "__init__" "NoGate.__init__" (defArgs s_NoGate_init) (defBody s_NoGate_init) (defScope s_NoGate_init) .none kV_NoGate_init dc_NoGate_init pm_NoGate_init an_NoGate_init (.ref 504) ct_NoGate_init 493
    d_NoGuest_init := PySem.W.ksFn "__init__" "NoGuest.__init__" (defArgs s_NoGuest_init) (defBody s_NoGuest_init) (defScope s_NoGuest_init) .none kV_NoGuest_init dc_NoGuest_init pm_NoGuest_init an_NoGuest_init (.ref 462) ct_NoGuest_init 451
    d_NoHall_init := PySem.W.ksFn "__init__" "NoHall.__init__" (defArgs s_NoHall_init) (defBody s_NoHall_init) (defScope s_NoHall_init) .none kV_NoHall_init dc_NoHall_init pm_NoHall_init an_NoHall_init (.ref 483) ct_NoHall_init 472
    d_NoSite_init := PySem.W.ksFn "__init__" "NoSite.__init__" (defArgs s_NoSite_init) (defBody s_NoSite_init) (defScope s_NoSite_init) .none kV_NoSite_init dc_NoSite_init pm_NoSite_init an_NoSite_init (.ref 441) ct_NoSite_init 430
    d_NoWish_init := PySem.W.ksFn "__init__" "NoWish.__init__" (defArgs s_NoWish_init) (defBody s_NoWish_init) (defScope s_NoWish_init) .none kV_NoWish_init dc_NoWish_init pm_NoWish_init an_NoWish_init (.ref 420) ct_NoWish_init 409
    d_Nothing_init := PySem.W.ksFn "__init__" "Nothing.__init__" (defArgs s_Nothing_init) (defBody s_Nothing_init) (defScope s_Nothing_init) .none kV_Nothing_init dc_Nothing_init pm_Nothing_init an_Nothing_init (.ref 630) ct_Nothing_init 619
    d_Refused_init := PySem.W.ksFn "__init__" "Refused.__init__" (defArgs s_Refused_init) (defBody s_Refused_init) (defScope s_Refused_init) .none kV_Refused_init dc_Refused_init pm_Refused_init an_Refused_init (.ref 525) ct_Refused_init 514
    d_TooMany_init := PySem.W.ksFn "__init__" "TooMany.__init__" (defArgs s_TooMany_init) (defBody s_TooMany_init) (defScope s_TooMany_init) .none kV_TooMany_init dc_TooMany_init pm_TooMany_init an_TooMany_init (.ref 609) ct_TooMany_init 598
    d_Unbounded_init := PySem.W.ksFn "__init__" "Unbounded.__init__" (defArgs s_Unbounded_init) (defBody s_Unbounded_init) (defScope s_Unbounded_init) .none kV_Unbounded_init dc_Unbounded_init pm_Unbounded_init an_Unbounded_init (.ref 567) ct_Unbounded_init 556 }, {
    fun_l_is_alone := fun_mk l_l_is_alone (fnsB_of t.fn (.head _)).1 (fnsB_of t.fn (.head _)).2
    kp_l_is_alone := (fnsB_of t.fn (.head _)).2
    fun_l_names := fun_mk l_l_names (fnsB_of t.fn (.tail _ (.head _))).1 (fnsB_of t.fn (.tail _ (.head _))).2
    kp_l_names := (fnsB_of t.fn (.tail _ (.head _))).2
    fun_l_parts := fun_mk l_l_parts (fnsB_of t.fn (.tail _ (.tail _ (.head _)))).1 (fnsB_of t.fn (.tail _ (.tail _ (.head _)))).2
    kp_l_parts := (fnsB_of t.fn (.tail _ (.tail _ (.head _)))).2
    fun_l_pen := fun_mk l_l_pen (fnsB_of t.fn (.tail _ (.tail _ (.tail _ (.head _))))).1 (fnsB_of t.fn (.tail _ (.tail _ (.tail _ (.head _))))).2
    kp_l_pen := (fnsB_of t.fn (.tail _ (.tail _ (.tail _ (.head _))))).2
    fun_l_draw := fun_mk l_l_draw (fnsB_of t.fn (.tail _ (.tail _ (.tail _ (.tail _ (.head _)))))).1 (fnsB_of t.fn (.tail _ (.tail _ (.tail _ (.tail _ (.head _)))))).2
    kp_l_draw := (fnsB_of t.fn (.tail _ (.tail _ (.tail _ (.tail _ (.head _)))))).2
    fun_l_pick := fun_mk l_l_pick (fnsB_of t.fn (.tail _ (.tail _ (.tail _ (.tail _ (.tail _ (.head _))))))).1 (fnsB_of t.fn (.tail _ (.tail _ (.tail _ (.tail _ (.tail _ (.head _))))))).2
    kp_l_pick := (fnsB_of t.fn (.tail _ (.tail _ (.tail _ (.tail _ (.tail _ (.head _))))))).2
    fun_l_some := fun_mk l_l_some (fnsB_of t.fn (.tail _ (.tail _ (.tail _ (.tail _ (.tail _ (.tail _ (.head _)))))))).1 (fnsB_of t.fn (.tail _ (.tail _ (.tail _ (.tail _ (.tail _ (.tail _ (.head _)))))))).2
    kp_l_some := (fnsB_of t.fn (.tail _ (.tail _ (.tail _ (.tail _ (.tail _ (.tail _ (.head _)))))))).2
    fun_l_two_right := fun_mk l_l_two_right (fnsB_of t.fn (.tail _ (.tail _ (.tail _ (.tail _ (.tail _ (.tail _ (.tail _ (.head _))))))))).1 (fnsB_of t.fn (.tail _ (.tail _ (.tail _ (.tail _ (.tail _ (.tail _ (.tail _ (.head _))))))))).2
    kp_l_two_right := (fnsB_of t.fn (.tail _ (.tail _ (.tail _ (.tail _ (.tail _ (.tail _ (.tail _ (.head _))))))))).2
    fun_law := fun_mk l_law (fnsB_of t.fn (.tail _ (.tail _ (.tail _ (.tail _ (.tail _ (.tail _ (.tail _ (.tail _ (.head _)))))))))).1 (fnsB_of t.fn (.tail _ (.tail _ (.tail _ (.tail _ (.tail _ (.tail _ (.tail _ (.tail _ (.head _)))))))))).2
    kp_law := (fnsB_of t.fn (.tail _ (.tail _ (.tail _ (.tail _ (.tail _ (.tail _ (.tail _ (.tail _ (.head _)))))))))).2
    mg__law_is_alone := mgB_of X G t.mg (.head _)
    mg__law_names := mgB_of X G t.mg (.tail _ (.head _))
    mg__law_parts := mgB_of X G t.mg (.tail _ (.tail _ (.head _)))
    mg__law_pen := mgB_of X G t.mg (.tail _ (.tail _ (.tail _ (.head _))))
    mg__law_draw := mgB_of X G t.mg (.tail _ (.tail _ (.tail _ (.tail _ (.head _)))))
    mg__law_pick := mgB_of X G t.mg (.tail _ (.tail _ (.tail _ (.tail _ (.tail _ (.head _))))))
    mg__law_some := mgB_of X G t.mg (.tail _ (.tail _ (.tail _ (.tail _ (.tail _ (.tail _ (.head _)))))))
    mg__law_two_right := mgB_of X G t.mg (.tail _ (.tail _ (.tail _ (.tail _ (.tail _ (.tail _ (.tail _ (.head _))))))))
    mg_law := mgB_of X G t.mg (.tail _ (.tail _ (.tail _ (.tail _ (.tail _ (.tail _ (.tail _ (.tail _ (.head _)))))))))
    mg_BadBook := mgB_of X G t.mg (.tail _ (.tail _ (.tail _ (.tail _ (.tail _ (.tail _ (.tail _ (.tail _ (.tail _ (.head _))))))))))
    mg_BadCalendar := mgB_of X G t.mg (.tail _ (.tail _ (.tail _ (.tail _ (.tail _ (.tail _ (.tail _ (.tail _ (.tail _ (.tail _ (.head _)))))))))))
    mg_BadCounts := mgB_of X G t.mg (.tail _ (.tail _ (.tail _ (.tail _ (.tail _ (.tail _ (.tail _ (.tail _ (.tail _ (.tail _ (.tail _ (.head _))))))))))))
    mg_BadHouse := mgB_of X G t.mg (.tail _ (.tail _ (.tail _ (.tail _ (.tail _ (.tail _ (.tail _ (.tail _ (.tail _ (.tail _ (.tail _ (.tail _ (.head _)))))))))))))
    mg_BadLimit := mgB_of X G t.mg (.tail _ (.tail _ (.tail _ (.tail _ (.tail _ (.tail _ (.tail _ (.tail _ (.tail _ (.tail _ (.tail _ (.tail _ (.tail _ (.head _))))))))))))))
    mg_BadLine := mgB_of X G t.mg (.tail _ (.tail _ (.tail _ (.tail _ (.tail _ (.tail _ (.tail _ (.tail _ (.tail _ (.tail _ (.tail _ (.tail _ (.tail _ (.tail _ (.head _)))))))))))))))
    mg_BadLines := mgB_of X G t.mg (.tail _ (.tail _ (.tail _ (.tail _ (.tail _ (.tail _ (.tail _ (.tail _ (.tail _ (.tail _ (.tail _ (.tail _ (.tail _ (.tail _ (.tail _ (.head _))))))))))))))))
    mg_BadName := mgB_of X G t.mg (.tail _ (.tail _ (.tail _ (.tail _ (.tail _ (.tail _ (.tail _ (.tail _ (.tail _ (.tail _ (.tail _ (.tail _ (.tail _ (.tail _ (.tail _ (.tail _ (.head _)))))))))))))))))
    mg_BadNumber := mgB_of X G t.mg (.tail _ (.tail _ (.tail _ (.tail _ (.tail _ (.tail _ (.tail _ (.tail _ (.tail _ (.tail _ (.tail _ (.tail _ (.tail _ (.tail _ (.tail _ (.tail _ (.tail _ (.head _))))))))))))))))))
    mg_BadPlan := mgB_of X G t.mg (.tail _ (.tail _ (.tail _ (.tail _ (.tail _ (.tail _ (.tail _ (.tail _ (.tail _ (.tail _ (.tail _ (.tail _ (.tail _ (.tail _ (.tail _ (.tail _ (.tail _ (.tail _ (.head _)))))))))))))))))))
    mg_BadPromise := mgB_of X G t.mg (.tail _ (.tail _ (.tail _ (.tail _ (.tail _ (.tail _ (.tail _ (.tail _ (.tail _ (.tail _ (.tail _ (.tail _ (.tail _ (.tail _ (.tail _ (.tail _ (.tail _ (.tail _ (.tail _ (.head _))))))))))))))))))))
    mg_BadRow := mgB_of X G t.mg (.tail _ (.tail _ (.tail _ (.tail _ (.tail _ (.tail _ (.tail _ (.tail _ (.tail _ (.tail _ (.tail _ (.tail _ (.tail _ (.tail _ (.tail _ (.tail _ (.tail _ (.tail _ (.tail _ (.tail _ (.head _)))))))))))))))))))))
    mg_BadRule := mgB_of X G t.mg (.tail _ (.tail _ (.tail _ (.tail _ (.tail _ (.tail _ (.tail _ (.tail _ (.tail _ (.tail _ (.tail _ (.tail _ (.tail _ (.tail _ (.tail _ (.tail _ (.tail _ (.tail _ (.tail _ (.tail _ (.tail _ (.head _))))))))))))))))))))))
    mg_BadSite := mgB_of X G t.mg (.tail _ (.tail _ (.tail _ (.tail _ (.tail _ (.tail _ (.tail _ (.tail _ (.tail _ (.tail _ (.tail _ (.tail _ (.tail _ (.tail _ (.tail _ (.tail _ (.tail _ (.tail _ (.tail _ (.tail _ (.tail _ (.tail _ (.head _)))))))))))))))))))))))
    mg_BadStay := mgB_of X G t.mg (.tail _ (.tail _ (.tail _ (.tail _ (.tail _ (.tail _ (.tail _ (.tail _ (.tail _ (.tail _ (.tail _ (.tail _ (.tail _ (.tail _ (.tail _ (.tail _ (.tail _ (.tail _ (.tail _ (.tail _ (.tail _ (.tail _ (.tail _ (.head _))))))))))))))))))))))))
    mg_BadStock := mgB_of X G t.mg (.tail _ (.tail _ (.tail _ (.tail _ (.tail _ (.tail _ (.tail _ (.tail _ (.tail _ (.tail _ (.tail _ (.tail _ (.tail _ (.tail _ (.tail _ (.tail _ (.tail _ (.tail _ (.tail _ (.tail _ (.tail _ (.tail _ (.tail _ (.tail _ (.head _)))))))))))))))))))))))))
    mg_BadText := mgB_of X G t.mg (.tail _ (.tail _ (.tail _ (.tail _ (.tail _ (.tail _ (.tail _ (.tail _ (.tail _ (.tail _ (.tail _ (.tail _ (.tail _ (.tail _ (.tail _ (.tail _ (.tail _ (.tail _ (.tail _ (.tail _ (.tail _ (.tail _ (.tail _ (.tail _ (.tail _ (.head _))))))))))))))))))))))))))
    mg_BadWish := mgB_of X G t.mg (.tail _ (.tail _ (.tail _ (.tail _ (.tail _ (.tail _ (.tail _ (.tail _ (.tail _ (.tail _ (.tail _ (.tail _ (.tail _ (.tail _ (.tail _ (.tail _ (.tail _ (.tail _ (.tail _ (.tail _ (.tail _ (.tail _ (.tail _ (.tail _ (.tail _ (.tail _ (.head _)))))))))))))))))))))))))))
    mg_Barred := mgB_of X G t.mg (.tail _ (.tail _ (.tail _ (.tail _ (.tail _ (.tail _ (.tail _ (.tail _ (.tail _ (.tail _ (.tail _ (.tail _ (.tail _ (.tail _ (.tail _ (.tail _ (.tail _ (.tail _ (.tail _ (.tail _ (.tail _ (.tail _ (.tail _ (.tail _ (.tail _ (.tail _ (.tail _ (.head _))))))))))))))))))))))))))))
    mg_NoBay := mgB_of X G t.mg (.tail _ (.tail _ (.tail _ (.tail _ (.tail _ (.tail _ (.tail _ (.tail _ (.tail _ (.tail _ (.tail _ (.tail _ (.tail _ (.tail _ (.tail _ (.tail _ (.tail _ (.tail _ (.tail _ (.tail _ (.tail _ (.tail _ (.tail _ (.tail _ (.tail _ (.tail _ (.tail _ (.tail _ (.head _)))))))))))))))))))))))))))))
    mg_NoGate := mgB_of X G t.mg (.tail _ (.tail _ (.tail _ (.tail _ (.tail _ (.tail _ (.tail _ (.tail _ (.tail _ (.tail _ (.tail _ (.tail _ (.tail _ (.tail _ (.tail _ (.tail _ (.tail _ (.tail _ (.tail _ (.tail _ (.tail _ (.tail _ (.tail _ (.tail _ (.tail _ (.tail _ (.tail _ (.tail _ (.tail _ (.head _))))))))))))))))))))))))))))))
    mg_NoGuest := mgB_of X G t.mg (.tail _ (.tail _ (.tail _ (.tail _ (.tail _ (.tail _ (.tail _ (.tail _ (.tail _ (.tail _ (.tail _ (.tail _ (.tail _ (.tail _ (.tail _ (.tail _ (.tail _ (.tail _ (.tail _ (.tail _ (.tail _ (.tail _ (.tail _ (.tail _ (.tail _ (.tail _ (.tail _ (.tail _ (.tail _ (.tail _ (.head _)))))))))))))))))))))))))))))))
    mg_NoHall := mgB_of X G t.mg (.tail _ (.tail _ (.tail _ (.tail _ (.tail _ (.tail _ (.tail _ (.tail _ (.tail _ (.tail _ (.tail _ (.tail _ (.tail _ (.tail _ (.tail _ (.tail _ (.tail _ (.tail _ (.tail _ (.tail _ (.tail _ (.tail _ (.tail _ (.tail _ (.tail _ (.tail _ (.tail _ (.tail _ (.tail _ (.tail _ (.tail _ (.head _))))))))))))))))))))))))))))))))
    mg_NoSite := mgB_of X G t.mg (.tail _ (.tail _ (.tail _ (.tail _ (.tail _ (.tail _ (.tail _ (.tail _ (.tail _ (.tail _ (.tail _ (.tail _ (.tail _ (.tail _ (.tail _ (.tail _ (.tail _ (.tail _ (.tail _ (.tail _ (.tail _ (.tail _ (.tail _ (.tail _ (.tail _ (.tail _ (.tail _ (.tail _ (.tail _ (.tail _ (.tail _ (.tail _ (.head _)))))))))))))))))))))))))))))))))
    mg_NoWish := mgB_of X G t.mg (.tail _ (.tail _ (.tail _ (.tail _ (.tail _ (.tail _ (.tail _ (.tail _ (.tail _ (.tail _ (.tail _ (.tail _ (.tail _ (.tail _ (.tail _ (.tail _ (.tail _ (.tail _ (.tail _ (.tail _ (.tail _ (.tail _ (.tail _ (.tail _ (.tail _ (.tail _ (.tail _ (.tail _ (.tail _ (.tail _ (.tail _ (.tail _ (.tail _ (.head _))))))))))))))))))))))))))))))))))
    mg_Nothing := mgB_of X G t.mg (.tail _ (.tail _ (.tail _ (.tail _ (.tail _ (.tail _ (.tail _ (.tail _ (.tail _ (.tail _ (.tail _ (.tail _ (.tail _ (.tail _ (.tail _ (.tail _ (.tail _ (.tail _ (.tail _ (.tail _ (.tail _ (.tail _ (.tail _ (.tail _ (.tail _ (.tail _ (.tail _ (.tail _ (.tail _ (.tail _ (.tail _ (.tail _ (.tail _ (.tail _ (.head _)))))))))))))))))))))))))))))))))))
    mg_Refused := mgB_of X G t.mg (.tail _ (.tail _ (.tail _ (.tail _ (.tail _ (.tail _ (.tail _ (.tail _ (.tail _ (.tail _ (.tail _ (.tail _ (.tail _ (.tail _ (.tail _ (.tail _ (.tail _ (.tail _ (.tail _ (.tail _ (.tail _ (.tail _ (.tail _ (.tail _ (.tail _ (.tail _ (.tail _ (.tail _ (.tail _ (.tail _ (.tail _ (.tail _ (.tail _ (.tail _ (.tail _ (.head _))))))))))))))))))))))))))))))))))))
    mg_StayError := mgB_of X G t.mg (.tail _ (.tail _ (.tail _ (.tail _ (.tail _ (.tail _ (.tail _ (.tail _ (.tail _ (.tail _ (.tail _ (.tail _ (.tail _ (.tail _ (.tail _ (.tail _ (.tail _ (.tail _ (.tail _ (.tail _ (.tail _ (.tail _ (.tail _ (.tail _ (.tail _ (.tail _ (.tail _ (.tail _ (.tail _ (.tail _ (.tail _ (.tail _ (.tail _ (.tail _ (.tail _ (.tail _ (.head _)))))))))))))))))))))))))))))))))))))
    mg_TooMany := mgB_of X G t.mg (.tail _ (.tail _ (.tail _ (.tail _ (.tail _ (.tail _ (.tail _ (.tail _ (.tail _ (.tail _ (.tail _ (.tail _ (.tail _ (.tail _ (.tail _ (.tail _ (.tail _ (.tail _ (.tail _ (.tail _ (.tail _ (.tail _ (.tail _ (.tail _ (.tail _ (.tail _ (.tail _ (.tail _ (.tail _ (.tail _ (.tail _ (.tail _ (.tail _ (.tail _ (.tail _ (.tail _ (.tail _ (.head _))))))))))))))))))))))))))))))))))))))
    mg_Unbounded := mgB_of X G t.mg (.tail _ (.tail _ (.tail _ (.tail _ (.tail _ (.tail _ (.tail _ (.tail _ (.tail _ (.tail _ (.tail _ (.tail _ (.tail _ (.tail _ (.tail _ (.tail _ (.tail _ (.tail _ (.tail _ (.tail _ (.tail _ (.tail _ (.tail _ (.tail _ (.tail _ (.tail _ (.tail _ (.tail _ (.tail _ (.tail _ (.tail _ (.tail _ (.tail _ (.tail _ (.tail _ (.tail _ (.tail _ (.tail _ (.head _)))))))))))))))))))))))))))))))))))))))
    na_at := t.na_at
    na_line := t.na_line
    na_most := t.na_most
    na_name := t.na_name
    na_part := t.na_part
    na_value := t.na_value
    na_what := t.na_what
    na_wish := t.na_wish
    na_word := t.na_word
    isi := t.isi
    err_BadBook := err_of l_BadBook_init t.err_BadBook (noB_of X G t.no (.tail _ (.tail _ (.tail _ (.tail _ (.tail _ (.tail _ (.tail _ (.tail _ (.head _)))))))))) (by decide +kernel)
    err_BadCalendar := err_of l_BadCalendar_init t.err_BadCalendar (noB_of X G t.no (.tail _ (.tail _ (.tail _ (.tail _ (.tail _ (.tail _ (.tail _ (.tail _ (.head _)))))))))) (by decide +kernel)
    err_BadCounts := err_of l_BadCounts_init t.err_BadCounts (noB_of X G t.no (.tail _ (.tail _ (.tail _ (.tail _ (.tail _ (.tail _ (.tail _ (.tail _ (.head _)))))))))) (by decide +kernel)
    err_BadHouse := err_of l_BadHouse_init t.err_BadHouse (noB_of X G t.no (.tail _ (.tail _ (.tail _ (.tail _ (.tail _ (.tail _ (.tail _ (.tail _ (.head _)))))))))) (by decide +kernel)
    err_BadLimit := err_of l_BadLimit_init t.err_BadLimit (noB_of X G t.no (.tail _ (.tail _ (.tail _ (.tail _ (.tail _ (.tail _ (.tail _ (.tail _ (.head _)))))))))) (by decide +kernel)
    err_BadLine := err_of l_BadLine_init t.err_BadLine (noB_of X G t.no (.tail _ (.tail _ (.tail _ (.tail _ (.tail _ (.tail _ (.tail _ (.tail _ (.head _)))))))))) (by decide +kernel)
    err_BadLines := err_of l_BadLines_init t.err_BadLines (noB_of X G t.no (.tail _ (.tail _ (.tail _ (.tail _ (.tail _ (.tail _ (.tail _ (.tail _ (.head _)))))))))) (by decide +kernel)
    err_BadName := err_of l_BadName_init t.err_BadName (noB_of X G t.no (.tail _ (.tail _ (.tail _ (.tail _ (.tail _ (.tail _ (.tail _ (.tail _ (.head _)))))))))) (by decide +kernel)
    err_BadNumber := err_of l_BadNumber_init t.err_BadNumber (noB_of X G t.no (.tail _ (.tail _ (.tail _ (.tail _ (.tail _ (.tail _ (.tail _ (.tail _ (.head _)))))))))) (by decide +kernel)
    err_BadPlan := err_of l_BadPlan_init t.err_BadPlan (noB_of X G t.no (.tail _ (.tail _ (.tail _ (.tail _ (.tail _ (.tail _ (.tail _ (.tail _ (.head _)))))))))) (by decide +kernel)
    err_BadPromise := err_of l_BadPromise_init t.err_BadPromise (noB_of X G t.no (.tail _ (.tail _ (.tail _ (.tail _ (.tail _ (.tail _ (.tail _ (.tail _ (.head _)))))))))) (by decide +kernel)
    err_BadRow := err_of l_BadRow_init t.err_BadRow (noB_of X G t.no (.tail _ (.tail _ (.tail _ (.tail _ (.tail _ (.tail _ (.tail _ (.tail _ (.head _)))))))))) (by decide +kernel)
    err_BadRule := err_of l_BadRule_init t.err_BadRule (noB_of X G t.no (.tail _ (.tail _ (.tail _ (.tail _ (.tail _ (.tail _ (.tail _ (.tail _ (.head _)))))))))) (by decide +kernel)
    err_BadSite := err_of l_BadSite_init t.err_BadSite (noB_of X G t.no (.tail _ (.tail _ (.tail _ (.tail _ (.tail _ (.tail _ (.tail _ (.tail _ (.head _)))))))))) (by decide +kernel)
    err_BadStay := err_of l_BadStay_init t.err_BadStay (noB_of X G t.no (.tail _ (.tail _ (.tail _ (.tail _ (.tail _ (.tail _ (.tail _ (.tail _ (.head _)))))))))) (by decide +kernel)
    err_BadStock := err_of l_BadStock_init t.err_BadStock (noB_of X G t.no (.tail _ (.tail _ (.tail _ (.tail _ (.tail _ (.tail _ (.tail _ (.tail _ (.head _)))))))))) (by decide +kernel)
    err_BadText := err_of l_BadText_init t.err_BadText (noB_of X G t.no (.tail _ (.tail _ (.tail _ (.tail _ (.tail _ (.tail _ (.tail _ (.tail _ (.head _)))))))))) (by decide +kernel)
    err_BadWish := err_of l_BadWish_init t.err_BadWish (noB_of X G t.no (.tail _ (.tail _ (.tail _ (.tail _ (.tail _ (.tail _ (.tail _ (.tail _ (.head _)))))))))) (by decide +kernel)
    err_Barred := err_of l_Barred_init t.err_Barred (noB_of X G t.no (.tail _ (.tail _ (.tail _ (.tail _ (.tail _ (.tail _ (.tail _ (.tail _ (.head _)))))))))) (by decide +kernel)
    err_NoBay := err_of l_NoBay_init t.err_NoBay (noB_of X G t.no (.tail _ (.tail _ (.tail _ (.tail _ (.tail _ (.tail _ (.tail _ (.tail _ (.head _)))))))))) (by decide +kernel)
    err_NoGate := err_of l_NoGate_init t.err_NoGate (noB_of X G t.no (.tail _ (.tail _ (.tail _ (.tail _ (.tail _ (.tail _ (.tail _ (.tail _ (.head _)))))))))) (by decide +kernel)
    err_NoGuest := err_of l_NoGuest_init t.err_NoGuest (noB_of X G t.no (.tail _ (.tail _ (.tail _ (.tail _ (.tail _ (.tail _ (.tail _ (.tail _ (.head _)))))))))) (by decide +kernel)
    err_NoHall := err_of l_NoHall_init t.err_NoHall (noB_of X G t.no (.tail _ (.tail _ (.tail _ (.tail _ (.tail _ (.tail _ (.tail _ (.tail _ (.head _)))))))))) (by decide +kernel)
    err_NoSite := err_of l_NoSite_init t.err_NoSite (noB_of X G t.no (.tail _ (.tail _ (.tail _ (.tail _ (.tail _ (.tail _ (.tail _ (.tail _ (.head _)))))))))) (by decide +kernel)
    err_NoWish := err_of l_NoWish_init t.err_NoWish (noB_of X G t.no (.tail _ (.tail _ (.tail _ (.tail _ (.tail _ (.tail _ (.tail _ (.tail _ (.head _)))))))))) (by decide +kernel)
    err_Nothing := err_of l_Nothing_init t.err_Nothing (noB_of X G t.no (.tail _ (.tail _ (.tail _ (.tail _ (.tail _ (.tail _ (.tail _ (.tail _ (.head _)))))))))) (by decide +kernel)
    err_Refused := err_of l_Refused_init t.err_Refused (noB_of X G t.no (.tail _ (.tail _ (.tail _ (.tail _ (.tail _ (.tail _ (.tail _ (.tail _ (.head _)))))))))) (by decide +kernel)
    err_TooMany := err_of l_TooMany_init t.err_TooMany (noB_of X G t.no (.tail _ (.tail _ (.tail _ (.tail _ (.tail _ (.tail _ (.tail _ (.tail _ (.head _)))))))))) (by decide +kernel)
    err_Unbounded := err_of l_Unbounded_init t.err_Unbounded (noB_of X G t.no (.tail _ (.tail _ (.tail _ (.tail _ (.tail _ (.tail _ (.tail _ (.tail _ (.head _)))))))))) (by decide +kernel)
    no_ValueError := noB_of X G t.no (.head _)
    no_abs := noB_of X G t.no (.tail _ (.head _))
    no_int := noB_of X G t.no (.tail _ (.tail _ (.head _)))
    no_isinstance := noB_of X G t.no (.tail _ (.tail _ (.tail _ (.head _))))
    no_len := noB_of X G t.no (.tail _ (.tail _ (.tail _ (.tail _ (.head _)))))
    no_list := noB_of X G t.no (.tail _ (.tail _ (.tail _ (.tail _ (.tail _ (.head _))))))
    no_range := noB_of X G t.no (.tail _ (.tail _ (.tail _ (.tail _ (.tail _ (.tail _ (.head _)))))))
    no_repr := noB_of X G t.no (.tail _ (.tail _ (.tail _ (.tail _ (.tail _ (.tail _ (.tail _ (.head _))))))))
    no_super := noB_of X G t.no (.tail _ (.tail _ (.tail _ (.tail _ (.tail _ (.tail _ (.tail _ (.tail _ (.head _))))))))) }, fun s u => .of_eq rfl⟩
end VL.P

set_option Elab.async false
set_option linter.all false
set_option maxRecDepth 100000
set_option maxHeartbeats 4000000
namespace VL.P
open PySem PySem.Spec PyProof.Rows L2 VL
open PySem.W (Frag)
theorem draw_dr : Dr m_l_draw := fun hn p h0 h1 => draw_ok (a1 := 97007) (b1 := 853) (m1 := 2147442011) (a2 := 88003) (b2 := 463) (m2 := 2147432009) (b3 := 151) (a4 := 75011) (b4 := 127) (m3 := 2147422033) (by unfold Cs; decide) hn p h0 h1
theorem pick_pk : Pk m_l_pick := pick_ok draw_dr
/-! ### the drawn values -/
def vals : List D := [.non, .bl true, .bl false, .int 0, .int 1, .int (-7), .int 1000000000000000000000000000000000000000, .str "", .str "a", .str "house", .tup [], .tup [.str "a", .int 1], .lst [], .lst [.str "e"], .dic [] [], .dic [.inr "a"] [.str "b"], .tup [.int 0, .int 15]]
def valsE : EF := (eLst (aCons (eC .non) (aCons (eC (.bl true)) (aCons (eC (.bl false)) (aCons (eC (.int 0)) (aCons (eC (.int 1)) (aCons (eUn negD (eC (.int 7))) (aCons (eBin powD (eC (.int 10)) (eC (.int 39))) (aCons (eC (.str "")) (aCons (eC (.str "a")) (aCons (eC (.str "house")) (aCons (eTup aNil) (aCons (eTup (aCons (eC (.str "a")) (aCons (eC (.int 1)) aNil))) (aCons (eLst aNil) (aCons (eLst (aCons (eC (.str "e")) aNil)) (aCons eDic0 (aCons (eDic (((eC (.str "a")), (eC (.str "b"))) :: [])) (aCons (eTup (aCons (eC (.int 0)) (aCons (eC (.int 15)) aNil))) aNil))))))))))))))))))
theorem some_eq : m_l_some = fnF 1 2 (sSeq (sSet 1 valsE) (sRet (eCall m_l_pick [.p 0, .p 1] 2 0 (cPos (aCons (eVar 0) (aCons (eVar 1) aNil)))))) := rfl
theorem vals_ev (st : SS) (L : LS) : valsE st L = .ok (.d (.lst vals)) L := by kernel_rfl
theorem v_some {n : Nat} {L : LS} (hn : n < 2 ^ 20) (p : Pen n L) : ∃ x L', m_l_some [.l 0] L = .ok (.d x) L' ∧ x ∈ vals ∧ Pen (n + 1) L' := by
  obtain ⟨x, L', e, hx, p'⟩ := pick_pk (xs := vals) hn p (by simp [vals]) (by simp [vals])
  refine ⟨x, L', ?_, hx, p'⟩
  have e1 := p.len
  have e2 := p'.len
  have ht : List.take 1 L' = L' := by rw [← e2]; exact List.take_length
  simp [some_eq, Rs.bind, opt, LO.rd, rdU, fzU, eVar, eC, op2, op1, eBin, eUn, eCmp, bop2, bCmp, eChain, bChain, trU, bTru, eAnd, eOr, eNot, bAnd, bOr, bNot, eIf, rdUs, fzUs, aNil, aCons, eLst, eTup, eLstL, opn, eFn, oNone, oSome, eSl, eJoin, Rt.andThen, ofR, optS, sNil, sSeq, sDrop, sRet, sIf, sSet, sPar, tfName, tfNil, tfCons, tfTup, sAsg, sSub, outR, fnF, cPos, cBoth, Sr.get, arrU, eCall, iSeq, iRng1, iRng2, sFor, eComp, tYesF, eMake, mkF, eRest, sFld, eFnU, sBrk, sCnt, sRetN, eDic0, eDic, dPairs, keyU, bD, big, eBinU, bBinU, bTest, eMeth, own1, own2, ownLen, lenU, truU, notU, sRaise, eAppend, apnd, newL, catL, sTry, Rt.clr, vals_ev, e, e1, ht]
/-! ### the errors -/
def kinds : List (Addr × Str) := [(46, "part"), (67, "part"), (88, "part"), (109, "part"), (130, "part"), (172, "part"), (193, "part"), (214, "part"), (235, "part"), (256, "part"), (277, "part"), (298, "part"), (319, "part"), (571, "part"), (340, "value"), (361, "value"), (424, "name"), (445, "name"), (466, "name"), (487, "name"), (508, "name"), (151, "at"), (403, "word"), (592, "word"), (550, "wish")]
def rowOf (x y : D) (k : Addr × Str) : D := .tup [.exc k.1 [k.2] [x], x, .exc k.1 [k.2] [y], y]
theorem parts_ev (x y : D) (lo : LO) : m_l_parts [.d x, .d y] [lo] = .ok (.d (.lst ((kinds.take 14).map (rowOf x y)))) [lo] := by kernel_rfl
theorem names_ev (x y : D) (lo : LO) : m_l_names [.d x, .d y] [lo] = .ok (.d (.lst ((kinds.drop 14).map (rowOf x y)))) [lo] := by kernel_rfl
def aloneOk (k : Addr × Str) (i : Int) : Prop := ∀ (z : D) (lo : LO), m_l_is_alone [.d (.exc k.1 [k.2] [z]), .d (.int i)] [lo] = .ok (.d (.bl true)) [lo]
theorem alone_0 : aloneOk (kinds[0]) 0 := fun z lo => by kernel_rfl
theorem alone_1 : aloneOk (kinds[1]) 1 := fun z lo => by kernel_rfl
theorem alone_2 : aloneOk (kinds[2]) 2 := fun z lo => by kernel_rfl
theorem alone_3 : aloneOk (kinds[3]) 3 := fun z lo => by kernel_rfl
theorem alone_4 : aloneOk (kinds[4]) 4 := fun z lo => by kernel_rfl
theorem alone_5 : aloneOk (kinds[5]) 5 := fun z lo => by kernel_rfl
theorem alone_6 : aloneOk (kinds[6]) 6 := fun z lo => by kernel_rfl
theorem alone_7 : aloneOk (kinds[7]) 7 := fun z lo => by kernel_rfl
theorem alone_8 : aloneOk (kinds[8]) 8 := fun z lo => by kernel_rfl
theorem alone_9 : aloneOk (kinds[9]) 9 := fun z lo => by kernel_rfl
theorem alone_10 : aloneOk (kinds[10]) 10 := fun z lo => by kernel_rfl
theorem alone_11 : aloneOk (kinds[11]) 11 := fun z lo => by kernel_rfl
theorem alone_12 : aloneOk (kinds[12]) 12 := fun z lo => by kernel_rfl
theorem alone_13 : aloneOk (kinds[13]) 13 := fun z lo => by kernel_rfl
theorem alone_14 : aloneOk (kinds[14]) 14 := fun z lo => by kernel_rfl
theorem alone_15 : aloneOk (kinds[15]) 15 := fun z lo => by kernel_rfl
theorem alone_16 : aloneOk (kinds[16]) 16 := fun z lo => by kernel_rfl
theorem alone_17 : aloneOk (kinds[17]) 17 := fun z lo => by kernel_rfl
theorem alone_18 : aloneOk (kinds[18]) 18 := fun z lo => by kernel_rfl
theorem alone_19 : aloneOk (kinds[19]) 19 := fun z lo => by kernel_rfl
theorem alone_20 : aloneOk (kinds[20]) 20 := fun z lo => by kernel_rfl
theorem alone_21 : aloneOk (kinds[21]) 21 := fun z lo => by kernel_rfl
theorem alone_22 : aloneOk (kinds[22]) 22 := fun z lo => by kernel_rfl
theorem alone_23 : aloneOk (kinds[23]) 23 := fun z lo => by kernel_rfl
theorem alone_24 : aloneOk (kinds[24]) 24 := fun z lo => by kernel_rfl
theorem alone_ev : ∀ (i : Nat) (h : i < 25), aloneOk (kinds[i]'h) i
  | 0, _ => alone_0
  | 1, _ => alone_1
  | 2, _ => alone_2
  | 3, _ => alone_3
  | 4, _ => alone_4
  | 5, _ => alone_5
  | 6, _ => alone_6
  | 7, _ => alone_7
  | 8, _ => alone_8
  | 9, _ => alone_9
  | 10, _ => alone_10
  | 11, _ => alone_11
  | 12, _ => alone_12
  | 13, _ => alone_13
  | 14, _ => alone_14
  | 15, _ => alone_15
  | 16, _ => alone_16
  | 17, _ => alone_17
  | 18, _ => alone_18
  | 19, _ => alone_19
  | 20, _ => alone_20
  | 21, _ => alone_21
  | 22, _ => alone_22
  | 23, _ => alone_23
  | 24, _ => alone_24
  | n + 25, h => absurd h (by omega)
/-! ### a row is right -/
def rowB : SF := (sSeq (sAsg (tfTup 4 (tfCons (tfName 7) (tfCons (tfName 8) (tfCons (tfName 9) (tfCons (tfName 10) tfNil))))) (eBin ixD (eVar 5) (eVar 6))) (sSeq (sIf (bOr (bCmp neB (eFn reprR (aCons (eVar 8) aNil)) (eFn reprR (aCons (eVar 3) aNil))) (bCmp neB (eFn reprR (aCons (eVar 10) aNil)) (eFn reprR (aCons (eVar 4) aNil)))) (sRet (eC (.bl false))) sNil) (sIf (bOr (bNot (bTru (eCall m_l_is_alone [.p 0, .p 1] 2 0 (cPos (aCons (eVar 7) (aCons (eVar 6) aNil)))))) (bNot (bTru (eCall m_l_is_alone [.p 0, .p 1] 2 0 (cPos (aCons (eVar 9) (aCons (eVar 6) aNil))))))) (sRet (eC (.bl false))) sNil)))
theorem row_ev {x y : D} {zx zy : Str} (hx : reprR [x] = some (.str zx)) (hy : reprR [y] = some (.str zy)) (rows : List D) (i : Nat) (k : Addr × Str) (hk : rows[i]? = some (rowOf x y k)) (ha : aloneOk k i) (hl : i < rows.length) (lo : LO) (u0 u1 u2 u7 u8 u9 u10 : Option U) :
    ∃ w7 w8 w9 w10, rowB [u0, u1, u2, some (.d x), some (.d y), some (.d (.lst rows)), some (.d (.int i)), u7, u8, u9, u10] [lo] = .nx [u0, u1, u2, some (.d x), some (.d y), some (.d (.lst rows)), some (.d (.int i)), w7, w8, w9, w10] [lo] := by
  have hix : ixD (.lst rows) (.int i) = some (rowOf x y k) := by
    rw [ixD_lst]
    have : ((i : Int)).toNat = i := by omega
    simp [atI, ixN, hl, List.getElem?_eq_some_iff.mp hk |>.2]
  have h1 := ha x lo
  have h2 := ha y lo
  exact ⟨some (.d (.exc k.1 [k.2] [x])), some (.d x), some (.d (.exc k.1 [k.2] [y])), some (.d y), by simp [rowB, Rs.bind, opt, LO.rd, rdU, fzU, eVar, eC, op2, op1, eBin, eUn, eCmp, bop2, bCmp, eChain, bChain, trU, bTru, eAnd, eOr, eNot, bAnd, bOr, bNot, eIf, rdUs, fzUs, aNil, aCons, eLst, eTup, eLstL, opn, eFn, oNone, oSome, eSl, eJoin, Rt.andThen, ofR, optS, sNil, sSeq, sDrop, sRet, sIf, sSet, sPar, tfName, tfNil, tfCons, tfTup, sAsg, sSub, outR, fnF, cPos, cBoth, Sr.get, arrU, eCall, iSeq, iRng1, iRng2, sFor, eComp, tYesF, eMake, mkF, eRest, sFld, eFnU, sBrk, sCnt, sRetN, eDic0, eDic, dPairs, keyU, bD, big, eBinU, bBinU, bTest, eMeth, own1, own2, ownLen, lenU, truU, notU, sRaise, eAppend, apnd, newL, catL, sTry, Rt.clr, hix, rowOf, hx, hy, ne_same, h1, h2, truB]⟩
def forB : SF := (sFor (iRng1 (aCons (eFn lenD (aCons (eVar 5) aNil)) aNil)) (tfName 6) (sSeq (sAsg (tfTup 4 (tfCons (tfName 7) (tfCons (tfName 8) (tfCons (tfName 9) (tfCons (tfName 10) tfNil))))) (eBin ixD (eVar 5) (eVar 6))) (sSeq (sIf (bOr (bCmp neB (eFn reprR (aCons (eVar 8) aNil)) (eFn reprR (aCons (eVar 3) aNil))) (bCmp neB (eFn reprR (aCons (eVar 10) aNil)) (eFn reprR (aCons (eVar 4) aNil)))) (sRet (eC (.bl false))) sNil) (sIf (bOr (bNot (bTru (eCall m_l_is_alone [.p 0, .p 1] 2 0 (cPos (aCons (eVar 7) (aCons (eVar 6) aNil)))))) (bNot (bTru (eCall m_l_is_alone [.p 0, .p 1] 2 0 (cPos (aCons (eVar 9) (aCons (eVar 6) aNil))))))) (sRet (eC (.bl false))) sNil))))
theorem forB_eq : forB = sFor (iRng1 (aCons (eFn lenD (aCons (eVar 5) aNil)) aNil)) (tfName 6) rowB := rfl
theorem for_ev {x y : D} {zx zy : Str} (hx : reprR [x] = some (.str zx)) (hy : reprR [y] = some (.str zy)) (lo : LO) (u0 u1 u2 u6 u7 u8 u9 u10 : Option U) :
    ∃ w6 w7 w8 w9 w10, forB [u0, u1, u2, some (.d x), some (.d y), some (.d (.lst (kinds.map (rowOf x y)))), u6, u7, u8, u9, u10] [lo] = .nx [u0, u1, u2, some (.d x), some (.d y), some (.d (.lst (kinds.map (rowOf x y)))), w6, w7, w8, w9, w10] [lo] := by
  have hlen : (kinds.map (rowOf x y)).length = 25 := rfl
  obtain ⟨st', L', e, w6, w7, w8, w9, w10, rfl, rfl⟩ := forF_inv (tf := tfName 6) (body := rowB) (fun _ st L => ∃ w6 w7 w8 w9 w10, st = [u0, u1, u2, some (.d x), some (.d y), some (.d (.lst (kinds.map (rowOf x y)))), w6, w7, w8, w9, w10] ∧ L = [lo]) (rngD 0 25) 0 _ [lo] ⟨u6, u7, u8, u9, u10, rfl, rfl⟩ (by
    intro j st L _ hj ⟨w6, w7, w8, w9, w10, e1, e2⟩ d hd
    subst e1 e2
    have hj25 : j < 25 := by simpa [rngD] using hj
    have hd' : d = .int j := by
      have : (rngD 0 25)[j]? = some (.int j) := by simp [rngD, hj25]
      rw [Nat.sub_zero, this] at hd
      exact (Option.some.inj hd).symm
    subst hd'
    have hk : (kinds.map (rowOf x y))[j]? = some (rowOf x y (kinds[j]'hj25)) := by
      rw [List.getElem?_map, List.getElem?_eq_getElem (show j < kinds.length from hj25)]; rfl
    obtain ⟨v7, v8, v9, v10, e3⟩ := row_ev hx hy _ j _ hk (alone_ev j hj25) (by rw [hlen]; exact hj25) lo u0 u1 u2 w7 w8 w9 w10
    exact ⟨_, _, _, rfl, .inl e3, some (.d (.int j)), v7, v8, v9, v10, rfl, rfl⟩)
  refine ⟨w6, w7, w8, w9, w10, ?_⟩
  have hi : iRng1 (aCons (eFn lenD (aCons (eVar 5) aNil)) aNil) [u0, u1, u2, some (.d x), some (.d y), some (.d (.lst (kinds.map (rowOf x y)))), u6, u7, u8, u9, u10] [lo] = .ok (rngD 0 25) [lo] := by kernel_rfl
  rw [forB_eq]
  unfold sFor
  rw [hi]
  exact e
/-! ### errors with two fields -/
def twoR : SF := (sRet (eAnd (eCmp eqB (eFn reprR (aCons (eVar 5) aNil)) (eFn reprR (aCons (eBin mulD (eLst (aCons (eLst (aCons (eVar 0) (aCons (eVar 1) aNil))) aNil)) (eC (.int 6))) aNil))) (eCmp eqB (eVar 6) (eBin mulD (eLst (aCons (eC (.bl true)) aNil)) (eC (.int 7))))))
def six (x y : D) : D := .lst [.lst [x, y], .lst [x, y], .lst [x, y], .lst [x, y], .lst [x, y], .lst [x, y]]
def two (C : Addr) (f g : Str) (x y : D) : D := .lst [.exc C [g, f] [y, x], .exc C [g, f] [y, x]]
theorem two_pre (x y : D) (lo : LO) : m_l_two_right [.d x, .d y] [lo] = fnEnd 1 (twoR [some (.d x), some (.d y), some (.d (two 529 "part" "wish" x y)), some (.d (two 382 "line" "word" x y)), some (.d (two 613 "what" "most" x y)), some (.d (six x y)), some (.d (.lst [.bl true, .bl true, .bl true, .bl true, .bl true, .bl true, .bl true])), none] [lo]) := by kernel_rfl
theorem two_ev {x y : D} {z : Str} (hz : reprR [six x y] = some (.str z)) (lo : LO) : m_l_two_right [.d x, .d y] [lo] = .ok (.d (.bl true)) [lo] := by
  have hz' : reprR [.lst [.lst [x, y], .lst [x, y], .lst [x, y], .lst [x, y], .lst [x, y], .lst [x, y]]] = some (.str z) := hz
  have h6 : mulD (.lst [.lst [x, y]]) (.int 6) = some (six x y) := rfl
  have h7 : mulD (.lst [.bl true]) (.int 7) = some (.lst [.bl true, .bl true, .bl true, .bl true, .bl true, .bl true, .bl true]) := rfl
  have h8 : eqB (.lst [.bl true, .bl true, .bl true, .bl true, .bl true, .bl true, .bl true]) (.lst [.bl true, .bl true, .bl true, .bl true, .bl true, .bl true, .bl true]) = some true := by kernel_rfl
  rw [two_pre]
  simp [twoR, fnEnd, Rs.bind, opt, LO.rd, rdU, fzU, eVar, eC, op2, op1, eBin, eUn, eCmp, bop2, bCmp, eChain, bChain, trU, bTru, eAnd, eOr, eNot, bAnd, bOr, bNot, eIf, rdUs, fzUs, aNil, aCons, eLst, eTup, eLstL, opn, eFn, oNone, oSome, eSl, eJoin, Rt.andThen, ofR, optS, sNil, sSeq, sDrop, sRet, sIf, sSet, sPar, tfName, tfNil, tfCons, tfTup, sAsg, sSub, outR, fnF, cPos, cBoth, Sr.get, arrU, eCall, iSeq, iRng1, iRng2, sFor, eComp, tYesF, eMake, mkF, eRest, sFld, eFnU, sBrk, sCnt, sRetN, eDic0, eDic, dPairs, keyU, bD, big, eBinU, bBinU, bTest, eMeth, own1, own2, ownLen, lenU, truU, notU, sRaise, eAppend, apnd, newL, catL, sTry, Rt.clr, hz, h6, h7, h8, eq_str, truB]
theorem vals_sh : (vals.all fun x => shB 60 2 x) = true := by decide +kernel
theorem val_sh {x : D} (h : x ∈ vals) : Sh 60 2 x := shB_of (List.all_eq_true.mp vals_sh x h)
theorem six_sh {x y : D} (hx : x ∈ vals) (hy : y ∈ vals) : Sh 800 4 (six x y) := by
  have h1 : Sh 126 3 (.lst [x, y]) := Sh.lst (xs := [x, y]) fun z hz => by
    simp only [List.mem_cons, List.not_mem_nil, or_false] at hz
    rcases hz with rfl | rfl
    · exact val_sh hx
    · exact val_sh hy
  refine (Sh.lst (xs := [.lst [x, y], .lst [x, y], .lst [x, y], .lst [x, y], .lst [x, y], .lst [x, y]]) (m := 126) (k := 3) fun z hz => ?_).mono (by simp) (by decide)
  simp only [List.mem_cons, List.not_mem_nil, or_false, or_self] at hz
  subst hz
  exact h1
/-! ### the law -/
def turnB : SF := (sSeq (sPar 3 4 (aCons (eCall m_l_some [.p 0] 1 0 (cPos (aCons (eVar 1) aNil))) (aCons (eCall m_l_some [.p 0] 1 0 (cPos (aCons (eVar 1) aNil))) aNil))) (sSeq (sSet 5 (eBin addD (eCall m_l_parts [.p 0, .p 1] 2 0 (cPos (aCons (eVar 3) (aCons (eVar 4) aNil)))) (eCall m_l_names [.p 0, .p 1] 2 0 (cPos (aCons (eVar 3) (aCons (eVar 4) aNil)))))) (sSeq (sFor (iRng1 (aCons (eFn lenD (aCons (eVar 5) aNil)) aNil)) (tfName 6) (sSeq (sAsg (tfTup 4 (tfCons (tfName 7) (tfCons (tfName 8) (tfCons (tfName 9) (tfCons (tfName 10) tfNil))))) (eBin ixD (eVar 5) (eVar 6))) (sSeq (sIf (bOr (bCmp neB (eFn reprR (aCons (eVar 8) aNil)) (eFn reprR (aCons (eVar 3) aNil))) (bCmp neB (eFn reprR (aCons (eVar 10) aNil)) (eFn reprR (aCons (eVar 4) aNil)))) (sRet (eC (.bl false))) sNil) (sIf (bOr (bNot (bTru (eCall m_l_is_alone [.p 0, .p 1] 2 0 (cPos (aCons (eVar 7) (aCons (eVar 6) aNil)))))) (bNot (bTru (eCall m_l_is_alone [.p 0, .p 1] 2 0 (cPos (aCons (eVar 9) (aCons (eVar 6) aNil))))))) (sRet (eC (.bl false))) sNil)))) (sIf (bNot (bTru (eCall m_l_two_right [.p 0, .p 1] 2 0 (cPos (aCons (eVar 3) (aCons (eVar 4) aNil)))))) (sRet (eC (.bl false))) sNil))))
theorem turn_eq : turnB = (sSeq (sPar 3 4 (aCons (eCall m_l_some [.p 0] 1 0 (cPos (aCons (eVar 1) aNil))) (aCons (eCall m_l_some [.p 0] 1 0 (cPos (aCons (eVar 1) aNil))) aNil))) (sSeq (sSet 5 (eBin addD (eCall m_l_parts [.p 0, .p 1] 2 0 (cPos (aCons (eVar 3) (aCons (eVar 4) aNil)))) (eCall m_l_names [.p 0, .p 1] 2 0 (cPos (aCons (eVar 3) (aCons (eVar 4) aNil)))))) (sSeq forB (sIf (bNot (bTru (eCall m_l_two_right [.p 0, .p 1] 2 0 (cPos (aCons (eVar 3) (aCons (eVar 4) aNil)))))) (sRet (eC (.bl false))) sNil)))) := rfl
theorem turn_ev {n : Nat} (hn : n + 10 < 2 ^ 20) {L : LS} (p : Pen n L) (u0 u2 u3 u4 u5 u6 u7 u8 u9 u10 : Option U) :
    ∃ v3 v4 v5 v6 v7 v8 v9 v10 L', turnB [u0, some (.l 0), u2, u3, u4, u5, u6, u7, u8, u9, u10] L = .nx [u0, some (.l 0), u2, v3, v4, v5, v6, v7, v8, v9, v10] L' ∧ Pen (n + 2) L' := by
  obtain ⟨x, L1, e1, hx, p1⟩ := v_some (by omega) p
  obtain ⟨y, L2, e2, hy, p2⟩ := v_some (by omega) p1
  obtain ⟨zx, ex⟩ := (val_sh hx).repr (by decide) (by decide)
  obtain ⟨zy, ey⟩ := (val_sh hy).repr (by decide) (by decide)
  obtain ⟨zz, ez⟩ := (six_sh hx hy).repr (by decide) (by decide)
  obtain ⟨lo, hL⟩ := p2.one
  subst hL
  obtain ⟨w6, w7, w8, w9, w10, e5⟩ := for_ev ex ey lo u0 (some (.l 0)) u2 u6 u7 u8 u9 u10
  have h3 := parts_ev x y lo
  have h4 := names_ev x y lo
  have h34 : addD (.lst ((kinds.take 14).map (rowOf x y))) (.lst ((kinds.drop 14).map (rowOf x y))) = some (.lst (kinds.map (rowOf x y))) := rfl
  have h6 := two_ev ez lo
  generalize (kinds.take 14).map (rowOf x y) = r1 at h3 h34
  generalize (kinds.drop 14).map (rowOf x y) = r2 at h4 h34
  generalize kinds.map (rowOf x y) = r3 at h34 e5
  refine ⟨some (.d x), some (.d y), some (.d (.lst r3)), w6, w7, w8, w9, w10, [lo], ?_, p2⟩
  rw [turn_eq]
  simp [Rs.bind, opt, LO.rd, rdU, fzU, eVar, eC, op2, op1, eBin, eUn, eCmp, bop2, bCmp, eChain, bChain, trU, bTru, eAnd, eOr, eNot, bAnd, bOr, bNot, eIf, rdUs, fzUs, aNil, aCons, eLst, eTup, eLstL, opn, eFn, oNone, oSome, eSl, eJoin, Rt.andThen, ofR, optS, sNil, sSeq, sDrop, sRet, sIf, sSet, sPar, tfName, tfNil, tfCons, tfTup, sAsg, sSub, outR, fnF, cPos, cBoth, Sr.get, arrU, eCall, iSeq, iRng1, iRng2, sFor, eComp, tYesF, eMake, mkF, eRest, sFld, eFnU, sBrk, sCnt, sRetN, eDic0, eDic, dPairs, keyU, bD, big, eBinU, bBinU, bTest, eMeth, own1, own2, ownLen, lenU, truU, notU, sRaise, eAppend, apnd, newL, catL, sTry, Rt.clr, e1, e2, h3, h4, h34, e5, h6, truB]
def tailB : SF := sRet (eNot (eFn (isiT isi) (aCons (eVE (aCons (eC (.str "a")) aNil)) (aCons (eC (.obj 24)) aNil))))
theorem law_eq : m_law = fnF 1 11 (sSeq (sSet 1 (eCall m_l_pen [.p 0] 1 0 (cPos (aCons (eVar 0) aNil)))) (sSeq (sFor (iRng1 (aCons (eC (.int 4)) aNil)) (tfName 2) turnB) tailB)) := rfl
theorem v_pen (ns : List Int) : m_l_pen [.d (.scr ns)] [] = .ok (.l 0) (penL (cutG ns none (some 63)) 0 0) := by
  simp [m_l_pen, Rs.bind, opt, LO.rd, rdU, fzU, eVar, eC, op2, op1, eBin, eUn, eCmp, bop2, bCmp, eChain, bChain, trU, bTru, eAnd, eOr, eNot, bAnd, bOr, bNot, eIf, rdUs, fzUs, aNil, aCons, eLst, eTup, eLstL, opn, eFn, oNone, oSome, eSl, eJoin, Rt.andThen, ofR, optS, sNil, sSeq, sDrop, sRet, sIf, sSet, sPar, tfName, tfNil, tfCons, tfTup, sAsg, sSub, outR, fnF, cPos, cBoth, Sr.get, arrU, eCall, iSeq, iRng1, iRng2, sFor, eComp, tYesF, eMake, mkF, eRest, sFld, eFnU, sBrk, sCnt, sRetN, eDic0, eDic, dPairs, keyU, bD, big, eBinU, bBinU, bTest, eMeth, own1, own2, ownLen, lenU, truU, notU, sRaise, eAppend, apnd, newL, catL, sTry, Rt.clr, sliceD, listD, penL]
theorem tail_ev (st : SS) (L : LS) : tailB st L = .rt (.d (.bl true)) L := by kernel_rfl
theorem law_true (ns : List Int) (h : ns.length ≤ 63) : ∃ L', m_law [.d (.scr ns)] [] = .ok (.d (.bl true)) L' := by
  have p0 : Pen 0 (penL (cutG ns none (some 63)) 0 0) := ⟨_, 0, 0, rfl, by omega, by omega, by omega⟩
  obtain ⟨st', L', e, ⟨v0, v2, v3, v4, v5, v6, v7, v8, v9, v10, rfl⟩, p'⟩ := forF_inv (tf := tfName 2) (body := turnB) (fun i st L => (∃ v0 v2 v3 v4 v5 v6 v7 v8 v9 v10, st = [v0, some (.l 0), v2, v3, v4, v5, v6, v7, v8, v9, v10]) ∧ Pen (2 * i) L) (rngD 0 4) 0 [some (.d (.scr ns)), some (.l 0), none, none, none, none, none, none, none, none, none] _ ⟨⟨_, _, _, _, _, _, _, _, _, _, rfl⟩, p0⟩ (by
    intro j st L _ hj ⟨⟨v0, v2, v3, v4, v5, v6, v7, v8, v9, v10, e1⟩, p⟩ d hd
    subst e1
    have hj4 : j < 4 := by simpa [rngD] using hj
    obtain ⟨w3, w4, w5, w6, w7, w8, w9, w10, L', e, p'⟩ := turn_ev (by omega) p v0 (some (.d d)) v3 v4 v5 v6 v7 v8 v9 v10
    exact ⟨_, _, L', rfl, .inl e, ⟨_, _, _, _, _, _, _, _, _, _, rfl⟩, p'.mono (by omega)⟩)
  have hi : ∀ (st : SS) (L : LS), iRng1 (aCons (eC (.int 4)) aNil) st L = .ok (rngD 0 4) L := fun st L => by kernel_rfl
  refine ⟨[], ?_⟩
  rw [law_eq]
  have h4 : inRng 4 = true := rfl
  simp [Rs.bind, opt, LO.rd, rdU, fzU, eVar, eC, op2, op1, eBin, eUn, eCmp, bop2, bCmp, eChain, bChain, trU, bTru, eAnd, eOr, eNot, bAnd, bOr, bNot, eIf, rdUs, fzUs, aNil, aCons, eLst, eTup, eLstL, opn, eFn, oNone, oSome, eSl, eJoin, Rt.andThen, ofR, optS, sNil, sSeq, sDrop, sRet, sIf, sSet, sPar, tfName, tfNil, tfCons, tfTup, sAsg, sSub, outR, fnF, cPos, cBoth, Sr.get, arrU, eCall, iSeq, iRng1, iRng2, sFor, eComp, tYesF, eMake, mkF, eRest, sFld, eFnU, sBrk, sCnt, sRetN, eDic0, eDic, dPairs, keyU, bD, big, eBinU, bBinU, bTest, eMeth, own1, own2, ownLen, lenU, truU, notU, sRaise, eAppend, apnd, newL, catL, sTry, Rt.clr, v_pen, h4, e, tail_ev]
end VL.P

set_option Elab.async false
set_option linter.all false
set_option maxRecDepth 100000
set_option maxHeartbeats 4000000
open PySem PySem.Spec PyProof.Rows L2 VL
open PySem.W (Frag)
namespace VL.P
theorem fin {w : World} {K : Frag} {mg : Str → Option Value} {fa : Addr} (hmg : mg "law" = some (.ref fa)) (tp : ∃ a : Ad, Tp PySem.Challenge.pw_stayhouse_k00_errors_and_their_fields K mg a ∧ ∀ (s : Shared) (u : Value), BindsTo s a.d_law ⟨[u], []⟩ [("_law_script", u)]) :
    ∃ (fd : FuncData) (m : FF), (∀ (s : Shared) (u : Value), BindsTo s fd ⟨[u], []⟩ [("_law_script", u)]) ∧ (∀ base : Heap, K.In base → base.Ns mainGlobals mg → NoDig base → KFn PySem.Challenge.pw_stayhouse_k00_errors_and_their_fields w K mg base 4 fa fd ["_law_script"] m) ∧ ∀ ns : List Int, ns.length ≤ 63 → ∃ L', m [.d (.scr ns)] [] = .ok (.d (.bl true)) L' := by
  obtain ⟨a, T, hb⟩ := tp
  have e := T.mg_law
  rw [e] at hmg
  cases hmg
  exact ⟨a.d_law, m_law, hb, fun base _ _ nd => k_law T ⟨nd⟩, fun ns hl => law_true ns hl⟩
end VL.P
open PySem PySem.W PyProof.Rows
set_option maxHeartbeats 0 in
theorem PySem.Challenge.cw_stayhouse_k00_errors_and_their_fields_holds : PySem.Challenge.rw_stayhouse_k00_errors_and_their_fields.Holds := by
  w_on; o_law; k_headL; (case hw => as_aux_lemma => w_witness2)
  k_fill
  as_aux_lemma =>
    refine VL.walk_vl (l := PySem.Challenge.rw_stayhouse_k00_errors_and_their_fields) (n := 63) (k := 4) (x := "_law_script") rfl (by decide) rfl ⟨⟨rfl, by decide, by decide⟩, rfl⟩ (fun w h Y => PySem.W.kIn_of Y) ?F
    case F =>
     intro w mg fa h KX G hmg
     refine' VL.P.fin hmg (VL.P.mk_tp KX G ?l_l_is_alone ?l_l_names ?l_l_parts ?l_l_pen ?l_l_draw ?l_l_pick ?l_l_some ?l_l_two_right ?l_law ?l_BadBook_init ?l_BadCalendar_init ?l_BadCounts_init ?l_BadHouse_init ?l_BadLimit_init ?l_BadLine_init ?l_BadLines_init ?l_BadName_init ?l_BadNumber_init ?l_BadPlan_init ?l_BadPromise_init ?l_BadRow_init ?l_BadRule_init ?l_BadSite_init ?l_BadStay_init ?l_BadStock_init ?l_BadText_init ?l_BadWish_init ?l_Barred_init ?l_NoBay_init ?l_NoGate_init ?l_NoGuest_init ?l_NoHall_init ?l_NoSite_init ?l_NoWish_init ?l_Nothing_init ?l_Refused_init ?l_TooMany_init ?l_Unbounded_init ?tt)
     (case l_l_is_alone => k_is)
     (case l_l_names => k_is)
     (case l_l_parts => k_is)
     (case l_l_pen => k_is)
     (case l_l_draw => k_is)
     (case l_l_pick => k_is)
     (case l_l_some => k_is)
     (case l_l_two_right => k_is)
     (case l_law => k_is)
     (case l_BadBook_init => k_is)
     (case l_BadCalendar_init => k_is)
     (case l_BadCounts_init => k_is)
     (case l_BadHouse_init => k_is)
     (case l_BadLimit_init => k_is)
     (case l_BadLine_init => k_is)
     (case l_BadLines_init => k_is)
     (case l_BadName_init => k_is)
     (case l_BadNumber_init => k_is)
     (case l_BadPlan_init => k_is)
     (case l_BadPromise_init => k_is)
     (case l_BadRow_init => k_is)
     (case l_BadRule_init => k_is)
     (case l_BadSite_init => k_is)
     (case l_BadStay_init => k_is)
     (case l_BadStock_init => k_is)
     (case l_BadText_init => k_is)
     (case l_BadWish_init => k_is)
     (case l_Barred_init => k_is)
     (case l_NoBay_init => k_is)
     (case l_NoGate_init => k_is)
     (case l_NoGuest_init => k_is)
     (case l_NoHall_init => k_is)
     (case l_NoSite_init => k_is)
     (case l_NoWish_init => k_is)
     (case l_Nothing_init => k_is)
     (case l_Refused_init => k_is)
     (case l_TooMany_init => k_is)
     (case l_Unbounded_init => k_is)
     (case tt => kernel_rfl)
