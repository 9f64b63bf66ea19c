import PyProof.Rows.All
import Wide.All
import OpenK.AllK
import Wide.FinOn
import HandS.ForMost
import HandS.Exc
import HandS.IsInst
import HandS.ExcIs
import HandS.ExcField
import HandS.RaiseMore
import HandS.CallSlots
import HandS.Wide
import HandS.Flow
import KE.DataEq
import KE.DataAny
import KE.KExcIs
import PyProof.ReprRoads
import KE.KIntText
import PyProof.StrOps2
import PyProof.FitsInt
import KE.KExcSuper
import KE.KSuper
import HandS.ExcInit
import HandS.Property
import HandS.ExcValue
import HandS.ExcBuiltin
import HandS.Style
import HandS.TupMul
import HandS.TupAny
import HandS.Zip
import HandS.Star
import HandS.IterVal
import HandS.OwnEq
import HandS.MapObj
import KE.KOwnIter
import KE.KDictZip
import HandS.Defaults
import KE.KStar
import HandS.SetKeys
import PyProof.LongRange
import HandS.SetFor
import HandS.Strs
import KE.KOpsOwn
import KE.OsRunLaw
import PySem.Challenge.RW_stayhouse_k41_whole_rows_of_stays_that_f
set_option Elab.async false
set_option linter.all false
set_option maxRecDepth 100000
set_option maxHeartbeats 4000000
/-! The value layer: Python values as plain data; a def is mirrored by a function on data. -/
namespace VL
open PySem PySem.Spec PyProof.Rows L2
open PySem.W (Frag)

/-- a value: what never changes any more -/
inductive D where
  | non | bl (b : Bool) | int (i : Int) | str (x : Str)
  | lst (xs : List D) | tup (xs : List D)
  | dic (ks : List Key) (xs : List D)
  | dit (ks : List (List Key)) (xs : List D)
  | ins (C : Addr) (ns : List Str) (xs : List D)
  | exc (C : Addr) (ns : List Str) (xs : List D) | ex0 (c : Value)
  | obj (a : Addr) | ty (n : String) | scr (ns : List Int)
  deriving Inhabited

/-- an object that still changes; z: one that has come to rest -/
inductive LO where
  | l (xs : List D) | d (ks : List Key) (xs : List D) | t (ks : List (List Key)) (xs : List D) | i (C : Addr) (ns : List Str) (xs : List D) | z (d : D)
abbrev LS := List LO
/-- what a slot holds: a value, or a changing object by its number -/
inductive U where
  | d (x : D) | l (n : Nat)

/-- the object of an exception, at a: its class, its own dict -/
def ExcO (a C d : Addr) : Heap → Prop := fun h => ∃ oe vs, h.get? a = some oe ∧ oe.cls = .ref C ∧ oe.dict = some d ∧ oe.data = .fields vs

/-- an exception without a dict of its own -/
def ExcO0 (a : Addr) (c : Value) : Heap → Prop := fun h => ∃ oe vs, h.get? a = some oe ∧ oe.cls = c ∧ oe.dict = none ∧ oe.data = .fields vs
/-- what is asked of its class -/
def Ex0C (K : Frag) : Value → Prop
  | .ref C => ExcC K C
  | .type n => n = "ValueError"
  | _ => False
def KL (K : Frag) (a : Addr) (xs : List V) : Prop :=
  ∃ (o : Obj) (its : Array Value) (n : Nat), K.lookup a = some o ∧ o.cls = .type "list" ∧ o.dict = none ∧ o.data = .seq its n ∧ its.size ≤ sizeLine ∧ Vals xs its.toList
def KT (K : Frag) (a : Addr) (xs : List V) : Prop :=
  ∃ (o : Obj) (its : Array Value) (n : Nat), K.lookup a = some o ∧ o.cls = .type "tuple" ∧ o.data = .seq its n ∧ its.size ≤ sizeLine ∧ Vals xs its.toList
/-- what an own class must say -/
structure OwnC (K : Frag) (C : Addr) : Prop where
  cl : Cls K C
  ha : PySem.W.findIn K (.ref C) "__class__" = some (some (.builtin "object.__class__"))
  hn : PySem.W.specialIn K (.builtin "object.__class__") "__get__" = some (some (.builtin "getset_descriptor.__get__"))
  ht : PySem.W.takesIn K (.builtin "object.__class__") = some true
  hm : PySem.W.mroIn K C (.type "object") = some true
def ScAt (K : Frag) (F : Addr → Prop) (H : Hp) (a : Addr) (vs : List V) : Prop := (F a ∧ ∃ o, H a = some (.frz o (.lst vs))) ∨ KL K a vs
def LsAt (K : Frag) (F : Addr → Prop) (H : Hp) (a : Addr) (vs : List V) : Prop := F a ∧ H a = some (.lst vs)
def TpAt (K : Frag) (F : Addr → Prop) (H : Hp) (a : Addr) (vs : List V) : Prop := (F a ∧ Rd H a (.tup vs)) ∨ KT K a vs

mutual
def Rep (K : Frag) (F : Addr → Prop) (H : Hp) : D → V → Prop
  | .non, v => v = .non
  | .bl b, v => v = .bl b
  | .int i, v => v = .int i
  | .str x, v => v = .str x
  | .lst xs, v => ∃ a vs, v = .ref a ∧ LsAt K F H a vs ∧ RepL K F H xs vs
  | .tup xs, v => ∃ a vs, v = .ref a ∧ TpAt K F H a vs ∧ RepL K F H xs vs
  | .dic ks xs, v => ∃ a kvs, v = .ref a ∧ F a ∧ H a = some (.dK kvs) ∧ kvs.map (·.1) = ks ∧ RepL K F H xs (kvs.map (·.2))
  | .dit ks xs, v => ∃ a kvs, v = .ref a ∧ F a ∧ H a = some (.dT kvs) ∧ kvs.map (·.1) = ks ∧ RepL K F H xs (kvs.map (·.2))
  | .ins C ns xs, v => ∃ a dx fs, v = .ref a ∧ F a ∧ H a = some (.ins C dx fs) ∧ OwnC K C ∧ fs.map (·.1) = ns ∧ RepL K F H xs (fs.map (·.2))
  | .exc C ns xs, v => ∃ a d fs, v = .ref a ∧ F a ∧ F d ∧ H a = some (.ext (ExcO a C d)) ∧ H d = some (.xd fs) ∧ ExcC K C ∧ fs.map (·.1) = ns ∧ RepL K F H xs (fs.map (·.2))
  | .ex0 c, v => ∃ a, v = .ref a ∧ F a ∧ H a = some (.ext (ExcO0 a c)) ∧ Ex0C K c
  | .obj a, v => v = .ref a
  | .ty n, v => v = .ty n
  | .scr ns, v => ∃ a, v = .ref a ∧ ScAt K F H a (ns.map V.int)
def RepL (K : Frag) (F : Addr → Prop) (H : Hp) : List D → List V → Prop
  | [], vs => vs = []
  | d :: ds, vs => ∃ v r, vs = v :: r ∧ Rep K F H d v ∧ RepL K F H ds r
end

section
variable {K : Frag} {F F' : Addr → Prop} {H H' : Hp}
theorem ScAt.sq {a : Addr} {vs : List V} (h : ScAt K F H a vs) : SqL K H a vs := by
  rcases h with ⟨_, h⟩ | h
  · exact .inl (.inr h)
  · exact .inr h
theorem TpAt.sq {a : Addr} {vs : List V} (h : TpAt K F H a vs) : SqT K H a vs := by
  rcases h with ⟨_, h⟩ | h
  · exact .inl h
  · exact .inr h
theorem Rd.mv {a : Addr} {u : HO} (h : Rd H a u) (e : H' a = H a) : Rd H' a u := by
  rcases h with h | ⟨o, h⟩
  · exact .inl (e.trans h)
  · exact .inr ⟨o, e.trans h⟩
theorem LsAt.mono (k : ∀ a, F a → F' a ∧ H' a = H a) {a : Addr} {vs : List V} (h : LsAt K F H a vs) : LsAt K F' H' a vs := ⟨(k a h.1).1, (k a h.1).2.trans h.2⟩
theorem ScAt.mono (k : ∀ a, F a → F' a ∧ H' a = H a) {a : Addr} {vs : List V} (h : ScAt K F H a vs) : ScAt K F' H' a vs := by
  rcases h with ⟨f, o, h⟩ | h
  · exact .inl ⟨(k a f).1, o, (k a f).2.trans h⟩
  · exact .inr h
theorem TpAt.mono (k : ∀ a, F a → F' a ∧ H' a = H a) {a : Addr} {vs : List V} (h : TpAt K F H a vs) : TpAt K F' H' a vs := by
  rcases h with ⟨f, h⟩ | h
  · exact .inl ⟨(k a f).1, Rd.mv h (k a f).2⟩
  · exact .inr h
mutual
theorem Rep.mono (k : ∀ a, F a → F' a ∧ H' a = H a) : ∀ (d : D) {v : V}, Rep K F H d v → Rep K F' H' d v
  | .non, _, h => h
  | .bl _, _, h => h
  | .int _, _, h => h
  | .str _, _, h => h
  | .lst xs, _, ⟨a, vs, e, h, r⟩ => ⟨a, vs, e, h.mono k, RepL.mono k xs r⟩
  | .tup xs, _, ⟨a, vs, e, h, r⟩ => ⟨a, vs, e, h.mono k, RepL.mono k xs r⟩
  | .dic ks xs, _, ⟨a, vs, e, f, h, q, r⟩ => ⟨a, vs, e, (k a f).1, (k a f).2.trans h, q, RepL.mono k xs r⟩
  | .dit ks xs, _, ⟨a, vs, e, f, h, q, r⟩ => ⟨a, vs, e, (k a f).1, (k a f).2.trans h, q, RepL.mono k xs r⟩
  | .ins C ns xs, _, ⟨a, dx, fs, e, f, h, oc, q, r⟩ => ⟨a, dx, fs, e, (k a f).1, (k a f).2.trans h, oc, q, RepL.mono k xs r⟩
  | .exc C ns xs, _, ⟨a, d, fs, e, f, f2, h, h2, oc, q, r⟩ => ⟨a, d, fs, e, (k a f).1, (k d f2).1, (k a f).2.trans h, (k d f2).2.trans h2, oc, q, RepL.mono k xs r⟩
  | .ex0 _, _, ⟨a, e, f, h, c⟩ => ⟨a, e, (k a f).1, (k a f).2.trans h, c⟩
  | .obj _, _, h => h
  | .ty _, _, h => h
  | .scr _, _, ⟨a, e, h⟩ => ⟨a, e, h.mono k⟩
theorem RepL.mono (k : ∀ a, F a → F' a ∧ H' a = H a) : ∀ (ds : List D) {vs : List V}, RepL K F H ds vs → RepL K F' H' ds vs
  | [], _, h => h
  | d :: ds, _, ⟨v, r, e, h, t⟩ => ⟨v, r, e, Rep.mono k d h, RepL.mono k ds t⟩
end
theorem RepL.length : ∀ {ds : List D} {vs : List V}, RepL K F H ds vs → vs.length = ds.length
  | [], _, h => by cases h; rfl
  | d :: ds, _, ⟨v, r, e, _, t⟩ => by subst e; simp [RepL.length t]
theorem RepL.get : ∀ {ds : List D} {vs : List V}, RepL K F H ds vs → ∀ {i : Nat} {d : D}, ds[i]? = some d → ∃ v, vs[i]? = some v ∧ Rep K F H d v
  | [], _, _, _, _, e => by simp at e
  | d :: ds, _, ⟨v, r, e, h, t⟩, 0, _, q => by subst e; simp at q; subst q; exact ⟨v, rfl, h⟩
  | d :: ds, _, ⟨v, r, e, h, t⟩, i + 1, _, q => by subst e; exact RepL.get t (i := i) (by simpa using q)
theorem RepL.get' : ∀ {ds : List D} {vs : List V}, RepL K F H ds vs → ∀ {i : Nat} {v : V}, vs[i]? = some v → ∃ d, ds[i]? = some d ∧ Rep K F H d v
  | [], _, h, _, _, e => by cases h; simp at e
  | d :: ds, _, ⟨v, r, e, h, t⟩, 0, _, q => by subst e; simp at q; subst q; exact ⟨d, rfl, h⟩
  | d :: ds, _, ⟨v, r, e, h, t⟩, i + 1, _, q => by subst e; exact RepL.get' t (i := i) (by simpa using q)
theorem RepL.append : ∀ {ds es : List D} {vs us : List V}, RepL K F H ds vs → RepL K F H es us → RepL K F H (ds ++ es) (vs ++ us)
  | [], _, _, _, h, q => by cases h; exact q
  | d :: ds, _, _, _, ⟨v, r, e, h, t⟩, q => by subst e; exact ⟨v, _, rfl, h, RepL.append t q⟩
theorem RepL.one {d : D} {v : V} (h : Rep K F H d v) : RepL K F H [d] [v] := ⟨v, [], rfl, h, rfl⟩
theorem RepL.take : ∀ {ds : List D} {vs : List V} (n : Nat), RepL K F H ds vs → RepL K F H (ds.take n) (vs.take n)
  | _, _, 0, _ => rfl
  | [], _, _ + 1, h => by cases h; rfl
  | d :: ds, _, n + 1, ⟨v, r, e, h, t⟩ => by subst e; exact ⟨v, _, rfl, h, RepL.take n t⟩
theorem RepL.drop : ∀ {ds : List D} {vs : List V} (n : Nat), RepL K F H ds vs → RepL K F H (ds.drop n) (vs.drop n)
  | _, _, 0, h => h
  | [], _, _ + 1, h => by cases h; rfl
  | d :: ds, _, n + 1, ⟨v, r, e, h, t⟩ => by subst e; exact RepL.drop n t
theorem RepL.set : ∀ {ds : List D} {vs : List V} (i : Nat) {d : D} {v : V}, RepL K F H ds vs → Rep K F H d v → RepL K F H (ds.set i d) (vs.set i v)
  | [], _, _, _, _, h, _ => by cases h; rfl
  | _ :: ds, _, 0, _, _, ⟨v, r, e, h, t⟩, q => by subst e; exact ⟨_, _, rfl, q, t⟩
  | _ :: ds, _, i + 1, _, _, ⟨v, r, e, h, t⟩, q => by subst e; exact ⟨_, _, rfl, h, RepL.set i t q⟩
end

/-- what is read: the object itself need not have come to rest -/
def Rdr (K : Frag) (F : Addr → Prop) (H : Hp) : D → V → Prop
  | .lst xs, v => ∃ a vs, v = .ref a ∧ H a = some (.lst vs) ∧ RepL K F H xs vs
  | .tup xs, v => ∃ a vs, v = .ref a ∧ SqT K H a vs ∧ RepL K F H xs vs
  | .dic ks xs, v => ∃ a kvs, v = .ref a ∧ H a = some (.dK kvs) ∧ kvs.map (·.1) = ks ∧ RepL K F H xs (kvs.map (·.2))
  | .dit ks xs, v => ∃ a kvs, v = .ref a ∧ H a = some (.dT kvs) ∧ kvs.map (·.1) = ks ∧ RepL K F H xs (kvs.map (·.2))
  | .ins C ns xs, v => ∃ a dx fs, v = .ref a ∧ H a = some (.ins C dx fs) ∧ OwnC K C ∧ fs.map (·.1) = ns ∧ RepL K F H xs (fs.map (·.2))
  | d, v => Rep K F H d v
theorem Rep.rdr {K : Frag} {F : Addr → Prop} {H : Hp} : ∀ {d : D} {v : V}, Rep K F H d v → Rdr K F H d v
  | .non, _, h => h
  | .bl _, _, h => h
  | .int _, _, h => h
  | .str _, _, h => h
  | .lst xs, _, ⟨a, vs, e, h, r⟩ => ⟨a, vs, e, h.2, r⟩
  | .tup xs, _, ⟨a, vs, e, h, r⟩ => ⟨a, vs, e, h.sq, r⟩
  | .dic ks xs, _, ⟨a, vs, e, f, h, q, r⟩ => ⟨a, vs, e, h, q, r⟩
  | .dit ks xs, _, ⟨a, vs, e, f, h, q, r⟩ => ⟨a, vs, e, h, q, r⟩
  | .ins C ns xs, _, ⟨a, dx, fs, e, f, h, oc, q, r⟩ => ⟨a, dx, fs, e, h, oc, q, r⟩
  | .exc C ns xs, _, h => h
  | .ex0 _, _, h => h
  | .obj _, _, h => h
  | .ty _, _, h => h
  | .scr _, _, h => h

/-! ### the whole state -/
def LAt (K : Frag) (F : Addr → Prop) (H : Hp) (a : Addr) : LO → Prop
  | .l xs => ¬ F a ∧ ∃ vs, H a = some (.lst vs) ∧ RepL K F H xs vs
  | .d ks xs => ¬ F a ∧ ∃ kvs, H a = some (.dK kvs) ∧ kvs.map (·.1) = ks ∧ RepL K F H xs (kvs.map (·.2))
  | .t ks xs => ¬ F a ∧ ∃ kvs, H a = some (.dT kvs) ∧ kvs.map (·.1) = ks ∧ RepL K F H xs (kvs.map (·.2))
  | .i C ns xs => ¬ F a ∧ ∃ dx fs, H a = some (.ins C dx fs) ∧ OwnC K C ∧ fs.map (·.1) = ns ∧ RepL K F H xs (fs.map (·.2))
  | .z d => Rep K F H d (.ref a)
def LO.on : LO → Bool
  | .z _ => false
  | _ => true
structure Ok (K : Frag) (F : Addr → Prop) (r : Nat → Addr) (H : Hp) (L : LS) : Prop where
  at_ : ∀ n lo, L[n]? = some lo → LAt K F H (r n) lo
  inj : ∀ m n lo lo', L[m]? = some lo → L[n]? = some lo' → lo.on = true → lo'.on = true → r m = r n → m = n
  stands : ∀ a, F a → H a ≠ none
/-- a changing object of ours stands at a -/
def Lv (ρ : Nat → Addr) (L : LS) (a : Addr) : Prop := ∃ n lo, L[n]? = some lo ∧ lo.on = true ∧ ρ n = a
structure Step (F : Addr → Prop) (r : Nat → Addr) (H : Hp) (L : LS) (F' : Addr → Prop) (r' : Nat → Addr) (H' : Hp) (L' : LS) : Prop where
  fz : ∀ a, F a → F' a ∧ H' a = H a
  len : L.length ≤ L'.length
  same : ∀ n, n < L.length → r' n = r n
  keep : ∀ a u, H a = some u → ¬ Lv r L a → H' a = some u
  new : ∀ n lo, L.length ≤ n → L'[n]? = some lo → lo.on = true → H (r' n) = none
  off : ∀ n lo, n < L.length → L'[n]? = some lo → lo.on = true → ∃ l0, L[n]? = some l0 ∧ l0.on = true
  trk : ∀ a, H' a = none → H a = none
  fr : ∀ a, F' a → F a ∨ H a = none ∨ Lv r L a
theorem Step.refl {F : Addr → Prop} {r : Nat → Addr} {H : Hp} {L : LS} : Step F r H L F r H L :=
  ⟨fun _ h => ⟨h, rfl⟩, Nat.le_refl _, fun _ _ => rfl, fun _ _ h _ => h, fun n lo h e _ => absurd (List.getElem?_eq_some_iff.mp e).1 (Nat.not_lt.mpr h), fun n lo _ e t => ⟨lo, e, t⟩, fun _ h => h, fun _ h => .inl h⟩
theorem Step.lv {F F1 : Addr → Prop} {r r1 : Nat → Addr} {H H1 : Hp} {L L1 : LS} (s : Step F r H L F1 r1 H1 L1) {a : Addr} (h : Lv r1 L1 a) : H a = none ∨ Lv r L a := by
  obtain ⟨n, lo, e, t, rfl⟩ := h
  by_cases hn : n < L.length
  · obtain ⟨l0, e0, t0⟩ := s.off n lo hn e t
    exact .inr ⟨n, l0, e0, t0, (s.same n hn).symm⟩
  · exact .inl (s.new n lo (Nat.not_lt.mp hn) e t)
theorem Step.trans {F F1 F2 : Addr → Prop} {r r1 r2 : Nat → Addr} {H H1 H2 : Hp} {L L1 L2 : LS} (a : Step F r H L F1 r1 H1 L1) (b : Step F1 r1 H1 L1 F2 r2 H2 L2) : Step F r H L F2 r2 H2 L2 where
  fz := fun x h => ⟨(b.fz x (a.fz x h).1).1, (b.fz x (a.fz x h).1).2.trans (a.fz x h).2⟩
  len := Nat.le_trans a.len b.len
  same := fun n h => (b.same n (Nat.lt_of_lt_of_le h a.len)).trans (a.same n h)
  keep := fun x u e h => b.keep x u (a.keep x u e h) fun z => (a.lv z).elim (fun q => by rw [q] at e; cases e) h
  new := fun n lo h e t => by
    by_cases hn : n < L1.length
    · obtain ⟨l1, e1, t1⟩ := b.off n lo hn e t
      rw [b.same n hn]
      exact a.new n l1 h e1 t1
    · exact a.trk _ (b.new n lo (Nat.not_lt.mp hn) e t)
  off := fun n lo h e t => by
    obtain ⟨l1, e1, t1⟩ := b.off n lo (Nat.lt_of_lt_of_le h a.len) e t
    exact a.off n l1 h e1 t1
  trk := fun x h => a.trk x (b.trk x h)
  fr := fun x h => by
    rcases b.fr x h with q | q | q
    · exact a.fr x q
    · exact .inr (.inl (a.trk x q))
    · exact .inr (a.lv q)

def RepU (K : Frag) (F : Addr → Prop) (r : Nat → Addr) (H : Hp) (L : LS) : U → V → Prop
  | .d x, v => Rep K F H x v
  | .l n, v => n < L.length ∧ v = .ref (r n)
theorem RepU.mono {K : Frag} {F F' : Addr → Prop} {r r' : Nat → Addr} {H H' : Hp} {L L' : LS} (s : Step F r H L F' r' H' L') {u : U} {v : V} (h : RepU K F r H L u v) : RepU K F' r' H' L' u v := by
  cases u with
  | d x => exact Rep.mono s.fz x h
  | l n => exact ⟨Nat.lt_of_lt_of_le h.1 s.len, by rw [s.same n h.1]; exact h.2⟩
/-- the slots -/
abbrev SS := List (Option U)
structure RepSt (K : Frag) (F : Addr → Prop) (r : Nat → Addr) (H : Hp) (L : LS) (σ : L2.St) (st : SS) : Prop where
  len : σ.length = st.length
  at_ : ∀ (i : Nat) u, st[i]? = some (some u) → ∃ v, σ[i]? = some (some v) ∧ RepU K F r H L u v
theorem RepSt.mono {K : Frag} {F F' : Addr → Prop} {r r' : Nat → Addr} {H H' : Hp} {L L' : LS} (s : Step F r H L F' r' H' L') {σ : L2.St} {st : SS} (h : RepSt K F r H L σ st) : RepSt K F' r' H' L' σ st :=
  ⟨h.len, fun i u e => let ⟨v, e1, r1⟩ := h.at_ i u e; ⟨v, e1, r1.mono s⟩⟩
theorem RepSt.set {K : Frag} {F : Addr → Prop} {r : Nat → Addr} {H : Hp} {L : LS} {σ : L2.St} {st : SS} (h : RepSt K F r H L σ st) (i : Nat) {u : U} {v : V} (hu : RepU K F r H L u v) : RepSt K F r H L (σ.set i (some v)) (st.set i (some u)) := by
  refine ⟨by simp [h.len], fun j w e => ?_⟩
  by_cases q : j = i
  · subst q
    by_cases hl : j < st.length
    · rw [List.getElem?_set_self hl] at e
      have e' : u = w := Option.some.inj (Option.some.inj e)
      subst e'
      exact ⟨v, List.getElem?_set_self (by rw [h.len]; exact hl), hu⟩
    · rw [List.getElem?_eq_none (by simpa using hl)] at e
      cases e
  · rw [List.getElem?_set_ne (Ne.symm q)] at e ⊢
    exact h.at_ j w e

/-- what comes of a piece of code: a value, an exception of an own class, or nothing is said -/
inductive Rs (α : Type) where
  | ok (a : α) (L : LS)
  | ex (C : Addr) (ns : List Str) (xs : List D) (L : LS)
  | no
@[simp] def Rs.bind {α β : Type} : Rs α → (α → LS → Rs β) → Rs β
  | .ok a L, g => g a L
  | .ex C ns xs L, _ => .ex C ns xs L
  | .no, _ => .no
/-- an expression's mirror -/
abbrev EF := SS → LS → Rs U
abbrev TF := SS → LS → Rs Bool
abbrev AF := SS → LS → Rs (List U)

/-- the exception that is in the air -/
def Thrown (K : Frag) (F : Addr → Prop) (H : Hp) (ns : List Str) (xs : List D) (d : Option Addr) : Prop :=
  ∃ dd fs, d = some dd ∧ F dd ∧ H dd = some (.xd fs) ∧ fs.map (·.1) = ns ∧ RepL K F H xs (fs.map (·.2))

/-- what is wanted behind a result r, from the state (F, r, H, L) on -/
def GE {α : Type} (P : Frag → (Addr → Prop) → (Nat → Addr) → Hp → LS → α → β → Prop) (K : Frag) (W : WX) (σ : L2.St) (F : Addr → Prop) (ρ : Nat → Addr) (H : Hp) (L : LS) (Q : β → Hp → Prop) : Rs α → Prop
  | .ok a L' => ∀ F' ρ' H' b, Step F ρ H L F' ρ' H' L' → Ok K F' ρ' H' L' → P K F' ρ' H' L' a b → Q b H'
  | .ex C ns xs L' => ∀ F' ρ' H' d, Step F ρ H L F' ρ' H' L' → Ok K F' ρ' H' L' → Thrown K F' H' ns xs d → W (.ref C) d σ H'
  | .no => False
theorem GE.on {α β : Type} {P : Frag → (Addr → Prop) → (Nat → Addr) → Hp → LS → α → β → Prop} {K : Frag} {W : WX} {σ : L2.St} {F F' : Addr → Prop} {ρ ρ' : Nat → Addr} {H H' : Hp} {L L' : LS} {Q : β → Hp → Prop} {x : Rs α}
    (s : Step F ρ H L F' ρ' H' L') (h : GE P K W σ F ρ H L Q x) : GE P K W σ F' ρ' H' L' Q x := by
  cases x with
  | ok a L2 => exact fun F2 ρ2 H2 b s2 => h F2 ρ2 H2 b (s.trans s2)
  | ex C ns xs L2 => exact fun F2 ρ2 H2 d s2 => h F2 ρ2 H2 d (s.trans s2)
  | no => exact h
end VL

set_option Elab.async false
set_option linter.all false
set_option maxRecDepth 100000
set_option maxHeartbeats 4000000
namespace VL
open PySem PySem.Spec PyProof.Rows L2
open PySem.W (Frag)

abbrev PP (α β : Type) := Frag → (Addr → Prop) → (Nat → Addr) → Hp → LS → α → β → Prop
def PB : PP Bool Bool := fun _ _ _ _ _ a b => a = b
def RepUs (K : Frag) (F : Addr → Prop) (ρ : Nat → Addr) (H : Hp) (L : LS) : List U → List V → Prop
  | [], vs => vs = []
  | u :: us, vs => ∃ v r, vs = v :: r ∧ RepU K F ρ H L u v ∧ RepUs K F ρ H L us r
theorem RepUs.mono {K : Frag} {F F' : Addr → Prop} {r r' : Nat → Addr} {H H' : Hp} {L L' : LS} (s : Step F r H L F' r' H' L') : ∀ {us : List U} {vs : List V}, RepUs K F r H L us vs → RepUs K F' r' H' L' us vs
  | [], _, h => h
  | _ :: _, _, ⟨v, t, e, h, q⟩ => ⟨v, t, e, h.mono s, RepUs.mono s q⟩
theorem RepUs.length {K : Frag} {F : Addr → Prop} {r : Nat → Addr} {H : Hp} {L : LS} : ∀ {us : List U} {vs : List V}, RepUs K F r H L us vs → vs.length = us.length
  | [], _, h => by cases h; rfl
  | _ :: _, _, ⟨v, t, e, h, q⟩ => by subst e; simp [RepUs.length q]

/-- the reading that a mirror gives -/
def RG {α β : Type} (P : PP α β) (K : Frag) (W : WX) (f : SS → LS → Rs α) : L2.St → Hp → (β → Hp → Prop) → Prop := fun σ H Q =>
  ∃ F ρ L st, Ok K F ρ H L ∧ RepSt K F ρ H L σ st ∧ GE P K W σ F ρ H L Q (f st L)
section
variable {K : Frag} {W : WX} {σ : L2.St} {F : Addr → Prop} {ρ : Nat → Addr} {H : Hp} {L : LS}
theorem GE.mono {α β : Type} {P : PP α β} {Q Q' : β → Hp → Prop} {x : Rs α} (h : GE P K W σ F ρ H L Q x) (q : ∀ b H, Q b H → Q' b H) : GE P K W σ F ρ H L Q' x := by
  cases x with
  | ok a L2 => exact fun F2 ρ2 H2 b s2 o p => q _ _ (h F2 ρ2 H2 b s2 o p)
  | ex C ns xs L2 => exact h
  | no => exact h
theorem RG.mono {α β : Type} {P : PP α β} {f : SS → LS → Rs α} {Q Q' : β → Hp → Prop} (h : RG P K W f σ H Q) (q : ∀ b H, Q b H → Q' b H) : RG P K W f σ H Q' := by
  obtain ⟨F, ρ, L, st, o, r, g⟩ := h
  exact ⟨F, ρ, L, st, o, r, g.mono q⟩
/-- the state behind a part, and what is still wanted -/
def Nx {α β γ δ : Type} (P : PP α β) (P2 : PP γ δ) (K : Frag) (W : WX) (σ : L2.St) (F : Addr → Prop) (ρ : Nat → Addr) (H : Hp) (L : LS) (Q : δ → Hp → Prop) (g : α → LS → Rs γ) (b : β) (H1 : Hp) : Prop :=
  ∃ F1 ρ1 L1 a, Step F ρ H L F1 ρ1 H1 L1 ∧ Ok K F1 ρ1 H1 L1 ∧ P K F1 ρ1 H1 L1 a b ∧ GE P2 K W σ F1 ρ1 H1 L1 Q (g a L1)
theorem GE.bind {α β γ δ : Type} {P : PP α β} {P2 : PP γ δ} {Q : δ → Hp → Prop} {x : Rs α} {g : α → LS → Rs γ}
    (h : GE P2 K W σ F ρ H L Q (x.bind g)) : GE P K W σ F ρ H L (Nx P P2 K W σ F ρ H L Q g) x := by
  cases x with
  | ok a L2 => exact fun F2 ρ2 H2 b s2 o p => ⟨F2, ρ2, L2, a, s2, o, p, GE.on s2 h⟩
  | ex C ns xs L2 => exact h
  | no => exact h
/-- the first part of a mirror is read, the rest is wanted behind it -/
theorem RG.of {α β : Type} {P : PP α β} {f : SS → LS → Rs α} {st : SS} {Q : β → Hp → Prop} (o : Ok K F ρ H L) (r : RepSt K F ρ H L σ st) (h : GE P K W σ F ρ H L Q (f st L)) : RG P K W f σ H Q := ⟨F, ρ, L, st, o, r, h⟩
theorem RG.one {α β γ δ : Type} {P : PP α β} {P2 : PP γ δ} {f : SS → LS → Rs α} {st : SS} {Q : δ → Hp → Prop} {Q' : β → Hp → Prop} {g : α → LS → Rs γ} (o : Ok K F ρ H L) (r : RepSt K F ρ H L σ st) (h : GE P2 K W σ F ρ H L Q ((f st L).bind g))
    (q : ∀ b H1 F1 ρ1 L1 a, Step F ρ H L F1 ρ1 H1 L1 → Ok K F1 ρ1 H1 L1 → RepSt K F1 ρ1 H1 L1 σ st → P K F1 ρ1 H1 L1 a b → GE P2 K W σ F1 ρ1 H1 L1 Q (g a L1) → Q' b H1) : RG P K W f σ H Q' :=
  ⟨F, ρ, L, st, o, r, (GE.bind (P := P) h).mono fun b H1 ⟨F1, ρ1, L1, a, s1, o1, p1, h1⟩ => q b H1 F1 ρ1 L1 a s1 o1 (r.mono s1) p1 h1⟩
def opt {α β : Type} : Option α → (α → Rs β) → Rs β
  | some a, f => f a
  | none, _ => .no
@[simp] theorem opt_some {α β : Type} (a : α) (f : α → Rs β) : opt (some a) f = f a := rfl
@[simp] theorem opt_none {α β : Type} (f : α → Rs β) : opt none f = .no := rfl
theorem GE.opt {α γ δ : Type} {P : PP γ δ} {Q : δ → Hp → Prop} {x : Option α} {f : α → Rs γ} (h : GE P K W σ F ρ H L Q (opt x f)) : ∃ a, x = some a ∧ GE P K W σ F ρ H L Q (f a) := by
  cases x with
  | some a => exact ⟨a, rfl, h⟩
  | none => exact h.elim
theorem GE.fin {α β : Type} {P : PP α β} {Q : β → Hp → Prop} {a : α} {b : β} (h : GE P K W σ F ρ H L Q (.ok a L)) (o : Ok K F ρ H L) (p : P K F ρ H L a b) : Q b H := h F ρ H b Step.refl o p
theorem GE.finD {Q : VK} {d : D} {b : V} (h : GE RepU K W σ F ρ H L Q (.ok (.d d) L)) (o : Ok K F ρ H L) (p : Rep K F H d b) : Q b H := h F ρ H b Step.refl o p
end

/-! ### the judgements -/
abbrev KE (X : Cx) (W : WX) (e : Expr) (f : EF) : Prop := PE X e (RG RepU X.K W f)
abbrev KB (X : Cx) (W : WX) (e : Expr) (f : TF) : Prop := PT X e (RG PB X.K W f)
abbrev KW (X : Cx) (W : WX) (e : Expr) (f : TF) : Prop := PW X e (RG PB X.K W f)
abbrev KA (X : Cx) (W : WX) (es : List Expr) (f : AF) : Prop := PA X es (RG RepUs X.K W f)

theorem pe_wk {X : Cx} {e : Expr} {t t' : TE} (h : PE X e t) (i : ∀ σ H Q, t' σ H Q → t σ H Q) : PE X e t' := ⟨fun pins s σ H Q I q => h.run pins s σ H Q I (i σ H Q q)⟩
theorem pt_wk {X : Cx} {e : Expr} {t t' : TT} (h : PT X e t) (i : ∀ σ H Q, t' σ H Q → t σ H Q) : PT X e t' := ⟨fun pins s σ H Q I q => h.run pins s σ H Q I (i σ H Q q)⟩
theorem pw_wk {X : Cx} {e : Expr} {t t' : TT} (h : PW X e t) (i : ∀ σ H Q, t' σ H Q → t σ H Q) : PW X e t' := ⟨fun wh pins s σ H Q I q => h.run wh pins s σ H Q I (i σ H Q q)⟩
theorem pa_wk {X : Cx} {e : List Expr} {t t' : TA} (h : PA X e t) (i : ∀ σ H Q, t' σ H Q → t σ H Q) : PA X e t' := ⟨fun p pins s σ H Q I q => h.run p pins s σ H Q I (i σ H Q q)⟩
theorem ps_wk {X : Cx} {e : Stmt} {t t' : TS} (h : PS X e t) (i : ∀ D σ H, t' D σ H → t D σ H) : PS X e t' := ⟨fun pins s σ H D I q => h.run pins s σ H D I (i D σ H q)⟩
theorem pss_wk {X : Cx} {e : List Stmt} {t t' : TS} (h : PSs X e t) (i : ∀ D σ H, t' D σ H → t D σ H) : PSs X e t' := ⟨fun pins s σ H D I q => h.run pins s σ H D I (i D σ H q)⟩

/-! ### what stands at a number -/
def LO.rd : LO → D
  | .l xs => .lst xs
  | .d ks xs => .dic ks xs
  | .t ks xs => .dit ks xs
  | .i C ns xs => .ins C ns xs
  | .z y => y
def rdU (L : LS) : U → Option D
  | .d x => some x
  | .l n => L[n]?.map LO.rd
theorem rdr_of {K : Frag} {F : Addr → Prop} {ρ : Nat → Addr} {H : Hp} {L : LS} (o : Ok K F ρ H L) {u : U} {v : V} {d : D} (r : RepU K F ρ H L u v) (e : rdU L u = some d) : Rdr K F H d v := by
  cases u with
  | d x => cases e; exact Rep.rdr r
  | l n =>
    obtain ⟨hn, rfl⟩ := r
    cases q : L[n]? with
    | none => simp [rdU, q] at e
    | some lo =>
      simp [rdU, q] at e
      have h := o.at_ n lo q
      cases lo with
      | l xs => subst e; obtain ⟨_, vs, h1, h2⟩ := h; exact ⟨_, vs, rfl, h1, h2⟩
      | d ks xs => subst e; obtain ⟨_, vs, h1, h2, h3⟩ := h; exact ⟨_, vs, rfl, h1, h2, h3⟩
      | t ks xs => subst e; obtain ⟨_, vs, h1, h2, h3⟩ := h; exact ⟨_, vs, rfl, h1, h2, h3⟩
      | i C ns xs => subst e; obtain ⟨_, dx, fs, h1, oc, h2, h3⟩ := h; exact ⟨_, dx, fs, rfl, h1, oc, h2, h3⟩
      | z dd => subst e; exact Rep.rdr h

/-- coming to rest -/
def fzL (L : LS) (n : Nat) : LS := match L[n]? with
  | some lo => L.set n (.z lo.rd)
  | none => L
def fzU (L : LS) : U → Option (D × LS)
  | .d x => some (x, L)
  | .l n => match L[n]? with
    | some lo => some (lo.rd, L.set n (.z lo.rd))
    | none => none

section
variable {K : Frag} {F : Addr → Prop} {ρ : Nat → Addr} {H : Hp} {L : LS}
theorem fz_step {F' : Addr → Prop} {n : Nat} {lo : LO} (e : L[n]? = some lo) (k : ∀ a, F a → F' a ∧ H a = H a) (fr : ∀ a, F' a → F a ∨ H a = none ∨ Lv ρ L a) : Step F ρ H L F' ρ H (L.set n (.z lo.rd)) := by
  have hn : n < L.length := (List.getElem?_eq_some_iff.mp e).1
  refine ⟨k, by simp, fun _ _ => rfl, fun _ _ h _ => h, fun m l h q _ => ?_, fun m l h q t => ?_, fun _ h => h, fr⟩
  · have := (List.getElem?_eq_some_iff.mp q).1
    simp at this
    omega
  · by_cases hm : m = n
    · subst hm; rw [List.getElem?_set_self hn] at q; cases q; cases t
    · rw [List.getElem?_set_ne (Ne.symm hm)] at q; exact ⟨l, q, t⟩
/-- a further thing comes to rest at a: it stood there, and no changing object stands there but n -/
theorem fz_ok (o : Ok K F ρ H L) {n : Nat} {lo : LO} (e : L[n]? = some lo) : ∃ F', Step F ρ H L F' ρ H (L.set n (.z lo.rd)) ∧ Ok K F' ρ H (L.set n (.z lo.rd)) ∧ Rep K F' H lo.rd (.ref (ρ n)) := by
  have hn : n < L.length := (List.getElem?_eq_some_iff.mp e).1
  have h := o.at_ n lo e
  by_cases hz : lo.on = false
  · obtain ⟨d, rfl⟩ : ∃ d, lo = .z d := by
      cases lo with
      | z d => exact ⟨d, rfl⟩
      | l xs => exact absurd hz (by simp [LO.on])
      | d ks xs => exact absurd hz (by simp [LO.on])
      | t ks xs => exact absurd hz (by simp [LO.on])
      | i C ns xs => exact absurd hz (by simp [LO.on])
    refine ⟨F, fz_step e (fun _ x => ⟨x, rfl⟩) fun _ x => .inl x, ⟨fun m lo' q => ?_, fun m k lo' lo2 q1 q2 t1 t2 q => ?_, o.stands⟩, h⟩
    · by_cases hm : m = n
      · subst hm; rw [List.getElem?_set_self hn] at q; cases q; exact h
      · rw [List.getElem?_set_ne (Ne.symm hm)] at q; exact o.at_ m lo' q
    · have z : ∀ {j : Nat} {l3 : LO}, (L.set n (.z (LO.rd (.z d))))[j]? = some l3 → l3.on = true → L[j]? = some l3 := fun {j l3} q t => by
        by_cases hj : j = n
        · subst hj; rw [List.getElem?_set_self hn] at q; cases q; cases t
        · rwa [List.getElem?_set_ne (Ne.symm hj)] at q
      exact o.inj m k lo' lo2 (z q1 t1) (z q2 t2) t1 t2 q
  · have on : lo.on = true := by cases t : lo.on <;> simp_all
    let F' : Addr → Prop := fun a => F a ∨ a = ρ n
    have k : ∀ a, F a → F' a ∧ H a = H a := fun a f => ⟨.inl f, rfl⟩
    have hH : H (ρ n) ≠ none := by
      cases lo with
      | l xs => obtain ⟨_, vs, h1, _⟩ := h; rw [h1]; simp
      | d ks xs => obtain ⟨_, vs, h1, _⟩ := h; rw [h1]; simp
      | t ks xs => obtain ⟨_, vs, h1, _⟩ := h; rw [h1]; simp
      | i C ns xs => obtain ⟨_, dx, fs, h1, _⟩ := h; rw [h1]; simp
      | z d => cases on
    have hr : Rep K F' H lo.rd (.ref (ρ n)) := by
      cases lo with
      | l xs => obtain ⟨_, vs, h1, h2⟩ := h; exact ⟨_, vs, rfl, ⟨.inr rfl, h1⟩, RepL.mono k xs h2⟩
      | d ks xs => obtain ⟨_, vs, h1, h2, h3⟩ := h; exact ⟨_, vs, rfl, .inr rfl, h1, h2, RepL.mono k xs h3⟩
      | t ks xs => obtain ⟨_, vs, h1, h2, h3⟩ := h; exact ⟨_, vs, rfl, .inr rfl, h1, h2, RepL.mono k xs h3⟩
      | i C ns xs => obtain ⟨_, dx, fs, h1, oc, h2, h3⟩ := h; exact ⟨_, dx, fs, rfl, .inr rfl, h1, oc, h2, RepL.mono k xs h3⟩
      | z d => cases on
    refine ⟨F', fz_step e k (fun a f => f.elim .inl fun z => .inr (.inr ⟨n, lo, e, on, z.symm⟩)), ⟨fun m lo' q => ?_, fun m j lo' lo2 q1 q2 t1 t2 q => ?_, fun a f => f.elim (o.stands a) fun z => by subst z; exact hH⟩, hr⟩
    · by_cases hm : m = n
      · subst hm; rw [List.getElem?_set_self hn] at q; cases q; exact hr
      · rw [List.getElem?_set_ne (Ne.symm hm)] at q
        have h' := o.at_ m lo' q
        have nf : lo'.on = true → ¬ F (ρ m) → ¬ F' (ρ m) := fun t f z => z.elim f fun z => hm (o.inj m n lo' lo q e t on z)
        cases lo' with
        | l xs => obtain ⟨f, vs, h1, h2⟩ := h'; exact ⟨nf rfl f, vs, h1, RepL.mono k xs h2⟩
        | d ks xs => obtain ⟨f, vs, h1, h2, h3⟩ := h'; exact ⟨nf rfl f, vs, h1, h2, RepL.mono k xs h3⟩
        | t ks xs => obtain ⟨f, vs, h1, h2, h3⟩ := h'; exact ⟨nf rfl f, vs, h1, h2, RepL.mono k xs h3⟩
        | i C ns xs => obtain ⟨f, dx, fs, h1, oc, h2, h3⟩ := h'; exact ⟨nf rfl f, dx, fs, h1, oc, h2, RepL.mono k xs h3⟩
        | z d => exact Rep.mono k d h'
    · have z : ∀ {j : Nat} {l3 : LO}, (L.set n (.z lo.rd))[j]? = some l3 → l3.on = true → L[j]? = some l3 := fun {j l3} q t => by
        by_cases hj : j = n
        · subst hj; rw [List.getElem?_set_self hn] at q; cases q; cases t
        · rwa [List.getElem?_set_ne (Ne.symm hj)] at q
      exact o.inj m j lo' lo2 (z q1 t1) (z q2 t2) t1 t2 q
theorem fzU_ok (o : Ok K F ρ H L) {u : U} {v : V} {d : D} {L' : LS} (r : RepU K F ρ H L u v) (e : fzU L u = some (d, L')) : ∃ F', Step F ρ H L F' ρ H L' ∧ Ok K F' ρ H L' ∧ Rep K F' H d v := by
  cases u with
  | d x => cases e; exact ⟨F, Step.refl, o, r⟩
  | l n =>
    obtain ⟨hn, rfl⟩ := r
    cases q : L[n]? with
    | none => simp [fzU, q] at e
    | some lo =>
      simp [fzU, q] at e
      obtain ⟨rfl, rfl⟩ := e
      exact fz_ok o q
/-- a new object p, at rest -/
def F1 (F : Addr → Prop) (p : Addr) : Addr → Prop := fun a => F a ∨ a = p
theorem new_k (o : Ok K F ρ H L) {p : Addr} (hp : H p = none) (u : HO) : ∀ a, F a → F1 F p a ∧ upd H p u a = H a := fun a f => ⟨.inl f, upd_ne fun z => o.stands a f (z ▸ hp)⟩
theorem new_ok (o : Ok K F ρ H L) {p : Addr} (hp : H p = none) (u : HO) : Step F ρ H L (F1 F p) ρ (upd H p u) L ∧ Ok K (F1 F p) ρ (upd H p u) L := by
  have k := new_k o hp u
  refine ⟨⟨k, Nat.le_refl _, fun _ _ => rfl, fun a w e _ => by rw [upd_ne (ne_of_none e hp)]; exact e, fun n lo h e _ => absurd (List.getElem?_eq_some_iff.mp e).1 (Nat.not_lt.mpr h), fun n lo _ e t => ⟨lo, e, t⟩, fun a h => ?_, fun a h => h.elim .inl fun z => .inr (.inl (z ▸ hp))⟩, ⟨fun m lo q => ?_, o.inj, fun a f => f.elim (fun f => by rw [(k a f).2]; exact o.stands a f) fun z => by subst z; rw [upd_same]; simp⟩⟩
  · by_cases z : a = p
    · subst z; rw [upd_same] at h; cases h
    · rw [upd_ne z] at h; exact h
  have h := o.at_ m lo q
  have ne : ∀ {w : HO}, H (ρ m) = some w → ρ m ≠ p := fun e z => by rw [z, hp] at e; cases e
  cases lo with
  | l xs => obtain ⟨f, vs, h1, h2⟩ := h; exact ⟨fun z => z.elim f (ne h1), vs, by rw [upd_ne (ne h1)]; exact h1, RepL.mono k xs h2⟩
  | d ks xs => obtain ⟨f, vs, h1, h2, h3⟩ := h; exact ⟨fun z => z.elim f (ne h1), vs, by rw [upd_ne (ne h1)]; exact h1, h2, RepL.mono k xs h3⟩
  | t ks xs => obtain ⟨f, vs, h1, h2, h3⟩ := h; exact ⟨fun z => z.elim f (ne h1), vs, by rw [upd_ne (ne h1)]; exact h1, h2, RepL.mono k xs h3⟩
  | i C ns xs => obtain ⟨f, dx, fs, h1, oc, h2, h3⟩ := h; exact ⟨fun z => z.elim f (ne h1), dx, fs, by rw [upd_ne (ne h1)]; exact h1, oc, h2, RepL.mono k xs h3⟩
  | z d => exact Rep.mono k d h
/-- a new object p, not tracked among ours, changes nothing -/
theorem new_lst (o : Ok K F ρ H L) {p : Addr} (hp : H p = none) {xs : List D} {vs : List V} (r : RepL K F H xs vs) : Rep K (F1 F p) (upd H p (.lst vs)) (.lst xs) (.ref p) :=
  ⟨p, vs, rfl, ⟨.inr rfl, upd_same⟩, RepL.mono (new_k o hp _) xs r⟩
theorem new_tup (o : Ok K F ρ H L) {p : Addr} (hp : H p = none) {xs : List D} {vs : List V} (r : RepL K F H xs vs) : Rep K (F1 F p) (upd H p (.tup vs)) (.tup xs) (.ref p) :=
  ⟨p, vs, rfl, .inl ⟨.inr rfl, .inl upd_same⟩, RepL.mono (new_k o hp _) xs r⟩
end
end VL

set_option Elab.async false
set_option linter.all false
set_option maxRecDepth 100000
set_option maxHeartbeats 4000000
namespace VL
open PySem PySem.Spec PyProof.Rows L2
open PySem.W (Frag)

section
variable {X : Cx} {W : WX} {a b c : Expr} {fa fb fc : EF} {pos : Pos}

/-! ### names, constants -/
def eVar (i : Nat) : EF := fun st L => match st[i]? with
  | some (some u) => .ok u L
  | _ => .no
theorem ke_var (i : Nat) {x : Str} (hN : X.N[i]? = some x := by rfl) (hv : Vis X.env.scope x := by first | exact Or.inl rfl | exact Or.inr (Or.inl rfl) | exact Or.inr (Or.inr rfl)) (hd : (x == ("__debug__" : Str)) = false := by decide)
    (hcd : (x == ("__classdict__" : Str)) = false := by decide) : KE X W (.Name x pos) (eVar i) := by
  refine pe_wk (pe_var hN hv hd hcd) fun σ H Q ⟨F, ρ, L, st, o, r, h⟩ => ?_
  unfold eVar at h
  split at h
  · rename_i u e
    obtain ⟨v, e1, r1⟩ := r.at_ i u e
    exact ⟨v, e1, h.fin o r1⟩
  · exact h.elim
/-- a variable whose object comes to rest as it is read -/
def fz (r : Rs U) : Rs U := r.bind fun u L => opt (fzU L u) fun p => .ok (.d p.1) p.2
def eC (d : D) : EF := fun _ L => .ok (.d d) L
theorem ke_c {e : Expr} {d : D} {v : V} (h : PE X e (tC v)) (hr : ∀ K F H, Rep K F H d v) : KE X W e (eC d) := pe_wk h fun σ H Q ⟨F, ρ, L, st, o, r, h⟩ => h.fin (b := v) o (hr _ _ _)
theorem ke_int {i j pos} : KE X W (.Constant (.int i) j pos) (eC (.int i)) := ke_c pe_int fun _ _ _ => rfl
theorem ke_bl {i j pos} : KE X W (.Constant (.bool i) j pos) (eC (.bl i)) := ke_c pe_bl fun _ _ _ => rfl
theorem ke_non {j pos} : KE X W (.Constant .none j pos) (eC .non) := ke_c pe_non fun _ _ _ => rfl
theorem ke_str {i j pos} : KE X W (.Constant (.str i) j pos) (eC (.str i)) := ke_c pe_str fun _ _ _ => rfl
/-- a module's name: a constant, a class, a def -/
theorem ke_glob {x : Str} {d : D} {v : V} {u : Value} (hm : X.mg x = some u) (r : RelV v u) (hr : ∀ K F H, Rep K F H d v) (hg : Gl X x := by rfl) (hd : (x == ("__debug__" : Str)) = false := by decide) : KE X W (.Name x pos) (eC d) := ke_c (pe_glob hg hm r hd) hr
theorem ke_obj {x : Str} {f : Addr} (hm : X.mg x = some (.ref f)) (hg : Gl X x := by rfl) (hd : (x == ("__debug__" : Str)) = false := by decide) : KE X W (.Name x pos) (eC (.obj f)) := ke_c (pe_glob (v := .ref f) hg hm rfl hd) fun _ _ _ => rfl
theorem ke_gint {x : Str} {i : Int} (hm : ∃ t, X.mg x = some (.int i t)) (hg : Gl X x := by rfl) (hd : (x == ("__debug__" : Str)) = false := by decide) : KE X W (.Name x pos) (eC (.int i)) := by
  obtain ⟨t, hm⟩ := hm
  exact ke_c (pe_glob (v := .int i) hg hm ⟨t, rfl⟩ hd) fun _ _ _ => rfl
theorem ke_gstr {x i : Str} (hm : ∃ t, X.mg x = some (.str i t)) (hg : Gl X x := by rfl) (hd : (x == ("__debug__" : Str)) = false := by decide) : KE X W (.Name x pos) (eC (.str i)) := by
  obtain ⟨t, hm⟩ := hm
  exact ke_c (pe_glob (v := .str i) hg hm ⟨t, rfl⟩ hd) fun _ _ _ => rfl
theorem ke_ty {x : Str} {n : String} (hm : X.mg x = none) (hv : bootBuiltins x = some (.type n)) (hg : Gl X x := by rfl) (hn : x ≠ "__name__" := by decide) (hd : (x == ("__debug__" : Str)) = false := by decide) : KE X W (.Name x pos) (eC (.ty n)) :=
  ke_c (pe_bltn (v := .ty n) hg hm hv rfl hn hd) fun _ _ _ => rfl

/-! ### operators on what is read -/
def rD2 (K : Frag) (g : D → D → Option D) : R2 := fun x y H Q => ∃ F ρ L dx dy d, Ok K F ρ H L ∧ Rdr K F H dx x ∧ Rdr K F H dy y ∧ g dx dy = some d ∧
  ∀ F' H' z, Step F ρ H L F' ρ H' L → Ok K F' ρ H' L → Rep K F' H' d z → Q z H'
def rD1 (K : Frag) (g : D → Option D) : V → Hp → VK → Prop := fun x H Q => ∃ F ρ L dx d, Ok K F ρ H L ∧ Rdr K F H dx x ∧ g dx = some d ∧
  ∀ F' H' z, Step F ρ H L F' ρ H' L → Ok K F' ρ H' L → Rep K F' H' d z → Q z H'
def op2 (g : D → D → Option D) (x y : U) (L : LS) : Rs U := opt (rdU L x) fun dx => opt (rdU L y) fun dy => opt (g dx dy) fun d => .ok (.d d) L
def op1 (g : D → Option D) (x : U) (L : LS) : Rs U := opt (rdU L x) fun dx => opt (g dx) fun d => .ok (.d d) L
def eBin (g : D → D → Option D) (fa fb : EF) : EF := fun st L => (fa st L).bind fun x L1 => (fb st L1).bind fun y L2 => op2 g x y L2
def eUn (g : D → Option D) (fa : EF) : EF := fun st L => (fa st L).bind fun x L1 => op1 g x L1
theorem op2_ok {g : D → D → Option D} {K : Frag} {W : WX} {σ : L2.St} {F : Addr → Prop} {ρ : Nat → Addr} {H : Hp} {L : LS} {x y : U} {v w : V} {Q : VK} (o : Ok K F ρ H L) (px : RepU K F ρ H L x v) (py : RepU K F ρ H L y w) (h : GE RepU K W σ F ρ H L Q (op2 g x y L)) : rD2 K g v w H Q := by
  obtain ⟨dx, e1, h⟩ := h.opt
  obtain ⟨dy, e2, h⟩ := h.opt
  obtain ⟨d, e3, h⟩ := h.opt
  exact ⟨F, ρ, L, dx, dy, d, o, rdr_of o px e1, rdr_of o py e2, e3, fun F' H' z s o' r => h F' ρ H' z s o' r⟩
theorem op1_ok {g : D → Option D} {K : Frag} {W : WX} {σ : L2.St} {F : Addr → Prop} {ρ : Nat → Addr} {H : Hp} {L : LS} {x : U} {v : V} {Q : VK} (o : Ok K F ρ H L) (px : RepU K F ρ H L x v) (h : GE RepU K W σ F ρ H L Q (op1 g x L)) : rD1 K g v H Q := by
  obtain ⟨dx, e1, h⟩ := h.opt
  obtain ⟨d, e3, h⟩ := h.opt
  exact ⟨F, ρ, L, dx, d, o, rdr_of o px e1, e3, fun F' H' z s o' r => h F' ρ H' z s o' r⟩
theorem two_ok {g : D → D → Option D} {σ : L2.St} {H : Hp} {Q : VK} (h : RG RepU X.K W (eBin g fa fb) σ H Q) : tOp (rD2 X.K g) (RG RepU X.K W fa) (RG RepU X.K W fb) σ H Q := by
  obtain ⟨F, ρ, L, st, o, r, h⟩ := h
  refine RG.one o r h fun x H1 F1 ρ1 L1 u s1 o1 r1 p1 h1 => ?_
  refine RG.one o1 r1 h1 fun y H2 F2 ρ2 L2 u2 s2 o2 r2 p2 h2 => ?_
  exact op2_ok o2 (p1.mono s2) p2 h2
theorem ke_bin {op : Operator} {g : D → D → Option D} (ho : OpR X (binaryOp op) (rD2 X.K g)) (ha : KE X W a fa) (hb : KE X W b fb) : KE X W (.BinOp a op b pos) (eBin g fa fb) := pe_wk (pe_op ho ha hb) fun σ H Q h => two_ok h
theorem ke_un {op : UnaryOp} {g : D → Option D} (ho : UnR X (unaryOp op) (rD1 X.K g)) (ha : KE X W a fa) : KE X W (.UnaryOp op a pos) (eUn g fa) := by
  refine pe_wk (pe_un ho ha) fun σ H Q ⟨F, ρ, L, st, o, r, h⟩ => ?_
  refine RG.one o r h fun x H1 F1 ρ1 L1 u s1 o1 r1 p1 h1 => ?_
  exact op1_ok o1 p1 h1

/-- how a rule of the layer for two values comes to data -/
theorem OpR.toD {f : Value → Value → Sem Value} {r : R2} {g : D → D → Option D} (h : OpR X f r)
    (q : ∀ F ρ L H dx dy d x y Q, Ok X.K F ρ H L → Rdr X.K F H dx x → Rdr X.K F H dy y → g dx dy = some d → (∀ F' H' z, Step F ρ H L F' ρ H' L → Ok X.K F' ρ H' L → Rep X.K F' H' d z → Q z H') → r x y H Q) : OpR X f (rD2 X.K g) := by
  intro pins s σ H x y v u Q I rx ry ⟨F, ρ, L, dx, dy, d, o, r1, r2, e, k⟩
  exact h pins s σ H x y v u Q I rx ry (q F ρ L H dx dy d x y Q o r1 r2 e k)
end

/-! ### what the operators reckon -/
abbrev big : Nat := 16777216
theorem big_eq : sizeLine = big := sizeLine_eq
def smallI (i : Int) : Bool := decide (-(2 ^ 64) < i) && decide (i < 2 ^ 64)
theorem smallI_of {i : Int} (h : smallI i = true) : -(2 ^ 64) < i ∧ i < 2 ^ 64 := by
  simp only [smallI, Bool.and_eq_true, decide_eq_true_eq] at h
  exact h
def addD : D → D → Option D
  | .int i, .int j => some (.int (i + j))
  | .str x, .str y => if x.length + y.length ≤ big then some (.str (x ++ y)) else none
  | .lst x, .lst y => if x.length + y.length ≤ big then some (.lst (x ++ y)) else none
  | _, _ => none
def subD : D → D → Option D
  | .int i, .int j => some (.int (i - j))
  | _, _ => none
def mulD : D → D → Option D
  | .int i, .int j => if smallI i || smallI j then some (.int (i * j)) else none
  | .lst x, .int k => if -(2 ^ 63) ≤ k ∧ k < 2 ^ 63 ∧ x.length * k.toNat ≤ big then some (.lst (List.replicate k.toNat x).flatten) else none
  | _, _ => none
def modD : D → D → Option D
  | .int i, .int j => if 0 < j then some (.int (i % j)) else none
  | _, _ => none
def divD : D → D → Option D
  | .int i, .int j => if 0 < j ∧ j < 1073741824 then some (.int (i / j)) else none
  | _, _ => none
def powD : D → D → Option D
  | .int i, .int j => if 0 ≤ j ∧ j ≤ 1000000 ∧ i.natAbs < 2 ^ 64 then some (.int (i ^ j.toNat)) else none
  | _, _ => none
def negD : D → Option D
  | .int i => some (.int (-i))
  | _ => none
section
variable {X : Cx}
theorem RepL.rep {K : Frag} {F : Addr → Prop} {H : Hp} {ds : List D} {vs : List V} (h : RepL K F H ds vs) : ∀ k : Nat, RepL K F H (List.replicate k ds).flatten (List.replicate k vs).flatten
  | 0 => rfl
  | k + 1 => by
    rw [List.replicate_succ, List.replicate_succ, List.flatten_cons, List.flatten_cons]
    exact h.append (RepL.rep h k)
theorem od_add : OpR X (binaryOp .Add) (rD2 X.K addD) := by
  refine OpR.toD (op_add.or (op_add_str.or op_cat)) fun F ρ L H dx dy d x y Q o r1 r2 e k => ?_
  cases dx <;> cases dy <;> simp only [addD] at e <;> try cases e
  · cases r1; cases r2
    exact .inl ⟨_, _, rfl, rfl, k F H _ Step.refl o rfl⟩
  · cases r1; cases r2
    split at e
    · rename_i hz
      cases e
      exact .inr (.inl ⟨_, _, rfl, rfl, by rw [big_eq]; exact hz, k F H _ Step.refl o rfl⟩)
    · cases e
  · rename_i xs ys
    obtain ⟨p, vs, rfl, h1, q1⟩ := r1
    obtain ⟨p2, vs2, rfl, h2, q2⟩ := r2
    split at e
    · rename_i hz
      cases e
      refine .inr (.inr ⟨_, _, _, _, rfl, rfl, h1, h2, by rw [big_eq, q1.length, q2.length]; exact hz, fun t ht => ?_⟩)
      obtain ⟨s, o'⟩ := new_ok o ht (.lst (vs ++ vs2))
      exact k _ _ _ s o' (new_lst o ht (q1.append q2))
    · cases e
theorem od_sub : OpR X (binaryOp .Sub) (rD2 X.K subD) := by
  refine OpR.toD op_sub fun F ρ L H dx dy d x y Q o r1 r2 e k => ?_
  cases dx <;> cases dy <;> simp only [subD] at e <;> try cases e
  cases r1; cases r2
  exact ⟨_, _, rfl, rfl, k F H _ Step.refl o rfl⟩
theorem od_mul : OpR X (binaryOp .Mult) (rD2 X.K mulD) := by
  refine OpR.toD (op_mul.or op_rep) fun F ρ L H dx dy d x y Q o r1 r2 e k => ?_
  cases dx <;> cases dy <;> simp only [mulD] at e <;> try cases e
  · cases r1; cases r2
    split at e
    · rename_i hz
      cases e
      refine .inl ⟨_, _, rfl, rfl, ?_, k F H _ Step.refl o rfl⟩
      rcases Bool.or_eq_true_iff.mp hz with z | z
      · exact .inl (smallI_of z)
      · exact .inr (smallI_of z)
    · cases e
  · obtain ⟨p, vs, rfl, h1, q1⟩ := r1
    cases r2
    split at e
    · rename_i hz
      cases e
      refine .inr ⟨_, _, _, rfl, rfl, h1, hz.1, hz.2.1, by rw [big_eq, q1.length]; exact hz.2.2, fun t ht => ?_⟩
      obtain ⟨s, o'⟩ := new_ok o ht (.lst (List.replicate (Int.toNat _) vs).flatten)
      exact k _ _ _ s o' (new_lst o ht (q1.rep _))
    · cases e
theorem od_mod : OpR X (binaryOp .Mod) (rD2 X.K modD) := by
  refine OpR.toD op_mod fun F ρ L H dx dy d x y Q o r1 r2 e k => ?_
  cases dx <;> cases dy <;> simp only [modD] at e <;> try cases e
  cases r1; cases r2
  split at e
  · rename_i hz
    cases e
    exact ⟨_, _, rfl, rfl, hz, k F H _ Step.refl o rfl⟩
  · cases e
theorem od_div : OpR X (binaryOp .FloorDiv) (rD2 X.K divD) := by
  refine OpR.toD op_fdiv fun F ρ L H dx dy d x y Q o r1 r2 e k => ?_
  cases dx <;> cases dy <;> simp only [divD] at e <;> try cases e
  cases r1; cases r2
  split at e
  · rename_i hz
    cases e
    exact ⟨_, _, rfl, rfl, hz, k F H _ Step.refl o rfl⟩
  · cases e
theorem od_pow : OpR X (binaryOp .Pow) (rD2 X.K powD) := by
  refine OpR.toD op_pow fun F ρ L H dx dy d x y Q o r1 r2 e k => ?_
  cases dx <;> cases dy <;> simp only [powD] at e <;> try cases e
  cases r1; cases r2
  split at e
  · rename_i hz
    cases e
    exact ⟨_, _, rfl, rfl, hz, k F H _ Step.refl o rfl⟩
  · cases e
theorem od_neg : UnR X (unaryOp .USub) (rD1 X.K negD) := by
  intro pins s σ H x v Q I rx ⟨F, ρ, L, dx, d, o, r1, e, k⟩
  cases dx <;> simp only [negD] at e <;> try cases e
  cases r1
  exact un_neg pins s σ H _ v Q I rx ⟨_, rfl, k F H _ Step.refl o rfl⟩
end
end VL

set_option Elab.async false
set_option linter.all false
set_option maxRecDepth 100000
set_option maxHeartbeats 4000000
namespace VL
open PySem PySem.Spec PyProof.Rows L2
open PySem.W (Frag)

/-! ### plain data -/
mutual
def toPy : D → Option PyData
  | .non => some .none
  | .bl b => some (.bool b)
  | .int i => some (.int i)
  | .str x => some (.str x)
  | .lst xs => (toPyL xs).map .list
  | .tup xs => (toPyL xs).map .tuple
  | _ => none
def toPyL : List D → Option (List PyData)
  | [] => some []
  | d :: ds => (toPy d).bind fun p => (toPyL ds).map (p :: ·)
end
mutual
theorem toPy_dp {K : Frag} {F : Addr → Prop} {H : Hp} : ∀ (d : D) {v : V} {p : PyData}, Rdr K F H d v → toPy d = some p → Dp K H v p
  | .non, _, _, h, e => by cases h; simp only [toPy] at e; cases e; exact .non
  | .bl b, _, _, h, e => by cases h; simp only [toPy] at e; cases e; exact .bl _
  | .int b, _, _, h, e => by cases h; simp only [toPy] at e; cases e; exact .int _
  | .str b, _, _, h, e => by cases h; simp only [toPy] at e; cases e; exact .str _
  | .lst xs, _, _, ⟨a, vs, e1, h, r⟩, e => by
    subst e1
    simp only [toPy, Option.map_eq_some_iff] at e
    obtain ⟨ps, e2, rfl⟩ := e
    exact .lst (.inl (.inl h)) (toPyL_dp xs r e2)
  | .tup xs, _, _, ⟨a, vs, e1, h, r⟩, e => by
    subst e1
    simp only [toPy, Option.map_eq_some_iff] at e
    obtain ⟨ps, e2, rfl⟩ := e
    exact .tup h (toPyL_dp xs r e2)
  | .dic _ _, _, _, _, e => by simp [toPy] at e
  | .dit _ _, _, _, _, e => by simp [toPy] at e
  | .ins _ _ _, _, _, _, e => by simp [toPy] at e
  | .exc _ _ _, _, _, _, e => by simp [toPy] at e
  | .ex0 _, _, _, _, e => by simp [toPy] at e
  | .obj _, _, _, _, e => by simp [toPy] at e
  | .ty _, _, _, _, e => by simp [toPy] at e
  | .scr _, _, _, _, e => by simp [toPy] at e
theorem toPyL_dp {K : Frag} {F : Addr → Prop} {H : Hp} : ∀ (ds : List D) {vs : List V} {ps : List PyData}, RepL K F H ds vs → toPyL ds = some ps → DpAll K H vs ps
  | [], _, _, h, e => by cases h; simp only [toPyL] at e; cases e; exact .nil
  | d :: ds, _, _, ⟨v, r, e1, h, t⟩, e => by
    subst e1
    simp only [toPyL, Option.bind_eq_some_iff, Option.map_eq_some_iff] at e
    obtain ⟨p, e2, ps, e3, rfl⟩ := e
    exact .cons (toPy_dp d (Rep.rdr h) e2) (toPyL_dp ds t e3)
end
mutual
theorem toPy_plain : ∀ (d : D) {p : PyData}, toPy d = some p → p.plain = true
  | .non, _, e => by simp only [toPy] at e; cases e; rfl
  | .bl b, _, e => by simp only [toPy] at e; cases e; rfl
  | .int b, _, e => by simp only [toPy] at e; cases e; rfl
  | .str b, _, e => by simp only [toPy] at e; cases e; rfl
  | .lst xs, _, e => by
    simp only [toPy, Option.map_eq_some_iff] at e
    obtain ⟨ps, e2, rfl⟩ := e
    simp only [PyData.plain]; exact toPyL_plain xs e2
  | .tup xs, _, e => by
    simp only [toPy, Option.map_eq_some_iff] at e
    obtain ⟨ps, e2, rfl⟩ := e
    simp only [PyData.plain]; exact toPyL_plain xs e2
  | .dic _ _, _, e => by simp [toPy] at e
  | .dit _ _, _, e => by simp [toPy] at e
  | .ins _ _ _, _, e => by simp [toPy] at e
  | .exc _ _ _, _, e => by simp [toPy] at e
  | .ex0 _, _, e => by simp [toPy] at e
  | .obj _, _, e => by simp [toPy] at e
  | .ty _, _, e => by simp [toPy] at e
  | .scr _, _, e => by simp [toPy] at e
theorem toPyL_plain : ∀ (ds : List D) {ps : List PyData}, toPyL ds = some ps → PyData.plainAll ps = true
  | [], _, e => by simp only [toPyL] at e; cases e; rfl
  | d :: ds, _, e => by
    simp only [toPyL, Option.bind_eq_some_iff, Option.map_eq_some_iff] at e
    obtain ⟨p, e2, ps, e3, rfl⟩ := e
    simp only [PyData.plainAll, toPy_plain d e2, toPyL_plain ds e3]; rfl
end

/-! ### comparisons -/
def eqB (dx dy : D) : Option Bool := (toPy dx).bind fun p => (toPy dy).bind fun q => if p.depth ≤ 64 then some (PyData.eqv p q) else none
def neB (dx dy : D) : Option Bool := (eqB dx dy).map (!·)
def ltB : D → D → Option Bool
  | .int i, .int j => some (decide (i < j))
  | .str x, .str y => some (decide (x.cps.toList < y.cps.toList))
  | _, _ => none
def leB : D → D → Option Bool
  | .int i, .int j => some (decide (i ≤ j))
  | .str x, .str y => some (!decide (y.cps.toList < x.cps.toList))
  | _, _ => none
def gtB : D → D → Option Bool
  | .int i, .int j => some (decide (j < i))
  | _, _ => none
def geB : D → D → Option Bool
  | .int i, .int j => some (decide (j ≤ i))
  | _, _ => none
/-- in: a sign in a text; an item in a list, a tuple of plain data -/
def inSign (x y : Str) : Option Bool := match x.cps.toList with
  | [c] => some (decide (c ∈ y.cps.toList))
  | _ => none
def inSeq (x : D) (ys : List D) : Option Bool := (toPy x).bind fun p => (toPyL ys).bind fun qs => if p.depth ≤ 60 then some (qs.any fun y => PyData.eqv y p) else none
def inB (x y : D) : Option Bool := match y with
  | .str z => (match x with | .str w => inSign w z | _ => none)
  | .lst ys => inSeq x ys
  | .tup ys => inSeq x ys
  | _ => none
def notInB (x y : D) : Option Bool := (inB x y).map (!·)
def isNon : D → Bool
  | .non => true
  | _ => false
def isNonB : D → D → Option Bool
  | x, .non => some (isNon x)
  | _, _ => none
def notNonB (x y : D) : Option Bool := (isNonB x y).map (!·)
abbrev bD (gb : D → D → Option Bool) : D → D → Option D := fun x y => (gb x y).map D.bl

section
variable {X : Cx} {W : WX} {a b c : Expr} {fa fb fc : EF} {pos : Pos}
theorem od_eq (hu : X.A.units + 64 < cLine) : OpR X (compareOp .Eq) (rD2 X.K (bD eqB)) := by
  intro pins s σ H x y v u Q I rx ry ⟨F, ρ, L, dx, dy, d, o, r1, r2, e, k⟩
  simp only [bD, eqB, Option.map_eq_some_iff, Option.bind_eq_some_iff] at e
  obtain ⟨kk, ⟨p, e1, q, e2, e3⟩, rfl⟩ := e
  split at e3
  · rename_i hd
    cases e3
    obtain ⟨as, q1⟩ := Dp.reads I p x v (toPy_dp dx r1 e1) rx
    obtain ⟨bs, q2⟩ := Dp.reads I q y u (toPy_dp dy r2 e2) ry
    exact PySem.SeqAt.eq_plain q1 q2 (toPy_plain dx e1) (toPy_plain dy e2) (by have : min p.depth q.depth ≤ p.depth := Nat.min_le_left _ _; omega) ⟨.bl _, H, I, rfl, k F H _ Step.refl o rfl⟩
  · cases e3
theorem od_ne (hu : X.A.units + 64 < cLine) : OpR X (compareOp .NotEq) (rD2 X.K (bD neB)) := by
  intro pins s σ H x y v u Q I rx ry ⟨F, ρ, L, dx, dy, d, o, r1, r2, e, k⟩
  simp only [bD, neB, eqB, Option.map_eq_some_iff, Option.bind_eq_some_iff] at e
  obtain ⟨kk, ⟨k0, ⟨p, e1, q, e2, e3⟩, rfl⟩, rfl⟩ := e
  split at e3
  · rename_i hd
    cases e3
    obtain ⟨as, q1⟩ := Dp.reads I p x v (toPy_dp dx r1 e1) rx
    obtain ⟨bs, q2⟩ := Dp.reads I q y u (toPy_dp dy r2 e2) ry
    exact PySem.SeqAt.ne_plain q1 q2 (toPy_plain dx e1) (toPy_plain dy e2) (by have : min p.depth q.depth ≤ p.depth := Nat.min_le_left _ _; omega) ⟨.bl _, H, I, rfl, k F H _ Step.refl o rfl⟩
  · cases e3
theorem od_lt : OpR X (compareOp .Lt) (rD2 X.K (bD ltB)) := by
  refine OpR.toD (op_lt.or op_lt_str) fun F ρ L H dx dy d x y Q o r1 r2 e k => ?_
  cases dx <;> cases dy <;> simp only [bD, ltB, Option.map] at e <;> try cases e
  · cases r1; cases r2
    exact .inl ⟨_, _, rfl, rfl, k F H _ Step.refl o rfl⟩
  · cases r1; cases r2
    exact .inr ⟨_, _, rfl, rfl, k F H _ Step.refl o rfl⟩
theorem od_le : OpR X (compareOp .LtE) (rD2 X.K (bD leB)) := by
  refine OpR.toD (op_le.or op_le_str) fun F ρ L H dx dy d x y Q o r1 r2 e k => ?_
  cases dx <;> cases dy <;> simp only [bD, leB, Option.map] at e <;> try cases e
  · cases r1; cases r2
    exact .inl ⟨_, _, rfl, rfl, k F H _ Step.refl o rfl⟩
  · cases r1; cases r2
    exact .inr ⟨_, _, rfl, rfl, k F H _ Step.refl o rfl⟩
theorem od_gt : OpR X (compareOp .Gt) (rD2 X.K (bD gtB)) := by
  refine OpR.toD op_gt fun F ρ L H dx dy d x y Q o r1 r2 e k => ?_
  cases dx <;> cases dy <;> simp only [bD, gtB, Option.map] at e <;> try cases e
  cases r1; cases r2
  exact ⟨_, _, rfl, rfl, k F H _ Step.refl o rfl⟩
theorem od_ge : OpR X (compareOp .GtE) (rD2 X.K (bD geB)) := by
  refine OpR.toD op_ge fun F ρ L H dx dy d x y Q o r1 r2 e k => ?_
  cases dx <;> cases dy <;> simp only [bD, geB, Option.map] at e <;> try cases e
  cases r1; cases r2
  exact ⟨_, _, rfl, rfl, k F H _ Step.refl o rfl⟩
theorem rdr_non {K : Frag} {F : Addr → Prop} {H : Hp} {d : D} {x : V} (r : Rdr K F H d x) : decide (x = .non) = isNon d := by
  cases d with
  | non => cases r; rfl
  | bl _ => cases r; rfl
  | int _ => cases r; rfl
  | str _ => cases r; rfl
  | lst _ => obtain ⟨_, _, rfl, _⟩ := r; rfl
  | tup _ => obtain ⟨_, _, rfl, _⟩ := r; rfl
  | dic _ _ => obtain ⟨_, _, rfl, _⟩ := r; rfl
  | dit _ _ => obtain ⟨_, _, rfl, _⟩ := r; rfl
  | ins _ _ _ => obtain ⟨_, _, _, rfl, _⟩ := r; rfl
  | exc _ _ _ => obtain ⟨_, _, _, rfl, _⟩ := r; rfl
  | ex0 _ => obtain ⟨_, rfl, _⟩ := r; rfl
  | obj _ => cases r; rfl
  | ty _ => cases r; rfl
  | scr _ => obtain ⟨_, rfl, _⟩ := r; rfl
theorem od_isN : OpR X (compareOp .Is) (rD2 X.K (bD isNonB)) := by
  refine OpR.toD op_isN fun F ρ L H dx dy d x y Q o r1 r2 e k => ?_
  cases dy <;> simp only [bD, isNonB, Option.map] at e <;> try cases e
  cases r2
  refine ⟨rfl, ?_⟩
  rw [rdr_non r1]
  exact k F H _ Step.refl o rfl
theorem od_notN : OpR X (compareOp .IsNot) (rD2 X.K (bD notNonB)) := by
  refine OpR.toD op_notN fun F ρ L H dx dy d x y Q o r1 r2 e k => ?_
  cases dy <;> simp only [bD, notNonB, isNonB, Option.map] at e <;> try cases e
  cases r2
  refine ⟨rfl, ?_⟩
  rw [rdr_non r1]
  exact k F H _ Step.refl o rfl
theorem str_one {x : Str} {c : Nat} (e : x.cps.toList = [c]) : x = ⟨#[c]⟩ := by
  obtain ⟨⟨l⟩⟩ := x
  simp at e
  subst e
  rfl
theorem od_in (hu : X.A.units + 64 < cLine) : OpR X (compareOp .In) (rD2 X.K (bD inB)) := by
  intro pins s σ H x y v u Q I rx ry ⟨F, ρ, L, dx, dy, d, o, r1, r2, e9, k⟩
  have seq : ∀ {ys : List D} {p : PyData} {qs : List PyData}, toPy dx = some p → toPyL ys = some qs → p.depth ≤ 60 → (dy = .lst ys ∨ dy = .tup ys) → Q (.bl (qs.any fun y => PyData.eqv y p)) H →
      wpAny (model X.prog X.w) X.A (compareOp .In v u) (EP X pins σ Q) X.xe s := by
    intro ys p qs e1 e2 hd hy q
    obtain ⟨as, q1⟩ := Dp.reads I p x v (toPy_dp dx r1 e1) rx
    have hm : min (PyData.depthAll qs) p.depth ≤ p.depth := Nat.min_le_right _ _
    rcases hy with rfl | rfl
    · obtain ⟨bs, q2⟩ := Dp.reads I (.list qs) y u (toPy_dp (.lst ys) r2 (by simp only [toPy, e2, Option.map])) ry
      exact PySem.SeqAt.in_list_data q2 q1 (toPyL_plain ys e2) (toPy_plain dx e1) (by omega) ⟨.bl _, H, I, rfl, q⟩
    · obtain ⟨bs, q2⟩ := Dp.reads I (.tuple qs) y u (toPy_dp (.tup ys) r2 (by simp only [toPy, e2, Option.map])) ry
      exact PySem.SeqAt.in_tuple_data q2 q1 (toPyL_plain ys e2) (toPy_plain dx e1) (by omega) ⟨.bl _, H, I, rfl, q⟩
  obtain ⟨kk, e, rfl⟩ := Option.map_eq_some_iff.mp (show (inB dx dy).map D.bl = some d from e9)
  have kq := k F H (.bl kk) Step.refl o rfl
  cases dy with
  | str z =>
    cases dx with
    | str x' =>
      cases r1; cases r2
      have e : inSign x' z = some kk := e
      unfold inSign at e
      split at e
      · rename_i c hc
        cases e
        rw [str_one hc] at rx
        exact op_in_sign pins s σ H _ _ v u Q I rx ry ⟨c, z, rfl, rfl, kq⟩
      · cases e
    | _ => cases e
  | lst ys =>
    have e' : inSeq dx ys = some kk := e
    simp only [inSeq, Option.bind_eq_some_iff] at e'
    obtain ⟨p, e1, qs, e2, e3⟩ := e'
    split at e3
    · cases e3; exact seq e1 e2 (by assumption) (.inl rfl) kq
    · cases e3
  | tup ys =>
    have e' : inSeq dx ys = some kk := e
    simp only [inSeq, Option.bind_eq_some_iff] at e'
    obtain ⟨p, e1, qs, e2, e3⟩ := e'
    split at e3
    · cases e3; exact seq e1 e2 (by assumption) (.inr rfl) kq
    · cases e3
  | _ => cases e
theorem od_notIn (hu : X.A.units + 64 < cLine) : OpR X (compareOp .NotIn) (rD2 X.K (bD notInB)) := by
  intro pins s σ H x y v u Q I rx ry ⟨F, ρ, L, dx, dy, d, o, r1, r2, e9, k⟩
  have seq : ∀ {ys : List D} {p : PyData} {qs : List PyData}, toPy dx = some p → toPyL ys = some qs → p.depth ≤ 60 → (dy = .lst ys ∨ dy = .tup ys) → Q (.bl (!qs.any fun y => PyData.eqv y p)) H →
      wpAny (model X.prog X.w) X.A (compareOp .NotIn v u) (EP X pins σ Q) X.xe s := by
    intro ys p qs e1 e2 hd hy q
    obtain ⟨as, q1⟩ := Dp.reads I p x v (toPy_dp dx r1 e1) rx
    have hm : min (PyData.depthAll qs) p.depth ≤ p.depth := Nat.min_le_right _ _
    rcases hy with rfl | rfl
    · obtain ⟨bs, q2⟩ := Dp.reads I (.list qs) y u (toPy_dp (.lst ys) r2 (by simp only [toPy, e2, Option.map])) ry
      exact PySem.SeqAt.notIn_list_data q2 q1 (toPyL_plain ys e2) (toPy_plain dx e1) (by omega) ⟨.bl _, H, I, rfl, q⟩
    · obtain ⟨bs, q2⟩ := Dp.reads I (.tuple qs) y u (toPy_dp (.tup ys) r2 (by simp only [toPy, e2, Option.map])) ry
      exact PySem.SeqAt.notIn_tuple_data q2 q1 (toPyL_plain ys e2) (toPy_plain dx e1) (by omega) ⟨.bl _, H, I, rfl, q⟩
  obtain ⟨kk, e0, rfl⟩ := Option.map_eq_some_iff.mp (show (notInB dx dy).map D.bl = some d from e9)
  obtain ⟨k1, e, rfl⟩ := Option.map_eq_some_iff.mp (show (inB dx dy).map (!·) = some kk from e0)
  have kq := k F H (.bl (!k1)) Step.refl o rfl
  cases dy with
  | str z =>
    cases dx with
    | str x' =>
      cases r1; cases r2
      have e : inSign x' z = some k1 := e
      unfold inSign at e
      split at e
      · rename_i c hc
        cases e
        rw [str_one hc] at rx
        exact op_notIn_sign pins s σ H _ _ v u Q I rx ry ⟨c, z, rfl, rfl, kq⟩
      · cases e
    | _ => cases e
  | lst ys =>
    have e' : inSeq dx ys = some k1 := e
    simp only [inSeq, Option.bind_eq_some_iff] at e'
    obtain ⟨p, e1, qs, e2, e3⟩ := e'
    split at e3
    · cases e3; exact seq e1 e2 (by assumption) (.inl rfl) kq
    · cases e3
  | tup ys =>
    have e' : inSeq dx ys = some k1 := e
    simp only [inSeq, Option.bind_eq_some_iff] at e'
    obtain ⟨p, e1, qs, e2, e3⟩ := e'
    split at e3
    · cases e3; exact seq e1 e2 (by assumption) (.inr rfl) kq
    · cases e3
  | _ => cases e

/-! ### a comparison as a value, as a test; chains -/
def eCmp (gb : D → D → Option Bool) (fa fb : EF) : EF := eBin (bD gb) fa fb
def bop2 (gb : D → D → Option Bool) (x y : U) (L : LS) : Rs Bool := opt (rdU L x) fun dx => opt (rdU L y) fun dy => opt (gb dx dy) fun k => .ok k L
def bCmp (gb : D → D → Option Bool) (fa fb : EF) : TF := fun st L => (fa st L).bind fun x L1 => (fb st L1).bind fun y L2 => bop2 gb x y L2
theorem bop2_ok {gb : D → D → Option Bool} {K : Frag} {W : WX} {σ : L2.St} {F : Addr → Prop} {ρ : Nat → Addr} {H : Hp} {L : LS} {x y : U} {v w : V} {Q : Bool → Hp → Prop} (o : Ok K F ρ H L) (px : RepU K F ρ H L x v) (py : RepU K F ρ H L y w) (h : GE PB K W σ F ρ H L Q (bop2 gb x y L)) :
    rD2 K (bD gb) v w H (fun z H' => ∃ k, z = .bl k ∧ Q k H') := by
  obtain ⟨dx, e1, h⟩ := h.opt
  obtain ⟨dy, e2, h⟩ := h.opt
  obtain ⟨k, e3, h⟩ := h.opt
  exact ⟨F, ρ, L, dx, dy, .bl k, o, rdr_of o px e1, rdr_of o py e2, by simp [bD, e3], fun F' H' z s o' r => ⟨k, r, h F' ρ H' k s o' rfl⟩⟩
theorem ke_cmp {op : CmpOp} {gb : D → D → Option Bool} (ho : OpR X (compareOp op) (rD2 X.K (bD gb))) (ha : KE X W a fa) (hb : KE X W b fb) (hm : behindInMarks op b = false) : KE X W (.Compare a [op] [b] pos) (eCmp gb fa fb) := pe_wk (pe_cmpR ho ha hb hm) fun σ H Q h => two_ok h
theorem kb_cmp {op : CmpOp} {gb : D → D → Option Bool} (ho : OpR X (compareOp op) (rD2 X.K (bD gb))) (ha : KE X W a fa) (hb : KE X W b fb) (hm : behindInMarks op b = false) : KB X W (.Compare a [op] [b] pos) (bCmp gb fa fb) := by
  refine pt_wk (pt_cmpR ho ha hb hm) fun σ H Q ⟨F, ρ, L, st, o, r, h⟩ => ?_
  refine RG.one o r h fun x H1 F1 ρ1 L1 u s1 o1 r1 p1 h1 => ?_
  refine RG.one o1 r1 h1 fun y H2 F2 ρ2 L2 u2 s2 o2 r2 p2 h2 => ?_
  exact bop2_ok o2 (p1.mono s2) p2 h2
def eChain (gb gc : D → D → Option Bool) (fa fb fc : EF) : EF := fun st L => (fa st L).bind fun x L1 => (fb st L1).bind fun y L2 => (bop2 gb x y L2).bind fun k L3 => if k then (fc st L3).bind fun z L4 => op2 (bD gc) y z L4 else .ok (.d (.bl false)) L3
def bChain (gb gc : D → D → Option Bool) (fa fb fc : EF) : TF := fun st L => (fa st L).bind fun x L1 => (fb st L1).bind fun y L2 => (bop2 gb x y L2).bind fun k L3 => if k then (fc st L3).bind fun z L4 => bop2 gc y z L4 else .ok false L3
theorem bop2_bind {gb : D → D → Option Bool} {γ δ : Type} {P : PP γ δ} {K : Frag} {W : WX} {σ : L2.St} {F : Addr → Prop} {ρ : Nat → Addr} {H : Hp} {L : LS} {x y : U} {v w : V} {Q : δ → Hp → Prop} {g : Bool → LS → Rs γ} {Q' : VK} (o : Ok K F ρ H L) (px : RepU K F ρ H L x v) (py : RepU K F ρ H L y w)
    (h : GE P K W σ F ρ H L Q ((bop2 gb x y L).bind g)) (q : ∀ k F1 H1, Step F ρ H L F1 ρ H1 L → Ok K F1 ρ H1 L → GE P K W σ F1 ρ H1 L Q (g k L) → Q' (.bl k) H1) : rD2 K (bD gb) v w H Q' := by
  have h' : GE P K W σ F ρ H L Q (opt (rdU L x) fun dx => opt (rdU L y) fun dy => opt (gb dx dy) fun k => g k L) := by
    unfold bop2 at h
    cases e1 : rdU L x with
    | none => rw [e1] at h; exact h
    | some dx =>
      cases e2 : rdU L y with
      | none => rw [e1, e2] at h; exact h
      | some dy =>
        cases e3 : gb dx dy with
        | none => rw [e1, e2] at h; simp only [opt_some, e3] at h ⊢; exact h
        | some k => rw [e1, e2] at h; simp only [opt_some, e3] at h ⊢; exact h
  obtain ⟨dx, e1, h'⟩ := h'.opt
  obtain ⟨dy, e2, h'⟩ := h'.opt
  obtain ⟨k, e3, h'⟩ := h'.opt
  refine ⟨F, ρ, L, dx, dy, .bl k, o, rdr_of o px e1, rdr_of o py e2, by simp [bD, e3], fun F' H' z s o' r => ?_⟩
  cases r
  exact q k F' H' s o' (GE.on s h')
theorem ke_chain {op op' : CmpOp} {gb gc : D → D → Option Bool} (ho : OpR X (compareOp op) (rD2 X.K (bD gb))) (ho' : OpR X (compareOp op') (rD2 X.K (bD gc))) (ha : KE X W a fa) (hb : KE X W b fb) (hc : KE X W c fc)
    (hm : lastMarks [op, op'] [b, c] = false := by with_unfolding_all rfl) : KE X W (.Compare a [op, op'] [b, c] pos) (eChain gb gc fa fb fc) := by
  refine pe_wk (pe_chain ho ho' ha hb hc hm) fun σ H Q ⟨F, ρ, L, st, o, r, h⟩ => ?_
  refine RG.one o r h fun x H1 F1 ρ1 L1 u s1 o1 r1 p1 h1 => ?_
  refine RG.one o1 r1 h1 fun y H2 F2 ρ2 L2 u2 s2 o2 r2 p2 h2 => ?_
  refine bop2_bind o2 (p1.mono s2) p2 h2 fun k F3 H3 s3 o3 h3 => ⟨k, rfl, ?_⟩
  cases k with
  | false => exact iteF (h3.fin o3 rfl)
  | true =>
    refine iteT (RG.one o3 (r2.mono s3) h3 fun z H4 F4 ρ4 L4 u4 s4 o4 r4 p4 h4 => ?_)
    exact op2_ok o4 ((p2.mono s3).mono s4) p4 h4
theorem kb_chain {op op' : CmpOp} {gb gc : D → D → Option Bool} (ho : OpR X (compareOp op) (rD2 X.K (bD gb))) (ho' : OpR X (compareOp op') (rD2 X.K (bD gc))) (ha : KE X W a fa) (hb : KE X W b fb) (hc : KE X W c fc)
    (hm : lastMarks [op, op'] [b, c] = false := by with_unfolding_all rfl) : KB X W (.Compare a [op, op'] [b, c] pos) (bChain gb gc fa fb fc) := by
  refine pt_wk (pt_chain ho ho' ha hb hc hm) fun σ H Q ⟨F, ρ, L, st, o, r, h⟩ => ?_
  refine RG.one o r h fun x H1 F1 ρ1 L1 u s1 o1 r1 p1 h1 => ?_
  refine RG.one o1 r1 h1 fun y H2 F2 ρ2 L2 u2 s2 o2 r2 p2 h2 => ?_
  refine bop2_bind o2 (p1.mono s2) p2 h2 fun k F3 H3 s3 o3 h3 => ⟨k, rfl, ?_⟩
  cases k with
  | false => exact iteF ⟨false, rfl, h3.fin o3 rfl⟩
  | true =>
    refine iteT (RG.one o3 (r2.mono s3) h3 fun z H4 F4 ρ4 L4 u4 s4 o4 r4 p4 h4 => ?_)
    exact bop2_ok o4 ((p2.mono s3).mono s4) p4 h4

/-! ### truth -/
def truB : D → Option Bool
  | .non => some false
  | .bl b => some b
  | .int i => some (i != 0)
  | .str x => if x.length ≤ big then some ((x.length : Int) != 0) else none
  | .lst xs => some (!xs.isEmpty)
  | .tup xs => some (!xs.isEmpty)
  | .dic ks xs => some (!ks.isEmpty)
  | _ => none
theorem isEmpty_len {α β : Type} {xs : List α} {ys : List β} (h : ys.length = xs.length) : (!ys.isEmpty) = !xs.isEmpty := by
  cases xs <;> cases ys <;> simp_all
theorem truB_ok {K : Frag} {F : Addr → Prop} {H : Hp} {d : D} {x : V} {k : Bool} (r : Rdr K F H d x) (e : truB d = some k) : TruV K x H k := by
  cases d with
  | non => cases r; cases e; rfl
  | bl _ => cases r; cases e; rfl
  | int _ => cases r; cases e; rfl
  | str y =>
    cases r
    have e : (if y.length ≤ big then some ((y.length : Int) != 0) else none) = some k := e
    split at e
    · rename_i h; cases e; exact ⟨by rw [big_eq]; exact h, rfl⟩
    · cases e
  | lst xs => obtain ⟨a, vs, rfl, h, q⟩ := r; cases e; exact .inl ⟨vs, .inl (.inl h), (isEmpty_len q.length).symm⟩
  | tup xs => obtain ⟨a, vs, rfl, h, q⟩ := r; cases e; exact .inr (.inl ⟨vs, h, (isEmpty_len q.length).symm⟩)
  | dic ks xs => obtain ⟨a, kvs, rfl, h, hk, q⟩ := r; cases e; exact .inr (.inr ⟨kvs, h, by subst hk; cases kvs <;> rfl⟩)
  | _ => simp only [truB] at e; cases e
def trU (x : U) (L : LS) : Option Bool := (rdU L x).bind truB
theorem trU_ok {K : Frag} {F : Addr → Prop} {ρ : Nat → Addr} {H : Hp} {L : LS} {x : U} {v : V} {k : Bool} (o : Ok K F ρ H L) (p : RepU K F ρ H L x v) (e : trU x L = some k) : TruV K v H k := by
  obtain ⟨d, e1, e2⟩ := Option.bind_eq_some_iff.mp e
  exact truB_ok (rdr_of o p e1) e2
def bTru (fa : EF) : TF := fun st L => (fa st L).bind fun x L1 => opt (trU x L1) fun k => .ok k L1
theorem kb_tru (ha : KE X W a fa) (he : ∀ whole, isTrue a X.env whole = (do let v ← whole; standAt a.pos; holding [v] (truthy v)) := by intro _; rfl) : KB X W a (bTru fa) := by
  refine pt_wk (pt_truth ha he) fun σ H Q ⟨F, ρ, L, st, o, r, h⟩ => ?_
  refine RG.one o r h fun x H1 F1 ρ1 L1 u s1 o1 r1 p1 h1 => ?_
  obtain ⟨k, e, h1⟩ := h1.opt
  exact ⟨k, trU_ok o1 p1 e, h1.fin o1 rfl⟩

/-! ### and, or, not, if -/
variable {rest : List Expr} {ta tb tc : TF}
def eAnd (fa fb : EF) : EF := fun st L => (fa st L).bind fun x L1 => opt (trU x L1) fun k => if k then fb st L1 else .ok x L1
def eOr (fa fb : EF) : EF := fun st L => (fa st L).bind fun x L1 => opt (trU x L1) fun k => if k then .ok x L1 else fb st L1
def eNot (fa : EF) : EF := fun st L => (fa st L).bind fun x L1 => opt (trU x L1) fun k => .ok (.d (.bl (!k))) L1
theorem ke_one {op} (h : KE X W a fa) : KE X W (.BoolOp op [a] pos) fa := pe_one h
theorem ke_and (ha : KE X W a fa) (hb : KE X W (.BoolOp .And (b :: rest) pos) fb) : KE X W (.BoolOp .And (a :: b :: rest) pos) (eAnd fa fb) := by
  refine pe_wk (pe_andT ha hb) fun σ H Q ⟨F, ρ, L, st, o, r, h⟩ => ?_
  refine RG.one o r h fun x H1 F1 ρ1 L1 u s1 o1 r1 p1 h1 => ?_
  obtain ⟨k, e, h1⟩ := h1.opt
  refine ⟨k, trU_ok o1 p1 e, ?_⟩
  cases k with
  | true => exact iteT (RG.of o1 r1 h1)
  | false => exact iteF (h1.fin o1 p1)
theorem ke_or (ha : KE X W a fa) (hb : KE X W (.BoolOp .Or (b :: rest) pos) fb) : KE X W (.BoolOp .Or (a :: b :: rest) pos) (eOr fa fb) := by
  refine pe_wk (pe_orT ha hb) fun σ H Q ⟨F, ρ, L, st, o, r, h⟩ => ?_
  refine RG.one o r h fun x H1 F1 ρ1 L1 u s1 o1 r1 p1 h1 => ?_
  obtain ⟨k, e, h1⟩ := h1.opt
  refine ⟨k, trU_ok o1 p1 e, ?_⟩
  cases k with
  | true => exact iteT (h1.fin o1 p1)
  | false => exact iteF (RG.of o1 r1 h1)
theorem ke_not (ha : KE X W a fa) : KE X W (.UnaryOp .Not a pos) (eNot fa) := by
  refine pe_wk (pe_notT ha) fun σ H Q ⟨F, ρ, L, st, o, r, h⟩ => ?_
  refine RG.one o r h fun x H1 F1 ρ1 L1 u s1 o1 r1 p1 h1 => ?_
  obtain ⟨k, e, h1⟩ := h1.opt
  exact ⟨k, trU_ok o1 p1 e, h1 F1 ρ1 H1 (V.bl (!k)) Step.refl o1 (show Rep X.K F1 H1 (.bl (!k)) (.bl (!k)) from rfl)⟩
def bAnd (ta tb : TF) : TF := fun st L => (ta st L).bind fun k L1 => if k then tb st L1 else .ok false L1
def bOr (ta tb : TF) : TF := fun st L => (ta st L).bind fun k L1 => if k then .ok true L1 else tb st L1
def bNot (ta : TF) : TF := fun st L => (ta st L).bind fun k L1 => .ok (!k) L1
theorem kw_and1 (ha : KB X W a ta) : KW X W (.BoolOp .And [a] pos) ta := pw_and1 ha
theorem kw_or1 (ha : KB X W a ta) : KW X W (.BoolOp .Or [a] pos) ta := pw_or1 ha
theorem kw_and (ha : KB X W a ta) (hb : KW X W (.BoolOp .And (b :: rest) pos) tb) : KW X W (.BoolOp .And (a :: b :: rest) pos) (bAnd ta tb) := by
  refine pw_wk (pw_and ha hb) fun σ H Q ⟨F, ρ, L, st, o, r, h⟩ => ?_
  refine RG.one (P := PB) o r h fun x H1 F1 ρ1 L1 u s1 o1 r1 p1 h1 => ?_
  obtain rfl : u = x := p1
  cases u with
  | true => exact iteT (RG.of o1 r1 h1)
  | false => exact iteF (h1.fin o1 rfl)
theorem kw_or (ha : KB X W a ta) (hb : KW X W (.BoolOp .Or (b :: rest) pos) tb) : KW X W (.BoolOp .Or (a :: b :: rest) pos) (bOr ta tb) := by
  refine pw_wk (pw_or ha hb) fun σ H Q ⟨F, ρ, L, st, o, r, h⟩ => ?_
  refine RG.one (P := PB) o r h fun x H1 F1 ρ1 L1 u s1 o1 r1 p1 h1 => ?_
  obtain rfl : u = x := p1
  cases u with
  | true => exact iteT (h1.fin o1 rfl)
  | false => exact iteF (RG.of o1 r1 h1)
theorem kb_w (h : KW X W a ta) : KB X W a ta := PW.pt h
theorem kb_not (ha : KB X W a ta) : KB X W (.UnaryOp .Not a pos) (bNot ta) := by
  refine pt_wk (pt_not ha) fun σ H Q ⟨F, ρ, L, st, o, r, h⟩ => ?_
  refine RG.one (P := PB) o r h fun x H1 F1 ρ1 L1 u s1 o1 r1 p1 h1 => ?_
  obtain rfl : u = x := p1
  exact h1.fin o1 rfl
def eIf (t : TF) (fa fb : EF) : EF := fun st L => (t st L).bind fun k L1 => if k then fa st L1 else fb st L1
theorem ke_if (hc : KB X W c tc) (ha : KE X W a fa) (hb : KE X W b fb) : KE X W (.IfExp c a b pos) (eIf tc fa fb) := by
  refine pe_wk (pe_ifExp hc ha hb) fun σ H Q ⟨F, ρ, L, st, o, r, h⟩ => ?_
  refine RG.one (P := PB) o r h fun x H1 F1 ρ1 L1 u s1 o1 r1 p1 h1 => ?_
  obtain rfl : u = x := p1
  cases u with
  | true => exact iteT (RG.of o1 r1 h1)
  | false => exact iteF (RG.of o1 r1 h1)
end
end VL

set_option Elab.async false
set_option linter.all false
set_option maxRecDepth 100000
set_option maxHeartbeats 4000000
namespace VL
open PySem PySem.Spec PyProof.Rows L2
open PySem.W (Frag)

/-! ### lists of what is read, of what comes to rest -/
def RdrL (K : Frag) (F : Addr → Prop) (H : Hp) : List D → List V → Prop
  | [], vs => vs = []
  | d :: ds, vs => ∃ v r, vs = v :: r ∧ Rdr K F H d v ∧ RdrL K F H ds r
def rdUs (L : LS) : List U → Option (List D)
  | [] => some []
  | u :: us => (rdU L u).bind fun d => (rdUs L us).map (d :: ·)
def fzUs (L : LS) : List U → Option (List D × LS)
  | [] => some ([], L)
  | u :: us => (fzU L u).bind fun p => (fzUs p.2 us).map fun q => (p.1 :: q.1, q.2)
section
variable {K : Frag} {F : Addr → Prop} {ρ : Nat → Addr} {H : Hp} {L : LS}
theorem rdrs_of (o : Ok K F ρ H L) : ∀ {us : List U} {vs : List V} {ds : List D}, RepUs K F ρ H L us vs → rdUs L us = some ds → RdrL K F H ds vs
  | [], _, _, h, e => by cases h; cases e; rfl
  | u :: us, _, _, ⟨v, r, e1, h, t⟩, e => by
    subst e1
    simp only [rdUs, Option.bind_eq_some_iff, Option.map_eq_some_iff] at e
    obtain ⟨d, e2, ds, e3, rfl⟩ := e
    exact ⟨v, r, rfl, rdr_of o h e2, rdrs_of o t e3⟩
theorem fzUs_ok : ∀ {us : List U} {vs : List V} {ds : List D} {F : Addr → Prop} {L L' : LS}, Ok K F ρ H L → RepUs K F ρ H L us vs → fzUs L us = some (ds, L') → ∃ F', Step F ρ H L F' ρ H L' ∧ Ok K F' ρ H L' ∧ RepL K F' H ds vs
  | [], _, _, F, L, L', o, h, e => by cases h; cases e; exact ⟨F, Step.refl, o, rfl⟩
  | u :: us, _, _, F, L, L', o, ⟨v, r, e1, h, t⟩, e => by
    subst e1
    simp only [fzUs, Option.bind_eq_some_iff, Option.map_eq_some_iff] at e
    obtain ⟨⟨d, L1⟩, e2, ⟨ds, L2⟩, e3, e4⟩ := e
    obtain ⟨rfl, rfl⟩ := Prod.mk.inj e4
    obtain ⟨F1, s1, o1, r1⟩ := fzU_ok o h e2
    obtain ⟨F2, s2, o2, r2⟩ := fzUs_ok (us := us) o1 (t.mono s1) e3
    exact ⟨F2, s1.trans s2, o2, v, r, rfl, Rep.mono s2.fz d r1, r2⟩
/-- a new object that still changes -/
def ρ1 (ρ : Nat → Addr) (L : LS) (p : Addr) : Nat → Addr := fun n => if n = L.length then p else ρ n
theorem live_ok (o : Ok K F ρ H L) {p : Addr} (hp : H p = none) {u : HO} {lo : LO} (on : lo.on = true) (h : LAt K F (upd H p u) p lo) : Step F ρ H L F (ρ1 ρ L p) (upd H p u) (L ++ [lo]) ∧ Ok K F (ρ1 ρ L p) (upd H p u) (L ++ [lo]) := by
  have k : ∀ a, F a → F a ∧ upd H p u a = H a := fun a f => ⟨f, upd_ne fun z => o.stands a f (z ▸ hp)⟩
  have old : ∀ n, n < L.length → ρ1 ρ L p n = ρ n := fun n h => if_neg (Nat.ne_of_lt h)
  have new : ρ1 ρ L p L.length = p := if_pos rfl
  have gt : ∀ {m lo'}, (L ++ [lo])[m]? = some lo' → (m < L.length ∧ L[m]? = some lo') ∨ (m = L.length ∧ lo' = lo) := fun {m lo'} e => by
    by_cases hm : m < L.length
    · rw [List.getElem?_append_left hm] at e; exact .inl ⟨hm, e⟩
    · have hm' : m = L.length := by
        have := (List.getElem?_eq_some_iff.mp e).1
        simp at this; omega
      subst hm'
      rw [List.getElem?_append_right (Nat.le_refl _)] at e
      simp at e
      exact .inr ⟨rfl, e.symm⟩
  have npl : ∀ {m lo'}, L[m]? = some lo' → lo'.on = true → ρ m ≠ p := fun {m lo'} e t z => by
    have h := o.at_ m lo' e
    cases lo' with
    | l xs => obtain ⟨_, vs, h1, _⟩ := h; rw [z, hp] at h1; cases h1
    | d ks xs => obtain ⟨_, vs, h1, _⟩ := h; rw [z, hp] at h1; cases h1
    | t ks xs => obtain ⟨_, vs, h1, _⟩ := h; rw [z, hp] at h1; cases h1
    | i C ns xs => obtain ⟨_, dx, fs, h1, _⟩ := h; rw [z, hp] at h1; cases h1
    | z d => cases t
  refine ⟨⟨k, by simp, fun n h => old n h, fun a w e _ => by rw [upd_ne (ne_of_none e hp)]; exact e, fun n l h e _ => ?_, fun n l h e t => ?_, fun a h => ?_, fun a f => .inl f⟩, ⟨fun m lo' e => ?_, fun m n lo1 lo2 e1 e2 t1 t2 q => ?_, fun a f => by rw [(k a f).2]; exact o.stands a f⟩⟩
  · rcases gt e with ⟨hm, _⟩ | ⟨hm, _⟩
    · omega
    · rw [hm, new]; exact hp
  · rw [List.getElem?_append_left h] at e; exact ⟨l, e, t⟩
  · by_cases z : a = p
    · subst z; rw [upd_same] at h; cases h
    · rw [upd_ne z] at h; exact h
  · rcases gt e with ⟨hm, e⟩ | ⟨rfl, rfl⟩
    · rw [old m hm]
      have h' := o.at_ m lo' e
      cases lo' with
      | l xs => have ne := npl e rfl; obtain ⟨f, vs, h1, h2⟩ := h'; exact ⟨f, vs, by rw [upd_ne ne]; exact h1, RepL.mono k xs h2⟩
      | d ks xs => have ne := npl e rfl; obtain ⟨f, vs, h1, h2, h3⟩ := h'; exact ⟨f, vs, by rw [upd_ne ne]; exact h1, h2, RepL.mono k xs h3⟩
      | t ks xs => have ne := npl e rfl; obtain ⟨f, vs, h1, h2, h3⟩ := h'; exact ⟨f, vs, by rw [upd_ne ne]; exact h1, h2, RepL.mono k xs h3⟩
      | i C ns xs => have ne := npl e rfl; obtain ⟨f, dx, fs, h1, oc, h2, h3⟩ := h'; exact ⟨f, dx, fs, by rw [upd_ne ne]; exact h1, oc, h2, RepL.mono k xs h3⟩
      | z d => exact Rep.mono k d h'
    · rw [new]; exact h
  · rcases gt e1 with ⟨h1, f1⟩ | ⟨h1, g1⟩ <;> rcases gt e2 with ⟨h2, f2⟩ | ⟨h2, g2⟩
    · rw [old m h1, old n h2] at q; exact o.inj m n _ _ f1 f2 t1 t2 q
    · rw [old m h1, h2, new] at q; exact absurd q (npl f1 t1)
    · rw [old n h2, h1, new] at q; exact absurd q.symm (npl f2 t2)
    · rw [h1, h2]
theorem nF (o : Ok K F ρ H L) {p : Addr} (hp : H p = none) : ¬ F p := fun f => o.stands p f hp
end

section
variable {X : Cx} {W : WX} {a b c e : Expr} {fa fb fc : EF} {pos : Pos} {es : List Expr} {f : AF}
/-! ### arguments, displays -/
def aNil : AF := fun _ L => .ok [] L
def aCons (fa : EF) (f : AF) : AF := fun st L => (fa st L).bind fun u L1 => (f st L1).bind fun us L2 => .ok (u :: us) L2
theorem ka_nil : KA X W [] aNil := pa_wk pa_nil fun σ H Q ⟨F, ρ, L, st, o, r, h⟩ => h.fin (b := []) o rfl
theorem ka_cons (ha : KE X W e fa) (hr : KA X W es f) (hs : starEach (e :: es) X.env = (false, eval e X.env) :: starEach es X.env := by rfl) : KA X W (e :: es) (aCons fa f) := by
  refine pa_wk (pa_cons ha hr hs) fun σ H Q ⟨F, ρ, L, st, o, r, h⟩ => ?_
  refine RG.one o r h fun x H1 F1 ρ1 L1 u s1 o1 r1 p1 h1 => ?_
  refine RG.one o1 r1 h1 fun y H2 F2 ρ2 L2 u2 s2 o2 r2 p2 h2 => ?_
  exact h2.fin o2 ⟨x, y, rfl, p1.mono s2, p2⟩
def eLst (f : AF) : EF := fun st L => (f st L).bind fun us L1 => opt (fzUs L1 us) fun p => if p.1.length ≤ big then .ok (.d (.lst p.1)) p.2 else .no
def eTup (f : AF) : EF := fun st L => (f st L).bind fun us L1 => opt (fzUs L1 us) fun p => if p.1.length ≤ big then .ok (.d (.tup p.1)) p.2 else .no
/-- a list that still changes -/
def eLstL (f : AF) : EF := fun st L => (f st L).bind fun us L1 => opt (fzUs L1 us) fun p => if p.1.length ≤ big then .ok (.l p.2.length) (p.2 ++ [.l p.1]) else .no
theorem ge_if {α β : Type} {P : PP α β} {K : Frag} {W : WX} {σ : L2.St} {F : Addr → Prop} {ρ : Nat → Addr} {H : Hp} {L : LS} {Q : β → Hp → Prop} {c : Prop} [Decidable c] {x : Rs α} (h : GE P K W σ F ρ H L Q (if c then x else .no)) : c ∧ GE P K W σ F ρ H L Q x := by
  by_cases hc : c
  · rw [if_pos hc] at h; exact ⟨hc, h⟩
  · rw [if_neg hc] at h; exact h.elim
theorem ke_lst (h : KA X W es f) : KE X W (.List es pos) (eLst f) := by
  refine pe_wk (pe_lst h) fun σ H Q ⟨F, ρ, L, st, o, r, h⟩ => ?_
  refine RG.one o r h fun x H1 F1 ρ1 L1 u s1 o1 r1 p1 h1 => ?_
  obtain ⟨⟨ds, L2⟩, e1, h1⟩ := h1.opt
  obtain ⟨hz, h1⟩ := ge_if h1
  obtain ⟨F2, s2, o2, q2⟩ := fzUs_ok o1 p1 e1
  refine ⟨by rw [big_eq, q2.length]; exact hz, fun p hp => ?_⟩
  obtain ⟨s3, o3⟩ := new_ok o2 hp (.lst x)
  exact h1 _ _ _ _ (s2.trans s3) o3 (new_lst o2 hp q2)
theorem ke_tup {x1} (h : KA X W es f) : KE X W (.Tuple es x1 pos) (eTup f) := by
  refine pe_wk (pe_tup h) fun σ H Q ⟨F, ρ, L, st, o, r, h⟩ => ?_
  refine RG.one o r h fun x H1 F1 ρ1 L1 u s1 o1 r1 p1 h1 => ?_
  obtain ⟨⟨ds, L2⟩, e1, h1⟩ := h1.opt
  obtain ⟨hz, h1⟩ := ge_if h1
  obtain ⟨F2, s2, o2, q2⟩ := fzUs_ok o1 p1 e1
  refine ⟨by rw [big_eq, q2.length]; exact hz, fun p hp => ?_⟩
  obtain ⟨s3, o3⟩ := new_ok o2 hp (.tup x)
  exact h1 _ _ _ _ (s2.trans s3) o3 (new_tup o2 hp q2)
theorem ke_lstL (h : KA X W es f) : KE X W (.List es pos) (eLstL f) := by
  refine pe_wk (pe_lst h) fun σ H Q ⟨F, ρ, L, st, o, r, h⟩ => ?_
  refine RG.one o r h fun x H1 F1 ρ1 L1 u s1 o1 r1 p1 h1 => ?_
  obtain ⟨⟨ds, L2⟩, e1, h1⟩ := h1.opt
  obtain ⟨hz, h1⟩ := ge_if h1
  obtain ⟨F2, s2, o2, q2⟩ := fzUs_ok o1 p1 e1
  refine ⟨by rw [big_eq, q2.length]; exact hz, fun p hp => ?_⟩
  have k : ∀ a, F2 a → F2 a ∧ upd H1 p (.lst x) a = H1 a := fun a f => ⟨f, upd_ne fun z => o2.stands a f (z ▸ hp)⟩
  obtain ⟨s3, o3⟩ := live_ok o2 hp (u := .lst x) (lo := .l ds) rfl ⟨nF o2 hp, x, upd_same, RepL.mono k ds q2⟩
  refine h1 _ _ _ _ (s2.trans s3) o3 ⟨by simp, ?_⟩
  show V.ref p = V.ref (if L2.length = L2.length then p else _)
  rw [if_pos rfl]

/-! ### built-ins by name -/
def rDn (K : Frag) (g : List D → Option D) : List V → Hp → VK → Prop := fun xs H Q => ∃ F ρ L ds d, Ok K F ρ H L ∧ RdrL K F H ds xs ∧ g ds = some d ∧
  ∀ F' H' z, Step F ρ H L F' ρ H' L → Ok K F' ρ H' L → Rep K F' H' d z → Q z H'
def opn (g : List D → Option D) (us : List U) (L : LS) : Rs U := opt (rdUs L us) fun ds => opt (g ds) fun d => .ok (.d d) L
def eFn (g : List D → Option D) (f : AF) : EF := fun st L => (f st L).bind fun us L1 => opn g us L1
theorem opn_ok {g : List D → Option D} {K : Frag} {W : WX} {σ : L2.St} {F : Addr → Prop} {ρ : Nat → Addr} {H : Hp} {L : LS} {us : List U} {vs : List V} {Q : VK} (o : Ok K F ρ H L) (px : RepUs K F ρ H L us vs) (h : GE RepU K W σ F ρ H L Q (opn g us L)) : rDn K g vs H Q := by
  obtain ⟨ds, e1, h⟩ := h.opt
  obtain ⟨d, e3, h⟩ := h.opt
  exact ⟨F, ρ, L, ds, d, o, rdrs_of o px e1, e3, fun F' H' z s o' r => h F' ρ H' z s o' r⟩
theorem CallR.toD {f : Value} {r : List V → Hp → VK → Prop} {g : List D → Option D} (h : CallR X f r)
    (q : ∀ F ρ L H ds d xs Q, Ok X.K F ρ H L → RdrL X.K F H ds xs → g ds = some d → (∀ F' H' z, Step F ρ H L F' ρ H' L → Ok X.K F' ρ H' L → Rep X.K F' H' d z → Q z H') → r xs H Q) : CallR X f (rDn X.K g) := by
  intro pins s σ H xs us Q I rs ⟨F, ρ, L, ds, d, o, r1, e, k⟩
  exact h pins s σ H xs us Q I rs (q F ρ L H ds d xs Q o r1 e k)
theorem ke_callB {x : Str} {id : String} {p : Pos} {g : List D → Option D} (hc : CallR X (.builtin id) (rDn X.K g)) (hm : X.mg x = none) (hv : bootBuiltins x = some (.builtin id)) (ha : KA X W (e :: es) f) (hg : Gl X x := by rfl) (hn : x ≠ "__name__" := by decide) (hdb : (x == ("__debug__" : Str)) = false := by decide)
    (he : starEach (e :: es) X.env = (false, eval e X.env) :: starEach es X.env := by rfl) (hpl : (backTo pos (starEach es X.env)).any (·.1) = false := by rfl) : KE X W (.Call (.Name x p) (e :: es) [] pos) (eFn g f) := by
  refine pe_wk (pe_callB hc hg hm hv ha hn hdb he hpl) fun σ H Q ⟨F, ρ, L, st, o, r, h⟩ => ?_
  refine RG.one o r h fun x H1 F1 ρ1 L1 u s1 o1 r1 p1 h1 => ?_
  exact opn_ok o1 p1 h1
theorem ke_callT {x : Str} {T : String} {p : Pos} {g : List D → Option D} (hc : CallR X (.type T) (rDn X.K g)) (hm : X.mg x = none) (hv : bootBuiltins x = some (.type T)) (ha : KA X W (e :: es) f) (hg : Gl X x := by rfl) (hn : x ≠ "__name__" := by decide) (hdb : (x == ("__debug__" : Str)) = false := by decide)
    (he : starEach (e :: es) X.env = (false, eval e X.env) :: starEach es X.env := by rfl) (hpl : (backTo pos (starEach es X.env)).any (·.1) = false := by rfl) : KE X W (.Call (.Name x p) (e :: es) [] pos) (eFn g f) := by
  refine pe_wk (pe_callTy hc hg hm hv ha hn hdb he hpl) fun σ H Q ⟨F, ρ, L, st, o, r, h⟩ => ?_
  refine RG.one o r h fun x H1 F1 ρ1 L1 u s1 o1 r1 p1 h1 => ?_
  exact opn_ok o1 p1 h1
end

/-! ### len, abs, int, str, list, tuple, all, any, isinstance -/
def lenD : List D → Option D
  | [.str x] => if x.length ≤ big then some (.int x.length) else none
  | [.lst xs] => some (.int xs.length)
  | [.tup xs] => some (.int xs.length)
  | [.dic ks _] => some (.int ks.length)
  | _ => none
def absD : List D → Option D
  | [.int i] => some (.int (if i < 0 then -i else i))
  | _ => none
def intD : List D → Option D
  | [.int i] => some (.int i)
  | [.bl b] => some (.int (if b then 1 else 0))
  | [.str x] => if x.length ≤ 640 then (PySem.intText? x).map .int else none
  | _ => none
def strD : List D → Option D
  | [.int i] => if i.natAbs.log2 < 1920 then some (.str (toString i)) else none
  | [.str x] => some (.str x)
  | _ => none
def listD : List D → Option D
  | [.lst xs] => some (.lst xs)
  | [.tup xs] => some (.lst xs)
  | [.scr ns] => some (.lst (ns.map .int))
  | _ => none
def tupleD : List D → Option D
  | [.lst xs] => some (.tup xs)
  | [.tup xs] => some (.tup xs)
  | _ => none
def blsD : List D → Option (List Bool)
  | [] => some []
  | .bl b :: ds => (blsD ds).map (b :: ·)
  | _ => none
def intsD : List D → Option (List Int)
  | [] => some []
  | .int b :: ds => (intsD ds).map (b :: ·)
  | _ => none
def strsD : List D → Option (List Str)
  | [] => some []
  | .str b :: ds => (strsD ds).map (b :: ·)
  | _ => none
def allD : List D → Option D
  | [.lst xs] => (blsD xs).map fun bs => .bl (bs.all id)
  | _ => none
def anyD : List D → Option D
  | [.lst xs] => (blsD xs).map fun bs => .bl (bs.any id)
  | _ => none
def sumD : List D → Option D
  | [.lst xs] => (intsD xs).map fun bs => .int bs.sum
  | _ => none
/-- the type of a value -/
def tyD : D → Option Value
  | .non => some (.type "NoneType")
  | .bl _ => some (.type "bool")
  | .int _ => some (.type "int")
  | .str _ => some (.type "str")
  | .lst _ => some (.type "list")
  | .tup _ => some (.type "tuple")
  | .dic _ _ => some (.type "dict")
  | .dit _ _ => some (.type "dict")
  | .ins C _ _ => some (.ref C)
  | .exc C _ _ => some (.ref C)
  | .ex0 c => some c
  | _ => none
def clsD : D → Option Value
  | .ty n => some (.type n)
  | .obj C => some (.ref C)
  | _ => none
def isiD (K : Frag) : List D → Option D
  | [x, c] => (tyD x).bind fun t => (clsD c).bind fun u => (PySem.W.kitOne K t u).map .bl
  | _ => none

section
variable {X : Cx} {K : Frag} {F : Addr → Prop} {H : Hp}
theorem RepL.bls : ∀ {ds : List D} {vs : List V} {bs : List Bool}, RepL K F H ds vs → blsD ds = some bs → vs = bs.map V.bl
  | [], _, _, h, e => by cases h; cases e; rfl
  | d :: ds, _, _, ⟨v, r, e1, h, t⟩, e => by
    subst e1
    cases d <;> simp only [blsD] at e <;> try cases e
    obtain ⟨bs, e2, rfl⟩ := Option.map_eq_some_iff.mp e
    cases h
    rw [RepL.bls t e2]
    rfl
theorem RepL.ints : ∀ {ds : List D} {vs : List V} {bs : List Int}, RepL K F H ds vs → intsD ds = some bs → vs = bs.map V.int
  | [], _, _, h, e => by cases h; cases e; rfl
  | d :: ds, _, _, ⟨v, r, e1, h, t⟩, e => by
    subst e1
    cases d <;> simp only [intsD] at e <;> try cases e
    obtain ⟨bs, e2, rfl⟩ := Option.map_eq_some_iff.mp e
    cases h
    rw [RepL.ints t e2]
    rfl
theorem RepL.strs : ∀ {ds : List D} {vs : List V} {bs : List Str}, RepL K F H ds vs → strsD ds = some bs → vs = bs.map V.str
  | [], _, _, h, e => by cases h; cases e; rfl
  | d :: ds, _, _, ⟨v, r, e1, h, t⟩, e => by
    subst e1
    cases d <;> simp only [strsD] at e <;> try cases e
    obtain ⟨bs, e2, rfl⟩ := Option.map_eq_some_iff.mp e
    cases h
    rw [RepL.strs t e2]
    rfl
theorem RepL.of_ints : ∀ (ns : List Int), RepL K F H (ns.map D.int) (ns.map V.int)
  | [] => rfl
  | n :: ns => ⟨_, _, rfl, rfl, RepL.of_ints ns⟩
theorem one_of {d : D} {xs : List V} (h : RdrL K F H [d] xs) : ∃ v, xs = [v] ∧ Rdr K F H d v := by
  obtain ⟨v, r, rfl, h, e⟩ := h
  cases e
  exact ⟨v, rfl, h⟩
theorem two_of {d e : D} {xs : List V} (h : RdrL K F H [d, e] xs) : ∃ v w, xs = [v, w] ∧ Rdr K F H d v ∧ Rdr K F H e w := by
  obtain ⟨v, r, rfl, h, w, t, rfl, h2, e⟩ := h
  cases e
  exact ⟨v, w, rfl, h, h2⟩
theorem cd_len : CallR X (.builtin "len") (rDn X.K lenD) := by
  refine CallR.toD (call_len.or call_lenD) fun F ρ L H ds d xs Q o r e k => ?_
  unfold lenD at e
  split at e <;> try cases e
  · rename_i x
    obtain ⟨v, rfl, h⟩ := one_of r
    cases h
    split at e
    · rename_i hz; cases e; exact .inl ⟨_, _, rfl, ⟨by rw [big_eq]; exact hz, rfl⟩, k F H _ Step.refl o rfl⟩
    · cases e
  · obtain ⟨v, rfl, a, vs, rfl, h, q⟩ := one_of r
    exact .inl ⟨_, _, rfl, .inl ⟨vs, .inl (.inl h), rfl⟩, by rw [q.length]; exact k F H _ Step.refl o rfl⟩
  · obtain ⟨v, rfl, a, vs, rfl, h, q⟩ := one_of r
    exact .inl ⟨_, _, rfl, .inr ⟨vs, h, rfl⟩, by rw [q.length]; exact k F H _ Step.refl o rfl⟩
  · obtain ⟨v, rfl, a, kvs, rfl, h, hk, q⟩ := one_of r
    subst hk
    refine .inr ⟨a, kvs, rfl, h, ?_⟩
    have z := k F H (.int ((kvs.map (fun x : Key × V => x.1)).length : Nat)) Step.refl o rfl
    rw [List.length_map] at z
    exact z
theorem cd_abs : CallR X (.builtin "abs") (rDn X.K absD) := by
  refine CallR.toD call_abs fun F ρ L H ds d xs Q o r e k => ?_
  unfold absD at e
  split at e <;> try cases e
  obtain ⟨v, rfl, h⟩ := one_of r
  cases h
  exact ⟨_, rfl, k F H _ Step.refl o rfl⟩
theorem cd_int : CallR X (.type "int") (rDn X.K intD) := by
  refine CallR.toD (call_int1.or call_int_str) fun F ρ L H ds d xs Q o r e k => ?_
  unfold intD at e
  split at e <;> try cases e
  · obtain ⟨v, rfl, h⟩ := one_of r
    cases h
    exact .inl (.inl ⟨_, rfl, k F H _ Step.refl o rfl⟩)
  · obtain ⟨v, rfl, h⟩ := one_of r
    cases h
    exact .inl (.inr ⟨_, rfl, k F H _ Step.refl o rfl⟩)
  · obtain ⟨v, rfl, h⟩ := one_of r
    cases h
    split at e
    · rename_i hz
      obtain ⟨n, e2, rfl⟩ := Option.map_eq_some_iff.mp e
      exact .inr ⟨_, _, rfl, e2, hz, k F H _ Step.refl o rfl⟩
    · cases e
theorem cd_str : CallR X (.type "str") (rDn X.K strD) := by
  refine CallR.toD (call_str_int.or SkE.call_str_str) fun F ρ L H ds d xs Q o r e k => ?_
  unfold strD at e
  split at e <;> try cases e
  · obtain ⟨v, rfl, h⟩ := one_of r
    cases h
    split at e
    · rename_i hz; cases e; exact .inl ⟨_, rfl, hz, k F H _ Step.refl o rfl⟩
    · cases e
  · obtain ⟨v, rfl, h⟩ := one_of r
    cases h
    exact .inr ⟨_, rfl, k F H _ Step.refl o rfl⟩
theorem cd_list : CallR X (.type "list") (rDn X.K listD) := by
  refine CallR.toD call_list_of fun F ρ L H ds d xs Q o r e k => ?_
  unfold listD at e
  split at e <;> try cases e
  · obtain ⟨v, rfl, a, vs, rfl, h, q⟩ := one_of r
    refine ⟨a, vs, rfl, .inl (.inl (.inl h)), fun l hl => ?_⟩
    obtain ⟨s, o'⟩ := new_ok o hl (.lst vs)
    exact k _ _ _ s o' (new_lst o hl q)
  · obtain ⟨v, rfl, a, vs, rfl, h, q⟩ := one_of r
    refine ⟨a, vs, rfl, .inr h, fun l hl => ?_⟩
    obtain ⟨s, o'⟩ := new_ok o hl (.lst vs)
    exact k _ _ _ s o' (new_lst o hl q)
  · rename_i ns
    obtain ⟨v, rfl, a, rfl, h⟩ := one_of r
    refine ⟨a, ns.map V.int, rfl, .inl h.sq, fun l hl => ?_⟩
    obtain ⟨s, o'⟩ := new_ok o hl (.lst (ns.map V.int))
    exact k _ _ _ s o' (new_lst o hl (RepL.of_ints ns))
theorem cd_all (hc : X.calm = true) : CallR X (.builtin "all") (rDn X.K allD) := by
  refine CallR.toD (cr_all hc) fun F ρ L H ds d xs Q o r e k => ?_
  unfold allD at e
  split at e <;> try cases e
  obtain ⟨v, rfl, a, vs, rfl, h, q⟩ := one_of r
  obtain ⟨bs, e2, rfl⟩ := Option.map_eq_some_iff.mp e
  have z := q.bls e2
  subst z
  exact ⟨a, bs, rfl, .inl (.inl h), k F H _ Step.refl o rfl⟩
theorem cd_any (hc : X.calm = true) : CallR X (.builtin "any") (rDn X.K anyD) := by
  refine CallR.toD (cr_any hc) fun F ρ L H ds d xs Q o r e k => ?_
  unfold anyD at e
  split at e <;> try cases e
  obtain ⟨v, rfl, a, vs, rfl, h, q⟩ := one_of r
  obtain ⟨bs, e2, rfl⟩ := Option.map_eq_some_iff.mp e
  have z := q.bls e2
  subst z
  exact ⟨a, bs, rfl, .inl (.inl h), k F H _ Step.refl o rfl⟩
theorem cd_sum (hc : X.calm = true) : CallR X (.builtin "sum") (rDn X.K sumD) := by
  refine CallR.toD (cr_sum hc) fun F ρ L H ds d xs Q o r e k => ?_
  unfold sumD at e
  split at e <;> try cases e
  obtain ⟨v, rfl, a, vs, rfl, h, q⟩ := one_of r
  obtain ⟨bs, e2, rfl⟩ := Option.map_eq_some_iff.mp e
  have z := q.ints e2
  subst z
  exact ⟨a, bs, rfl, .inl (.inl h), k F H _ Step.refl o rfl⟩
end
end VL

set_option Elab.async false
set_option linter.all false
set_option maxRecDepth 100000
set_option maxHeartbeats 4000000
namespace VL
open PySem PySem.Spec PyProof.Rows L2
open PySem.W (Frag)

/-! ### isinstance -/
section
variable {X : Cx} {pins : List (Addr × Obj)} {σ : L2.St} {H : Hp} {s : Shared} {F : Addr → Prop}
theorem exc_inst {a C d : Addr} {fs : List (Str × V)} (I : Inv X pins σ H s) (h1 : H a = some (.ext (ExcO a C d))) (h2 : H d = some (.xd fs)) :
    ∃ (oe od : Obj) (mA : Str → Option Value), PySem.W.InstAt s.heap a oe C (some od) ∧ (∀ f, RelO (fs.lookup f) (mA f)) ∧ ∀ name, PySem.W.lookIn name od = some (mA name) := by
  obtain ⟨⟨oe, vs, g1, g2, g3, g4⟩, _⟩ := I.hok a _ h1
  have hx : ObjOk X.prog X.w H s.heap d (.xd fs) := I.hok d _ h2
  obtain ⟨mA, hns, hr⟩ := hx
  obtain ⟨od, ho, hl⟩ := lookIn_ns hns
  exact ⟨oe, od, mA, ⟨g1, g2, by unfold PySem.W.notCls; rw [g4] <;> rfl, by rw [g3]; exact ho⟩, hr, hl⟩
theorem kit_D {d : D} {x : V} {u t : Value} (I : Inv X pins σ H s) (rx : RelV x u) (r : Rdr X.K F H d x) (e : tyD d = some t) : ∃ P : Heap → Prop, PySem.W.KitX X.K u t P ∧ P s.heap ∧ u ≠ .builtin "__main__.__loader__#opaque" := by
  cases d with
  | non => cases r; cases e; exact kit_of I rx (.base .non)
  | bl b => cases r; cases e; exact kit_of I rx (.base (.bl b))
  | int b => cases r; cases e; exact kit_of I rx (.base (.int b))
  | str b => cases r; cases e; exact kit_of I rx (.base (.str b))
  | lst xs => obtain ⟨a, vs, rfl, h, _⟩ := r; cases e; exact kit_of I rx (.base (.lst h))
  | tup xs =>
    obtain ⟨a, vs, rfl, h, _⟩ := r; cases e
    rcases h with (h | ⟨o, h⟩) | ⟨o, its, n, hk, hc, _⟩
    · exact kit_of I rx (.base (.tup h))
    · exact kit_of I rx (.fTuple h)
    · exact kit_of I rx (.kTuple hk hc)
  | dic ks xs => obtain ⟨a, vs, rfl, h, _⟩ := r; cases e; exact kit_of I rx (.base (.dK h))
  | dit ks xs => obtain ⟨a, vs, rfl, h, _⟩ := r; cases e; exact kit_of I rx (.base (.dT h))
  | ins C ns xs => obtain ⟨a, dx, fs, rfl, h, oc, _⟩ := r; cases e; exact kit_of I rx (.base (.ins h oc.cl oc.ha oc.hn oc.ht oc.hm))
  | exc C ns xs =>
    obtain ⟨a, dd, fs, rfl, _, _, h, h2, oc, _⟩ := r; cases e
    cases (show u = Value.ref a from rx)
    obtain ⟨oe, od, mA, J, _⟩ := exc_inst I h h2
    obtain ⟨cd, hc, _⟩ := PySem.W.any_some oc.hd
    exact ⟨_, PySem.W.kitx_exc (by rw [hc]; rfl) oc.hg oc.hk oc.hs oc.ha oc.hn oc.ht oc.hm, J, fun z => nomatch z⟩
  | ex0 c =>
    obtain ⟨a, rfl, _, h, oc⟩ := r
    cases (show u = Value.ref a from rx)
    obtain ⟨⟨oe, vs, g1, g2, g3, g4⟩, _⟩ := I.hok a _ h
    cases c with
    | ref C =>
      cases e
      have oc : ExcC X.K C := oc
      obtain ⟨cd, hc, _⟩ := PySem.W.any_some oc.hd
      exact ⟨_, PySem.W.kitx_exc (ox := oe) (od := none) (by rw [hc]; rfl) oc.hg oc.hk oc.hs oc.ha oc.hn oc.ht oc.hm, ⟨g1, g2, by unfold PySem.W.notCls; rw [g4] <;> rfl, by rw [g3]; trivial⟩, fun z => nomatch z⟩
    | type n =>
      cases e
      have oc : n = "ValueError" := oc
      subst oc
      exact ⟨_, PySem.W.kitx_bexc PySem.F.excAttr_ValueError (by rw [typeLookup_type, builtinLookup_eq_fast]; kernel_rfl) (by rw [isSubtype_type]; kernel_rfl) (by decide), ⟨oe, g1, g2⟩, fun z => nomatch z⟩
    | _ => exact False.elim oc
  | obj a => cases e
  | ty n => cases e
  | scr ns => cases e
theorem cls_D {d : D} {x : V} {w t : Value} (rx : RelV x w) (r : Rdr X.K F H d x) (e : clsD d = some t) : w = t := by
  cases d <;> simp only [clsD] at e <;> cases e
  · cases r; exact rx
  · cases r; exact rx
theorem cd_isi : CallR X (.builtin "isinstance") (rDn X.K (isiD X.K)) := by
  intro pins s σ H xs us Q I rs ⟨F, ρ, L, ds, d, o, r, e, k⟩
  unfold isiD at e
  split at e
  · rename_i x c
    obtain ⟨v, w, rfl, h1, h2⟩ := two_of r
    simp only [Option.bind_eq_some_iff, Option.map_eq_some_iff] at e
    obtain ⟨t, e1, u, e2, b, e3, rfl⟩ := e
    obtain ⟨u1, u2, rfl, r1, r2⟩ := vals2 rs
    have e4 := cls_D (X := X) r2 h2 e2
    subst e4
    obtain ⟨P, Z, p, hx⟩ := kit_D I r1 h1 e1
    exact PySem.W.kia_one Z I.kIn p e3 hx fun tk => ⟨.bl b, H, I.tok tk, rfl, k F H _ Step.refl o rfl⟩
  · cases e
end

/-! ### subscripts -/
def ixD : D → D → Option D
  | .lst xs, .int i => atI xs i
  | .tup xs, .int i => atI xs i
  | .str z, .int i => if z.length ≤ big then (atI z.cps.toList i).map fun c => .str ⟨#[c]⟩ else none
  | _, _ => none
theorem RepL.atI {K : Frag} {F : Addr → Prop} {H : Hp} {ds : List D} {vs : List V} (h : RepL K F H ds vs) {i : Int} {d : D} (e : atI ds i = some d) : ∃ v, L2.atI vs i = some v ∧ Rep K F H d v := by
  unfold L2.atI at e ⊢
  rw [h.length]
  obtain ⟨j, e1, e2⟩ := Option.bind_eq_some_iff.mp e
  obtain ⟨v, e3, r⟩ := h.get e2
  exact ⟨v, by rw [e1]; exact e3, r⟩
section
variable {X : Cx} {W : WX} {a b c e : Expr} {fa fb fc : EF} {pos : Pos}
theorem xd_seq : IxR X (rD2 X.K ixD) := by
  intro value slice pins s σ H x y v u Q I rx ry ⟨F, ρ, L, dx, dy, d, o, r1, r2, e, k⟩ hs
  refine ix_seq value slice pins s σ H x y v u Q I rx ry ?_ hs
  cases dx <;> cases dy <;> simp only [ixD] at e <;> try cases e
  · cases r1; cases r2
    split at e
    · rename_i hz
      obtain ⟨cc, e1, rfl⟩ := Option.map_eq_some_iff.mp e
      exact .inr (.inr ⟨_, _, cc, rfl, rfl, by rw [big_eq]; exact hz, e1, k F H _ Step.refl o rfl⟩)
    · cases e
  · obtain ⟨p, vs, rfl, h1, q1⟩ := r1
    cases r2
    obtain ⟨w, e2, rw'⟩ := q1.atI e
    exact .inl ⟨p, vs, _, w, rfl, rfl, .inl (.inl h1), e2, k F H _ Step.refl o rw'⟩
  · obtain ⟨p, vs, rfl, h1, q1⟩ := r1
    cases r2
    obtain ⟨w, e2, rw'⟩ := q1.atI e
    exact .inr (.inl ⟨p, vs, _, w, rfl, rfl, h1, e2, k F H _ Step.refl o rw'⟩)
theorem ke_ix {g : D → D → Option D} (hr : IxR X (rD2 X.K g)) (ha : KE X W a fa) (hb : KE X W b fb) (hs : PlainIx b := by exact fun _ _ => rfl) : KE X W (.Subscript a b pos) (eBin g fa fb) := pe_wk (pe_ix hr ha hb hs) fun σ H Q h => two_ok h

/-! ### slices -/
def cutG {α : Type} (xs : List α) (lo hi : Option Int) : List α := (xs.drop (HT.sIx xs.length 0 lo)).take (HT.sIx xs.length xs.length hi - HT.sIx xs.length 0 lo)
def sliceD : D → Option Int → Option Int → Option D
  | .str z, lo, hi => if z.length ≤ big then some (.str (cutS z lo hi)) else none
  | .lst xs, lo, hi => some (.lst (cutG xs lo hi))
  | .scr ns, lo, hi => some (.lst ((cutG ns lo hi).map .int))
  | _, _, _ => none
theorem RepL.cut {K : Frag} {F : Addr → Prop} {H : Hp} {ds : List D} {vs : List V} (h : RepL K F H ds vs) (lo hi : Option Int) : RepL K F H (cutG ds lo hi) (cutV vs lo hi) := by
  unfold cutG cutV
  rw [h.length]
  exact (h.drop _).take _
theorem cut_map {α β : Type} (f : α → β) (xs : List α) (lo hi : Option Int) : cutG (xs.map f) lo hi = (cutG xs lo hi).map f := by
  unfold cutG
  rw [List.length_map, List.map_take, List.map_drop]
abbrev OF := SS → LS → Rs (Option Int)
def PI' : PP (Option Int) (Option Int) := fun _ _ _ _ _ a b => a = b
abbrev KO (X : Cx) (W : WX) (e : Option Expr) (f : OF) : Prop := PO X e (RG PI' X.K W f)
def oNone : OF := fun _ L => .ok none L
def oSome (fa : EF) : OF := fun st L => (fa st L).bind fun x L1 => match x with
  | .d (.int i) => .ok (some i) L1
  | _ => .no
theorem po_wk {e : Option Expr} {t t' : TO} (h : PO X e t) (i : ∀ σ H Q, t' σ H Q → t σ H Q) : PO X e t' := ⟨fun pins s σ H Q I q => h.run pins s σ H Q I (i σ H Q q)⟩
theorem ko_none : KO X W none oNone := po_wk po_none fun σ H Q ⟨F, ρ, L, st, o, r, h⟩ => h.fin (b := none) o rfl
theorem ko_some (ha : KE X W a fa) : KO X W (some a) (oSome fa) := by
  refine po_wk (po_some ha) fun σ H Q ⟨F, ρ, L, st, o, r, h⟩ => ?_
  refine RG.one o r h fun x H1 F1 ρ1 L1 u s1 o1 r1 p1 h1 => ?_
  split at h1
  · exact ⟨_, p1, h1.fin o1 rfl⟩
  · exact h1.elim
def eSl (fa : EF) (fl fh : OF) : EF := fun st L => (fa st L).bind fun x L1 => (fl st L1).bind fun lo L2 => (fh st L2).bind fun hi L3 => opt (rdU L3 x) fun d => opt (sliceD d lo hi) fun r => .ok (.d r) L3
theorem ke_slice {lo hi : Option Expr} {fl fh : OF} {p2 : Pos} (ha : KE X W a fa) (hl : KO X W lo fl) (hh : KO X W hi fh) : KE X W (.Subscript a (.Slice lo hi none p2) pos) (eSl fa fl fh) := by
  refine pe_wk (pe_slice (sl_str.or sl_list) ha hl hh) fun σ H Q ⟨F, ρ, L, st, o, r, h⟩ => ?_
  refine RG.one o r h fun x H1 F1 ρ1 L1 u s1 o1 r1 p1 h1 => ?_
  refine RG.one (P := PI') o1 r1 h1 fun y H2 F2 ρ2 L2 u2 s2 o2 r2 p2 h2 => ?_
  refine RG.one (P := PI') o2 r2 h2 fun z H3 F3 ρ3 L3 u3 s3 o3 r3 p3 h3 => ?_
  obtain rfl : u2 = y := p2
  obtain rfl : u3 = z := p3
  obtain ⟨d, e1, h3⟩ := h3.opt
  obtain ⟨rr, e2, h3⟩ := h3.opt
  have rd := rdr_of o3 ((p1.mono s2).mono s3) e1
  cases d with
  | str zz =>
    cases rd
    have e2 : (if zz.length ≤ big then some (D.str (cutS zz u2 u3)) else none) = some rr := e2
    split at e2
    · rename_i hz; cases e2; exact .inl ⟨_, rfl, by rw [big_eq]; exact hz, h3.finD o3 rfl⟩
    · cases e2
  | lst xs =>
    cases e2
    obtain ⟨p, vs, rfl, g1, q1⟩ := rd
    refine .inr ⟨p, vs, rfl, .inl (.inl g1), fun t ht => ?_⟩
    obtain ⟨s4, o4⟩ := new_ok o3 ht (.lst (cutV vs u2 u3))
    exact h3 _ _ _ _ s4 o4 (new_lst o3 ht (q1.cut u2 u3))
  | scr ns =>
    cases e2
    obtain ⟨p, rfl, g1⟩ := rd
    refine .inr ⟨p, ns.map V.int, rfl, g1.sq, fun t ht => ?_⟩
    obtain ⟨s4, o4⟩ := new_ok o3 ht (.lst (cutV (ns.map V.int) u2 u3))
    refine h3 _ _ _ _ s4 o4 (new_lst o3 ht ?_)
    have z := (RepL.of_ints (K := X.K) (F := F3) (H := H3) ns).cut u2 u3
    rw [cut_map] at z
    exact z
  | _ => cases e2

/-! ### fields -/
def lookF (ns : List Str) (xs : List D) (f : Str) : Option D := (ns.zip xs).lookup f
def fldD (K : Frag) (f : Str) : D → Option D
  | .ins C ns xs => (match PySem.W.findIn K (.ref C) f with
    | some none => lookF ns xs f
    | _ => none)
  | .exc C ns xs => (match PySem.W.findIn K (.ref C) f with
    | some none => lookF ns xs f
    | _ => none)
  | _ => none
theorem lookF_ok {K : Frag} {F : Addr → Prop} {H : Hp} {f : Str} : ∀ {fs : List (Str × V)} {xs : List D} {d : D}, RepL K F H xs (fs.map (·.2)) → lookF (fs.map (·.1)) xs f = some d → ∃ v, fs.lookup f = some v ∧ Rep K F H d v
  | [], xs, d, _, e => by simp [lookF] at e
  | (n, v) :: fs, [], d, _, e => by simp [lookF] at e
  | (n, v) :: fs, x :: xs, d, ⟨v', r, e1, h, t⟩, e => by
    simp only [List.map_cons] at e1
    obtain ⟨rfl, rfl⟩ := List.cons.inj e1
    simp only [lookF, List.map_cons, List.zip_cons_cons, List.lookup_cons] at e ⊢
    split at e
    · cases e; exact ⟨v, rfl, h⟩
    · exact lookF_ok t e
theorem ke_fld {f : Str} (ha : KE X W a fa) (hb : attributeBase a f X.env (eval a X.env) = eval a X.env := by rfl) : KE X W (.Attribute a f pos) (eUn (fldD X.K f) fa) := by
  refine ⟨fun pins s σ H Q I ⟨F, ρ, L, st, o, r, h⟩ => ?_⟩
  refine attr_of hb (thn (PE.run ha pins s σ H _ I (RG.one (Q' := Nx RepU RepU X.K W σ F ρ H L Q fun x L1 => op1 (fldD X.K f) x L1) o r h fun x H1 F1 ρ1 L1 u s1 o1 r1 p1 h1 => ⟨F1, ρ1, L1, u, s1, o1, p1, h1⟩)) fun u s1 ⟨x, H1, I1, rx, F1, ρ1, L1, uu, st1, o1, p1, h1⟩ => ?_)
  obtain ⟨d, e1, h1⟩ := h1.opt
  obtain ⟨rr, e2, h9⟩ := h1.opt
  have rd := rdr_of o1 p1 e1
  cases d <;> simp only [fldD] at e2 <;> try cases e2
  · rename_i C ns xs
    obtain ⟨p, dx, fs, rfl, g1, oc, rfl, q⟩ := rd
    split at e2
    · rename_i hn
      obtain ⟨v, l, rv⟩ := lookF_ok q e2
      obtain rfl : u = Value.ref p := rx
      exact getattr_ok I1 g1 oc.cl hn l fun u' s2 I2 ru => ⟨v, H1, I2, ru, h9.finD o1 rv⟩
    · cases e2
  · rename_i C ns xs
    obtain ⟨p, dd, fs, rfl, f1, f2, g1, g2, oc, rfl, q⟩ := rd
    split at e2
    · rename_i hn
      obtain ⟨v, l, rv⟩ := lookF_ok q e2
      obtain rfl : u = Value.ref p := rx
      obtain ⟨oe, od, mA, J, hr, hl⟩ := exc_inst I1 g1 g2
      obtain ⟨w, hw, rw'⟩ := RelO.some_of (v := v) (o := mA f) (by rw [← l]; exact hr f)
      exact HandSPX.exc_get I1.kIn J oc.hg oc.hk oc.hs (PySem.W.findObj_own oc.hd hn rfl (by rw [hl, hw])) (handed_of rw') ⟨v, H1, I1.tok _, rw', h9.finD o1 rv⟩
    · cases e2

/-! ### sep.join(list of texts) -/
def joinD : D → D → Option D
  | .str a, .lst xs => (strsD xs).bind fun ys => if (ys.map (·.length)).sum + ys.length * a.length ≤ 16777216 then some (.str (Txt.join a ys)) else none
  | _, _ => none
def eJoin (fa fb : EF) : EF := fun st L => (fa st L).bind fun x L1 => match x with
  | .d (.str z) => (fb st L1).bind fun y L2 => op2 joinD x y L2
  | _ => .no
theorem ke_join {apos : Pos} (ha : KE X W a fa) (hb : KE X W b fb) (hs : starEach [b] X.env = [(false, eval b X.env)] := by rfl) (hbase : attributeBase a "join" X.env (eval a X.env) = eval a X.env := by rfl) (hline : (apos.endLine == pos.line) = true := by rfl) :
    KE X W (.Call (.Attribute a "join" apos) [b] [] pos) (eJoin fa fb) := by
  refine pe_wk (pe_join ha hb hs hbase hline) fun σ H Q ⟨F, ρ, L, st, o, r, h⟩ => ?_
  refine RG.one o r h fun x H1 F1 ρ1 L1 u s1 o1 r1 p1 h1 => ?_
  split at h1
  · rename_i z
    obtain rfl : x = .str z := p1
    refine ⟨⟨z, rfl⟩, RG.one o1 r1 h1 fun y H2 F2 ρ2 L2 u2 s2 o2 r2 p2 h2 => ?_⟩
    obtain ⟨dx, e1, h2⟩ := h2.opt
    cases e1
    obtain ⟨dy, e2, h2⟩ := h2.opt
    obtain ⟨d, e3, h2⟩ := h2.opt
    have rd := rdr_of o2 p2 e2
    cases dy <;> simp only [joinD] at e3 <;> try cases e3
    obtain ⟨ys, e4, e5⟩ := Option.bind_eq_some_iff.mp e3
    obtain ⟨p, vs, rfl, g1, q1⟩ := rd
    split at e5
    · rename_i hz
      cases e5
      have z2 := q1.strs e4
      subst z2
      exact ⟨z, p, ys, rfl, rfl, .inl (.inl (.inl g1)), hz, h2.finD o2 rfl⟩
    · cases e5
  · exact h1.elim
end
end VL

set_option Elab.async false
set_option linter.all false
set_option maxRecDepth 100000
set_option maxHeartbeats 4000000
namespace VL
open PySem PySem.Spec PyProof.Rows L2
open PySem.W (Frag)

/-- how a statement ends -/
inductive Rt where
  | nx (st : SS) (L : LS) | rt (u : U) (L : LS) | bk (st : SS) (L : LS) | ct (st : SS) (L : LS)
  | ex (C : Addr) (ns : List Str) (xs : List D) (st : SS) (L : LS) | no
abbrev SF := SS → LS → Rt
@[simp] def Rt.andThen : Rt → SF → Rt
  | .nx st L, g => g st L
  | r, _ => r
@[simp] def ofR {α : Type} : Rs α → SS → (α → LS → Rt) → Rt
  | .ok a L, _, k => k a L
  | .ex C ns xs L, st, _ => .ex C ns xs st L
  | .no, _, _ => .no
@[simp] def optS {α : Type} : Option α → (α → Rt) → Rt
  | some a, k => k a
  | none, _ => .no

def GS (K : Frag) (W : WX) (E : Ends) (F : Addr → Prop) (ρ : Nat → Addr) (H : Hp) (L : LS) : Rt → Prop
  | .nx st' L' => ∀ F' ρ' H' σ', Step F ρ H L F' ρ' H' L' → Ok K F' ρ' H' L' → RepSt K F' ρ' H' L' σ' st' → E.nx σ' H'
  | .bk st' L' => ∀ F' ρ' H' σ', Step F ρ H L F' ρ' H' L' → Ok K F' ρ' H' L' → RepSt K F' ρ' H' L' σ' st' → E.bk σ' H'
  | .ct st' L' => ∀ F' ρ' H' σ', Step F ρ H L F' ρ' H' L' → Ok K F' ρ' H' L' → RepSt K F' ρ' H' L' σ' st' → E.ct σ' H'
  | .rt u L' => ∀ F' ρ' H' v, Step F ρ H L F' ρ' H' L' → Ok K F' ρ' H' L' → RepU K F' ρ' H' L' u v → E.rt v H'
  | .ex C ns xs st' L' => ∀ F' ρ' H' σ' d, Step F ρ H L F' ρ' H' L' → Ok K F' ρ' H' L' → RepSt K F' ρ' H' L' σ' st' → Thrown K F' H' ns xs d → W (.ref C) d σ' H'
  | .no => False
def RS (K : Frag) (W : WX) (f : SF) : TS := fun E σ H => ∃ F ρ L st, Ok K F ρ H L ∧ RepSt K F ρ H L σ st ∧ GS K W E F ρ H L (f st L)
abbrev KS (X : Cx) (W : WX) (s : Stmt) (f : SF) : Prop := PS X s (RS X.K W f)
abbrev KSs (X : Cx) (W : WX) (s : List Stmt) (f : SF) : Prop := PSs X s (RS X.K W f)

section
variable {K : Frag} {W : WX} {E : Ends} {σ : L2.St} {F F' : Addr → Prop} {ρ ρ' : Nat → Addr} {H H' : Hp} {L L' : LS}
theorem GS.on {x : Rt} (s : Step F ρ H L F' ρ' H' L') (h : GS K W E F ρ H L x) : GS K W E F' ρ' H' L' x := by
  cases x with
  | nx st L2 => exact fun F2 ρ2 H2 b s2 => h F2 ρ2 H2 b (s.trans s2)
  | bk st L2 => exact fun F2 ρ2 H2 b s2 => h F2 ρ2 H2 b (s.trans s2)
  | ct st L2 => exact fun F2 ρ2 H2 b s2 => h F2 ρ2 H2 b (s.trans s2)
  | rt u L2 => exact fun F2 ρ2 H2 b s2 => h F2 ρ2 H2 b (s.trans s2)
  | ex C ns xs st L2 => exact fun F2 ρ2 H2 σ2 d s2 => h F2 ρ2 H2 σ2 d (s.trans s2)
  | no => exact h
theorem GS.nxt {st : SS} (h : GS K W E F ρ H L (.nx st L)) (o : Ok K F ρ H L) (r : RepSt K F ρ H L σ st) : E.nx σ H := h F ρ H σ Step.refl o r
/-- an expression read within a statement -/
theorem RS.one {α β : Type} {P : PP α β} {f : SS → LS → Rs α} {st : SS} {Q' : β → Hp → Prop} {g : α → LS → Rt} (o : Ok K F ρ H L) (r : RepSt K F ρ H L σ st) (h : GS K W E F ρ H L (ofR (f st L) st g))
    (q : ∀ b H1 F1 ρ1 L1 a, Step F ρ H L F1 ρ1 H1 L1 → Ok K F1 ρ1 H1 L1 → RepSt K F1 ρ1 H1 L1 σ st → P K F1 ρ1 H1 L1 a b → GS K W E F1 ρ1 H1 L1 (g a L1) → Q' b H1) : RG P K W f σ H Q' := by
  refine ⟨F, ρ, L, st, o, r, ?_⟩
  cases e : f st L with
  | ok a L1 =>
    rw [e] at h
    exact fun F1 ρ1 H1 b s1 o1 p1 => q b H1 F1 ρ1 L1 a s1 o1 (r.mono s1) p1 (GS.on s1 h)
  | ex C ns xs L1 =>
    rw [e] at h
    exact fun F1 ρ1 H1 d s1 o1 t => h F1 ρ1 H1 σ d s1 o1 (r.mono s1) t
  | no => rw [e] at h; exact h
theorem GS.optS {α : Type} {x : Option α} {f : α → Rt} (h : GS K W E F ρ H L (optS x f)) : ∃ a, x = some a ∧ GS K W E F ρ H L (f a) := by
  cases x with
  | some a => exact ⟨a, rfl, h⟩
  | none => exact h.elim
end

section
variable {X : Cx} {W : WX} {a b c e o : Expr} {fa fb fc fe : EF} {tc : TF} {pos : Pos} {st : Stmt} {rest : List Stmt} {f g : SF}
/-! ### blocks -/
def sNil : SF := fun st L => .nx st L
def sSeq (f g : SF) : SF := fun st L => (f st L).andThen g
theorem kss_nil : KSs X W [] sNil := pss_wk pss_nil fun D σ H ⟨F, ρ, L, st, o, r, h⟩ => h.nxt o r
theorem kss_cons (h1 : KS X W st f) (h2 : KSs X W rest g) : KSs X W (st :: rest) (sSeq f g) := by
  refine pss_wk (pss_cons h1 h2) fun D σ H ⟨F, ρ, L, st, o, r, h⟩ => ⟨F, ρ, L, st, o, r, ?_⟩
  unfold sSeq at h
  cases e : f st L with
  | nx st2 L2 =>
    rw [e] at h
    exact fun F2 ρ2 H2 σ2 s2 o2 r2 => ⟨F2, ρ2, L2, st2, o2, r2, GS.on s2 h⟩
  | bk st2 L2 => rw [e] at h; exact h
  | ct st2 L2 => rw [e] at h; exact h
  | rt u L2 => rw [e] at h; exact h
  | ex C ns xs st2 L2 => rw [e] at h; exact h
  | no => rw [e] at h; exact h
theorem kss_one (h1 : KS X W st f) : KSs X W [st] f := pss_one h1
theorem ks_pass : KS X W (.Pass pos) sNil := ps_wk ps_pass fun D σ H ⟨F, ρ, L, st, o, r, h⟩ => h.nxt o r
theorem ks_break : KS X W (.Break pos) (fun st L => .bk st L) := ps_wk ps_break fun D σ H ⟨F, ρ, L, st, o, r, h⟩ => h F ρ H σ Step.refl o r
theorem ks_continue : KS X W (.Continue pos) (fun st L => .ct st L) := ps_wk ps_continue fun D σ H ⟨F, ρ, L, st, o, r, h⟩ => h F ρ H σ Step.refl o r
theorem ks_never : KS X W st (fun _ _ => .no) := ps_wk ps_never fun D σ H ⟨F, ρ, L, st, o, r, h⟩ => h
def sDrop (fe : EF) : SF := fun st L => ofR (fe st L) st fun _ L1 => .nx st L1
theorem ks_expr (he : KE X W e fe) (hs : swapsWith e none pos.line X.env = pure false := by rfl) : KS X W (.Expr e pos) (sDrop fe) := by
  refine ps_wk (ps_expr he hs) fun D σ H ⟨F, ρ, L, st, o, r, h⟩ => ?_
  refine RS.one o r h fun x H1 F1 ρ1 L1 u s1 o1 r1 p1 h1 => ?_
  exact h1.nxt o1 r1
def sRet (fe : EF) : SF := fun st L => ofR (fe st L) st fun u L1 => .rt u L1
theorem ks_ret (he : KE X W e fe) : KS X W (.Return (some e) pos) (sRet fe) := by
  refine ps_wk (ps_ret he) fun D σ H ⟨F, ρ, L, st, o, r, h⟩ => ?_
  refine RS.one o r h fun x H1 F1 ρ1 L1 u s1 o1 r1 p1 h1 => ?_
  exact h1 F1 ρ1 H1 x Step.refl o1 p1
theorem ks_retN : KS X W (.Return none pos) (fun _ L => .rt (.d .non) L) := ps_wk ps_retN fun D σ H ⟨F, ρ, L, st, o, r, h⟩ => h F ρ H .non Step.refl o rfl
def sIf (t : TF) (f g : SF) : SF := fun st L => ofR (t st L) st fun k L1 => if k then f st L1 else g st L1
theorem ks_if {sa sb : List Stmt} (hc : KB X W c tc) (ha : KSs X W sa f) (hb : KSs X W sb g) : KS X W (.If c sa sb pos) (sIf tc f g) := by
  refine ps_wk (ps_if hc ha hb) fun D σ H ⟨F, ρ, L, st, o, r, h⟩ => ?_
  refine RS.one (P := PB) o r h fun x H1 F1 ρ1 L1 u s1 o1 r1 p1 h1 => ?_
  obtain rfl : u = x := p1
  cases u with
  | true => exact iteT ⟨F1, ρ1, L1, st, o1, r1, h1⟩
  | false => exact iteF ⟨F1, ρ1, L1, st, o1, r1, h1⟩
/-! ### x = e -/
def sSet (i : Nat) (fe : EF) : SF := fun st L => ofR (fe st L) st fun u L1 => .nx (st.set i (some u)) L1
theorem ks_set (i : Nat) {x : Str} {pos' : Pos} (hN : X.N.Nodup) (he : KE X W e fe) (hi : X.N[i]? = some x := by rfl) (hx : Loc X.env.scope x := by first | exact Or.inl rfl | exact Or.inr rfl) (hs : swapsWith e (some (.Name x pos')) pos.line X.env = pure false := by rfl)
    (hf : X.fn x = true ∨ X.env.scope.names.lookup x = some .local := by first | exact .inl rfl | exact .inr rfl | assumption) : KS X W (.Assign [.Name x pos'] e pos) (sSet i fe) := by
  refine ps_wk (ps_set hN hi hx he hs hf) fun D σ H ⟨F, ρ, L, st, o, r, h⟩ => ?_
  refine RS.one o r h fun x H1 F1 ρ1 L1 u s1 o1 r1 p1 h1 => ?_
  exact h1.nxt o1 (r1.set i p1)
/-- a, b = x, y -/
def sPar (i j : Nat) (fa : AF) : SF := fun st L => ofR (fa st L) st fun us L1 => match us with
  | [u, v] => .nx ((st.set i (some u)).set j (some v)) L1
  | _ => .no
theorem ks_par (i j : Nat) {x y : Str} {fa : AF} {px py pt : Pos} {kt k2 pt2} (hN : X.N.Nodup) (ha : KA X W [a, b] fa)
    (hc : X.calm = true := by rfl) (hi : X.N[i]? = some x := by rfl) (hj : X.N[j]? = some y := by rfl) (hij : i ≠ j := by decide)
    (hx : X.env.scope.names.lookup x = some .local := by rfl) (hy : X.env.scope.names.lookup y = some .local := by rfl)
    (hw : swappedStores [.Tuple [.Name x px, .Name y py] kt pt] (.Tuple [a, b] k2 pt2) X.env = pure (some [x, y]) := by rfl)
    (hs : swapsWithSole [.Tuple [.Name x px, .Name y py] kt pt] (.Tuple [a, b] k2 pt2) pos.line X.env = pure false := by rfl) :
    KS X W (.Assign [.Tuple [.Name x px, .Name y py] kt pt] (.Tuple [a, b] k2 pt2) pos) (sPar i j fa) := by
  refine ps_wk (ps_par hc hN hi hj hij hx hy ha hw hs) fun D σ H ⟨F, ρ, L, st, o, r, h⟩ => ?_
  refine RS.one (P := RepUs) o r h fun vs H1 F1 ρ1 L1 us s1 o1 r1 p1 h1 => ?_
  split at h1
  · rename_i u v
    obtain ⟨v1, t1, rfl, q1, v2, t2, rfl, q2, e⟩ := p1
    cases e
    exact ⟨v1, v2, rfl, h1.nxt o1 ((r1.set i q1).set j q2)⟩
  · exact h1.elim

/-! ### targets -/
theorem wipe_set (σ : L2.St) (i : Nat) : ∀ vs : List Nat, (wipe σ vs).set i none = wipe (σ.set i none) vs
  | [] => rfl
  | v :: vs => by
    show ((wipe σ vs).set v none).set i none = (wipe (σ.set i none) vs).set v none
    rw [← wipe_set σ i vs]
    by_cases h : v = i
    · subst h; rfl
    · rw [List.set_comm _ _ h]
theorem wipe_app (σ : L2.St) : ∀ a b : List Nat, wipe σ (a ++ b) = wipe (wipe σ b) a
  | [], _ => rfl
  | v :: a, b => by
    show (wipe σ (a ++ b)).set v none = (wipe (wipe σ b) a).set v none
    rw [wipe_app σ a b]
theorem wipe_comm (σ : L2.St) (b : List Nat) : ∀ a : List Nat, wipe (wipe σ b) a = wipe (wipe σ a) b
  | [] => rfl
  | v :: a => by
    show (wipe (wipe σ b) a).set v none = wipe ((wipe σ a).set v none) b
    rw [wipe_comm σ b a, wipe_set]
abbrev TgF := D → SS → Option SS
def RT (K : Frag) (is : List Nat) (tf : TgF) : TG := fun v σ H Q => ∃ F ρ L st d st', Ok K F ρ H L ∧ RepSt K F ρ H L σ st ∧ Rep K F H d v ∧ tf d st = some st' ∧ ∀ σ', RepSt K F ρ H L σ' st' → wipe σ' is = wipe σ is → Q σ' H
/-- is: the slots that are stored to -/
abbrev KG (X : Cx) (tg : Expr) (is : List Nat) (tf : TgF) : Prop := PG X tg (RT X.K is tf)
theorem pg_wk {tg : Expr} {t t' : TG} (h : PG X tg t) (i : ∀ v σ H Q, t' v σ H Q → t v σ H Q) : PG X tg t' := ⟨fun pins s σ H v u Q I r q => h.run pins s σ H v u Q I r (i v σ H Q q)⟩
def tfName (i : Nat) : TgF := fun d st => some (st.set i (some (.d d)))
theorem kg_name (i : Nat) {x : Str} (hN : X.N.Nodup) (hi : X.N[i]? = some x := by rfl) (hx : Loc X.env.scope x := by first | exact Or.inl rfl | exact Or.inr rfl) (hf : X.fn x = true ∨ X.env.scope.names.lookup x = some .local := by first | exact .inl rfl | exact .inr rfl | assumption) : KG X (.Name x pos) [i] (tfName i) := by
  refine pg_wk (pg_name hN hi hx hf) fun v σ H Q ⟨F, ρ, L, st, d, st', o, r, p, e, k⟩ => ?_
  cases e
  refine k _ (r.set i (show RepU X.K F ρ H L (.d d) v from p)) ?_
  show (σ.set i (some v)).set i none = σ.set i none
  simp
/-- (a, b, ..), names or tuples of names again -/
abbrev TgsF := List D → SS → Option SS
def RTs (K : Frag) (is : List Nat) (tf : TgsF) : TGs := fun vs σ H Q => ∃ F ρ L st ds st', Ok K F ρ H L ∧ RepSt K F ρ H L σ st ∧ RepL K F H ds vs ∧ tf ds st = some st' ∧ ∀ σ', RepSt K F ρ H L σ' st' → wipe σ' is = wipe σ is → Q σ' H
abbrev KGs (X : Cx) (tgs : List Expr) (is : List Nat) (tf : TgsF) : Prop := PGs X tgs (RTs X.K is tf)
theorem pgs_wk {tg : List Expr} {t t' : TGs} (h : PGs X tg t) (i : ∀ v σ H Q, t' v σ H Q → t v σ H Q) : PGs X tg t' := ⟨fun pins s σ H v u Q I r q => h.run pins s σ H v u Q I r (i v σ H Q q)⟩
def tfNil : TgsF := fun ds st => match ds with
  | [] => some st
  | _ => none
def tfCons (t : TgF) (u : TgsF) : TgsF := fun ds st => match ds with
  | d :: r => (t d st).bind fun st1 => u r st1
  | [] => none
theorem kgs_nil : KGs X [] [] tfNil := by
  refine pgs_wk pgs_nil fun v σ H Q ⟨F, ρ, L, st, ds, st', o, r, p, e, k⟩ => ?_
  cases ds with
  | nil => cases p; cases e; exact ⟨rfl, k _ r rfl⟩
  | cons d ds => cases e
theorem kgs_cons {e : Expr} {es : List Expr} {is js : List Nat} {t : TgF} {u : TgsF} (h1 : KG X e is t) (h2 : KGs X es js u) (hs : (assignEach (e :: es) X.env).map (·.2) = assign e X.env :: (assignEach es X.env).map (·.2) := by rfl) : KGs X (e :: es) (is ++ js) (tfCons t u) := by
  refine pgs_wk (pgs_cons h1 h2 hs) fun v σ H Q ⟨F, ρ, L, st, ds, st', o, r, p, e, k⟩ => ?_
  cases ds with
  | nil => cases e
  | cons d ds =>
    obtain ⟨v1, vr, rfl, q1, q2⟩ := p
    obtain ⟨st1, e1, e2⟩ := Option.bind_eq_some_iff.mp e
    refine ⟨v1, vr, rfl, F, ρ, L, st, d, st1, o, r, q1, e1, fun σ1 r1 w1 => ⟨F, ρ, L, st1, ds, st', o, r1, q2, e2, fun σ2 r2 w2 => k σ2 r2 ?_⟩⟩
    rw [wipe_app, wipe_app, w2, wipe_comm, w1, wipe_comm]
def tfTup (n : Nat) (u : TgsF) : TgF := fun d st => match d with
  | .tup ds => if ds.length = n then u ds st else none
  | _ => none
theorem kg_tup {es : List Expr} {kk : Nat} {is : List Nat} {u : TgsF} {n : Nat} (h : KGs X es is u) (hc : X.calm = true := by rfl) (hn : (assignEach es X.env).length = n := by rfl) (hst : (assignEach es X.env).findIdx? (·.1) = none := by rfl) : KG X (.Tuple es kk pos) is (tfTup n u) := by
  refine pg_wk (pg_tup hc h hn hst) fun v σ H Q ⟨F, ρ, L, st, d, st', o, r, p, e, k⟩ => ?_
  unfold tfTup at e
  split at e
  · rename_i ds
    obtain ⟨a, vs, rfl, g, q⟩ := p
    split at e
    · rename_i hl
      exact ⟨a, vs, rfl, g.sq, by rw [q.length]; exact hl, F, ρ, L, st, ds, st', o, r, q, e, k⟩
    · cases e
  · cases e
/-- (a, b, ..) = e -/
def sAsg (tf : TgF) (fe : EF) : SF := fun st L => ofR (fe st L) st fun u L1 => optS (fzU L1 u) fun p => optS (tf p.1 st) fun st' => .nx st' p.2
theorem ks_asg {tg : Expr} {is : List Nat} {tf : TgF} (he : KE X W e fe) (hg : KG X tg is tf) (hs : swapsWithSole [tg] e pos.line X.env = pure false := by rfl) (hw : swappedStores [tg] e X.env = pure none := by rfl) (h1 : (assignEach [tg] X.env).map (·.2) = [assign tg X.env] := by rfl) : KS X W (.Assign [tg] e pos) (sAsg tf fe) := by
  refine ps_wk (ps_asg he hg hs hw h1) fun D σ H ⟨F, ρ, L, st, o, r, h⟩ => ?_
  refine RS.one o r h fun x H1 F1 ρ1 L1 u s1 o1 r1 p1 h1 => ?_
  obtain ⟨⟨d, L2⟩, e1, h1⟩ := h1.optS
  obtain ⟨st', e2, h1⟩ := h1.optS
  obtain ⟨F2, s2, o2, q2⟩ := fzU_ok o1 p1 e1
  exact ⟨F2, ρ1, L2, st, d, st', o2, r1.mono s2, q2, e2, fun σ' r' _ => h1 F2 ρ1 H1 σ' s2 o2 r'⟩

/-! ### x[i] = e, on a list that still changes -/
theorem put_live {K : Frag} {F : Addr → Prop} {ρ : Nat → Addr} {H : Hp} {L : LS} (o : Ok K F ρ H L) {n : Nat} {lo lo' : LO} {u : HO} (e : L[n]? = some lo) (on : lo.on = true) (on' : lo'.on = true) (h : ∀ (k : ∀ a, F a → F a ∧ upd H (ρ n) u a = H a), ¬ F (ρ n) → LAt K F (upd H (ρ n) u) (ρ n) lo') :
    Step F ρ H L F ρ (upd H (ρ n) u) (L.set n lo') ∧ Ok K F ρ (upd H (ρ n) u) (L.set n lo') := by
  have hn : n < L.length := (List.getElem?_eq_some_iff.mp e).1
  have nf : ¬ F (ρ n) := by
    have h := o.at_ n lo e
    cases lo with
    | l xs => exact h.1
    | d ks xs => exact h.1
    | t ks xs => exact h.1
    | i C ns xs => exact h.1
    | z d => cases on
  have k : ∀ a, F a → F a ∧ upd H (ρ n) u a = H a := fun a f => ⟨f, upd_ne fun z => nf (z ▸ f)⟩
  have ne : ∀ {m l2}, L[m]? = some l2 → l2.on = true → m ≠ n → ρ m ≠ ρ n := fun {m l2} e2 t hm z => hm (o.inj m n l2 lo e2 e t on z)
  refine ⟨⟨k, by simp, fun _ _ => rfl, fun a w e2 hv => by rw [upd_ne fun z => hv ⟨n, lo, e, on, z.symm⟩]; exact e2, fun m l2 h q _ => ?_, fun m l2 h q t => ?_, fun a h => ?_, fun a f => .inl f⟩, ⟨fun m l2 q => ?_, fun m j l2 l3 q1 q2 t1 t2 q => ?_, fun a f => by rw [(k a f).2]; exact o.stands a f⟩⟩
  · have := (List.getElem?_eq_some_iff.mp q).1
    simp at this
    omega
  · by_cases hm : m = n
    · subst hm; exact ⟨lo, e, on⟩
    · rw [List.getElem?_set_ne (Ne.symm hm)] at q; exact ⟨l2, q, t⟩
  · by_cases z : a = ρ n
    · subst z; rw [upd_same] at h; cases h
    · rw [upd_ne z] at h; exact h
  · by_cases hm : m = n
    · subst hm; rw [List.getElem?_set_self hn] at q; cases q; exact h k nf
    · rw [List.getElem?_set_ne (Ne.symm hm)] at q
      have h' := o.at_ m l2 q
      cases l2 with
      | l xs => obtain ⟨f, vs, h1, h2⟩ := h'; exact ⟨f, vs, by rw [upd_ne (ne q rfl hm)]; exact h1, RepL.mono k xs h2⟩
      | d ks xs => obtain ⟨f, vs, h1, h2, h3⟩ := h'; exact ⟨f, vs, by rw [upd_ne (ne q rfl hm)]; exact h1, h2, RepL.mono k xs h3⟩
      | t ks xs => obtain ⟨f, vs, h1, h2, h3⟩ := h'; exact ⟨f, vs, by rw [upd_ne (ne q rfl hm)]; exact h1, h2, RepL.mono k xs h3⟩
      | i C ns xs => obtain ⟨f, dx, fs, h1, oc, h2, h3⟩ := h'; exact ⟨f, dx, fs, by rw [upd_ne (ne q rfl hm)]; exact h1, oc, h2, RepL.mono k xs h3⟩
      | z d => exact Rep.mono k d h'
  · have z : ∀ {j : Nat} {l3 : LO}, (L.set n lo')[j]? = some l3 → l3.on = true → ∃ l4, L[j]? = some l4 ∧ l4.on = true := fun {j l3} q t => by
      by_cases hj : j = n
      · subst hj; exact ⟨lo, e, on⟩
      · exact ⟨l3, by rwa [List.getElem?_set_ne (Ne.symm hj)] at q, t⟩
    obtain ⟨l4, e4, t4⟩ := z q1 t1
    obtain ⟨l5, e5, t5⟩ := z q2 t2
    exact o.inj m j l4 l5 e4 e5 t4 t5 q
def putAt (ou iu vu : U) (L : LS) : Option LS := match ou, iu with
  | .l n, .d (.int k) => (match L[n]? with
    | some (.l xs) => (fzU L vu).bind fun p => (match p.2[n]? with
      | some (.l ys) => (ixN ys.length k).map fun j => p.2.set n (.l (ys.set j p.1))
      | _ => none)
    | _ => none)
  | _, _ => none
def sSub (fo fi fe : EF) : SF := fun st L => ofR (fe st L) st fun v L1 => ofR (fo st L1) st fun ou L2 => ofR (fi st L2) st fun iu L3 => optS (putAt ou iu v L3) fun L4 => .nx st L4
theorem ks_sub {fo fi : EF} {i : Expr} {pos' : Pos} (ho : KE X W o fo) (hi : KE X W i fi) (he : KE X W e fe)
    (hs : swapsWithSole [.Subscript o i pos'] e pos.line X.env = pure false := by rfl) (hw : swappedStores [.Subscript o i pos'] e X.env = pure none := by rfl) (h1 : (assignEach [.Subscript o i pos'] X.env).map (·.2) = [assign (.Subscript o i pos') X.env] := by rfl)
    (ha : ∀ v, assign (.Subscript o i pos') X.env v = (do
      let ov ← holding [v] (eval o X.env)
      let iv ← holding [v, ov] (eval i X.env)
      standAt pos'
      holding [v, ov, iv] (setItem ov iv v)
      release [v, ov, iv] []) := by intro _; rfl) : KS X W (.Assign [.Subscript o i pos'] e pos) (sSub fo fi fe) := by
  refine ps_wk (ps_asg he (pg_sub ho hi set_list ha) hs hw h1) fun D σ H ⟨F, ρ, L, st, o, r, h⟩ => ?_
  refine RS.one o r h fun x H1 F1 ρ1 L1 u s1 o1 r1 p1 h1 => ?_
  refine RS.one o1 r1 h1 fun y H2 F2 ρ2 L2 u2 s2 o2 r2 p2 h2 => ?_
  refine RS.one o2 r2 h2 fun z H3 F3 ρ3 L3 u3 s3 o3 r3 p3 h3 => ?_
  obtain ⟨L4, e4, h3⟩ := h3.optS
  unfold putAt at e4
  split at e4
  · rename_i n k
    split at e4
    · rename_i xs hx
      obtain ⟨⟨d, L5⟩, e5, e4⟩ := Option.bind_eq_some_iff.mp e4
      split at e4
      · rename_i ys hy
        obtain ⟨j, ej, rfl⟩ := Option.map_eq_some_iff.mp e4
        obtain ⟨F5, s5, o5, q5⟩ := fzU_ok o3 ((p1.mono s2).mono s3) e5
        obtain ⟨_, vs, g1, g2⟩ := o5.at_ n _ hy
        have p2' := p2.mono s3
        obtain ⟨hn, hz⟩ := p2'
        obtain rfl : z = .int k := p3
        refine ⟨ρ3 n, vs, k, j, hz, rfl, g1, by rw [g2.length]; exact ej, ?_⟩
        obtain ⟨s6, o6⟩ := put_live (u := .lst (vs.set j x)) (lo' := .l (ys.set j d)) o5 hy rfl rfl fun kk nf => ⟨nf, _, upd_same, RepL.mono kk _ (g2.set j q5)⟩
        exact h3 F5 ρ3 _ σ (s5.trans s6) o6 ((r3.mono s5).mono s6)
      · cases e4
    · cases e4
  · cases e4
end
end VL

set_option Elab.async false
set_option linter.all false
set_option maxRecDepth 100000
set_option maxHeartbeats 4000000
namespace VL
open PySem PySem.Spec PyProof.Rows L2
open PySem.W (Frag)

/-- room for calls, and no repr under way -/
structure Rm (k : Nat) (A : Around) : Prop where
  rm : Room k A
  gd : A.guards = some []
theorem Rm.mono {j k : Nat} {A : Around} (r : Rm k A) (h : j ≤ k) : Rm j A := ⟨r.rm.mono h, r.gd⟩
theorem Rm.deeper {k : Nat} {A : Around} (r : Rm (k + 1) A) (env : Env) : Rm k (A.deeper env) := ⟨r.rm.deeper env, r.gd⟩
theorem Rm.u {k : Nat} {A : Around} (r : Rm k A) : A.units + 64 < cLine := r.rm.units
theorem Rm.u1 {k : Nat} {A : Around} (r : Rm k A) : A.units + 1 < cLine := by have := r.rm.units; omega
theorem make_guards {A : Around} {C : Addr} {us : List Value} {kw : List (Str × Value)} : (A.under (.builtin "type.__call__" ⟨.ref C :: us, kw⟩)).guards = A.guards := by
  first | rfl | simp [Around.under, Code.guards, Code.isGuard, guardIds, pushGuards]
theorem Rm.make {k : Nat} {A : Around} (r : Rm (k + 1) A) (C : Addr) (us : List Value) (kw : List (Str × Value)) : Rm k (A.under (.builtin "type.__call__" ⟨.ref C :: us, kw⟩)) := ⟨r.rm.make C us kw, by rw [make_guards]; exact r.gd⟩

/-- a def's mirror -/
abbrev FF := List U → LS → Rs U
/-- what a def with the mirror m promises -/
def spK (K : Frag) (n : Nat) (m : FF) : Sp := fun vs H Q E => ∃ F ρ L us, Ok K F ρ H L ∧ RepUs K F ρ H L us vs ∧ us.length = n ∧ GE RepU K (fun c d _ H' => E c d H') [] F ρ H L Q (m us L)
structure KFn (P : Program) (w : World) (K : Frag) (mg : Str → Option Value) (base : Heap) (k : Nat) (f : Addr) (fd : FuncData) (ps : List Str) (m : FF) : Prop where
  run : ∀ (A : Around) (outer : List Env) (s : Shared) (H : Hp) (args : Args) (us : List Value) (vs : List V) (Q : VK) (E : XK), Rm k A → Env0 P w K mg base A outer s H → BindsTo s fd args (ps.zip us) → Vals vs us → spK K ps.length m vs H Q E →
    codeAny (model P w) A (.call (.ref f) args) (CR (L2.CX P w) outer P w H s Q E) s
theorem KFn.mono {P : Program} {w : World} {K : Frag} {mg : Str → Option Value} {base : Heap} {j k : Nat} {f : Addr} {fd : FuncData} {ps : List Str} {m : FF} (h : KFn P w K mg base j f fd ps m) (q : j ≤ k) : KFn P w K mg base k f fd ps m :=
  ⟨fun A outer s H args us vs Q E hr => h.run A outer s H args us vs Q E (hr.mono q)⟩

/-! ### what a def made on its way and does not hand out is left alone -/
section
variable {K : Frag} {F F' : Addr → Prop} {ρ ρ' : Nat → Addr} {H H' : Hp} {L L' : LS}
theorem take_get {n i : Nat} {lo : LO} (e : (L.take n)[i]? = some lo) : L[i]? = some lo ∧ i < n := by
  rw [List.getElem?_take] at e
  split at e
  · exact ⟨e, by assumption⟩
  · cases e
theorem cut_ok (s : Step F ρ H L F' ρ' H' L') (o : Ok K F' ρ' H' L') : Step F ρ H L F' ρ' H' (L'.take L.length) ∧ Ok K F' ρ' H' (L'.take L.length) := by
  have hl := s.len
  refine ⟨⟨s.fz, by rw [List.length_take]; omega, s.same, s.keep, fun n lo h e _ => ?_, fun n lo h e t => s.off n lo h (take_get e).1 t, s.trk, s.fr⟩, ⟨fun n lo e => o.at_ n lo (take_get e).1, fun m n lo lo' e1 e2 => o.inj m n lo lo' (take_get e1).1 (take_get e2).1, o.stands⟩⟩
  exact absurd (take_get e).2 (Nat.not_lt.mpr h)
theorem take_get1 {n i : Nat} {lo l1 : LO} (hn : n ≤ L.length) (e : (L.take n ++ [l1])[i]? = some lo) : (L[i]? = some lo ∧ i < n) ∨ (i = n ∧ lo = l1) := by
  by_cases h : i < n
  · rw [List.getElem?_append_left (by simp; omega)] at e
    exact .inl (take_get e)
  · rw [List.getElem?_append_right (by simp; omega)] at e
    have hl : (L.take n).length = n := by simp; omega
    rw [hl] at e
    cases k : i - n with
    | zero => rw [k] at e; simp at e; exact .inr ⟨by omega, e.symm⟩
    | succ j => rw [k] at e; simp at e
theorem cut_ok1 (s : Step F ρ H L F' ρ' H' L') (o : Ok K F' ρ' H' L') {n : Nat} {lo : LO} (e : L'[n]? = some lo) (hn : L.length ≤ n) :
    ∃ ρ2, ρ2 L.length = ρ' n ∧ Step F ρ H L F' ρ2 H' (L'.take L.length ++ [lo]) ∧ Ok K F' ρ2 H' (L'.take L.length ++ [lo]) := by
  have hl := s.len
  obtain ⟨ρ2, a1, a2⟩ : ∃ ρ2 : Nat → Addr, (∀ {i : Nat}, i < L.length → ρ2 i = ρ' i) ∧ ρ2 L.length = ρ' n := ⟨fun i => if i < L.length then ρ' i else ρ' n, fun h => if_pos h, if_neg (Nat.lt_irrefl _)⟩
  refine ⟨ρ2, a2, ⟨s.fz, by simp; omega, fun i h => (a1 h).trans (s.same i h), s.keep, fun i l1 h e1 t => ?_, fun i l1 h e1 t => ?_, s.trk, s.fr⟩, ⟨fun i l1 e1 => ?_, fun i j l1 l2 e1 e2 t1 t2 q => ?_, o.stands⟩⟩
  · rcases take_get1 hl e1 with ⟨q, h2⟩ | ⟨rfl, rfl⟩
    · omega
    · rw [a2]; exact s.new n l1 hn e t
  · rcases take_get1 hl e1 with ⟨q, h2⟩ | ⟨rfl, rfl⟩
    · exact s.off i l1 h q t
    · exact absurd h (Nat.lt_irrefl _)
  · rcases take_get1 hl e1 with ⟨q, h2⟩ | ⟨rfl, rfl⟩
    · rw [a1 h2]; exact o.at_ i l1 q
    · rw [a2]; exact o.at_ n l1 e
  · rcases take_get1 hl e1 with ⟨q1, h1⟩ | ⟨rfl, rfl⟩ <;> rcases take_get1 hl e2 with ⟨q2, h2⟩ | ⟨rfl, rfl⟩
    · rw [a1 h1, a1 h2] at q; exact o.inj i j l1 l2 q1 q2 t1 t2 q
    · rw [a1 h1, a2] at q; have := o.inj i n l1 l2 q1 e t1 t2 q; omega
    · rw [a2, a1 h2] at q; have := o.inj n j l1 l2 e q2 t1 t2 q; omega
    · rfl
def outR (n0 : Nat) (u : U) (L' : LS) : Rs U := match u with
  | .d d => .ok (.d d) (L'.take n0)
  | .l n => if n < n0 then .ok (.l n) (L'.take n0) else (match L'[n]? with
    | some lo => .ok (.l n0) (L'.take n0 ++ [lo])
    | none => .no)
theorem GE.out {W : WX} {σ : L2.St} {Q : VK} {u : U} {v : V} (g : GE RepU K W σ F ρ H L Q (outR L.length u L')) (s : Step F ρ H L F' ρ' H' L') (o : Ok K F' ρ' H' L') (p : RepU K F' ρ' H' L' u v) : Q v H' := by
  cases u with
  | d x =>
    obtain ⟨s1, o1⟩ := cut_ok s o
    exact g F' ρ' H' v s1 o1 p
  | l n =>
    unfold outR at g
    by_cases hn : n < L.length
    · simp only [hn, if_true] at g
      obtain ⟨s1, o1⟩ := cut_ok s o
      exact g F' ρ' H' v s1 o1 ⟨by simp; have := s.len; omega, p.2⟩
    · simp only [hn, if_false] at g
      cases e : L'[n]? with
      | none => rw [e] at g; exact g.elim
      | some lo =>
        rw [e] at g
        obtain ⟨ρ2, e2, s1, o1⟩ := cut_ok1 s o e (Nat.not_lt.mp hn)
        exact g F' ρ2 H' v s1 o1 ⟨by simp; have := s.len; omega, by rw [e2]; exact p.2⟩
end

/-- a body's mirror as a def's: n parameters, N names -/
def fnF (n N : Nat) (body : SF) : FF := fun us L => if us.length = n then (match body (us.map some ++ List.replicate (N - n) none) L with
  | .nx _ L' => .ok (.d .non) (L'.take L.length)
  | .rt u L' => outR L.length u L'
  | .ex C ns xs _ L' => .ex C ns xs (L'.take L.length)
  | _ => .no) else .no
theorem start_rep {K : Frag} {F : Addr → Prop} {ρ : Nat → Addr} {H : Hp} {L : LS} {us : List U} {vs : List V} {N : List Str} (h : RepUs K F ρ H L us vs) : RepSt K F ρ H L (L2.start N vs) (us.map some ++ List.replicate (N.length - us.length) none) := by
  have hl := h.length
  have get : ∀ {us : List U} {vs : List V}, RepUs K F ρ H L us vs → ∀ (i : Nat) u, us[i]? = some u → ∃ v, vs[i]? = some v ∧ RepU K F ρ H L u v := by
    intro us
    induction us with
    | nil => intro vs _ i u e; simp at e
    | cons x xs ih =>
      intro vs ⟨v, r, e1, q, t⟩ i u e
      subst e1
      cases i with
      | zero => simp at e; subst e; exact ⟨v, rfl, q⟩
      | succ i => exact ih t i u (by simpa using e)
  refine ⟨by unfold L2.start; simp [hl], fun i u e => ?_⟩
  by_cases hi : i < us.length
  · rw [List.getElem?_append_left (by simpa using hi), List.getElem?_map] at e
    obtain ⟨u2, e1, e2⟩ := Option.map_eq_some_iff.mp e
    have e2 : u2 = u := Option.some.inj e2
    subst e2
    obtain ⟨v, e3, r⟩ := get h i u2 e1
    refine ⟨v, ?_, r⟩
    unfold L2.start
    rw [List.getElem?_append_left (by simp [hl]; exact hi), List.getElem?_map, e3]
    rfl
  · rw [List.getElem?_append_right (by simpa using hi), List.getElem?_replicate] at e
    split at e <;> cases e

section
variable {P : Program} {w : World} {K : Frag} {mg : Str → Option Value} {base : Heap}
/-- a def of the text, by its body -/
theorem kfn_at {k : Nat} {f : Addr} {name qual : Str} {params : Arguments} {body : List Stmt} {scope : Scope} {dV kV doc pm cdv ct oc : Value} {an od : Option Addr} {osl : Array (Option Value)} {N ps : List Str} {fb : SF}
    (lk : K.lookup f = some ⟨oc, od, .func (PySem.W.fnOf name qual params body scope dV kV doc pm an cdv ct), osl⟩) (hcd : PySem.W.codeIn K cdv qual = true) (S : FnScope N ps scope)
    (hb : ∀ (A : Around) (outer : List Env) (s : Shared) (H : Hp) (E : XK), Rm k (A.deeper (envOfC qual scope s.heap.objs.size f cdv)) → KSs (cxOf (L2.CX P w) P w K mg base N qual scope f cdv A outer s H E) (fun c d _ H' => E c d H') body fb) :
    KFn P w K mg base (k + 1) f (PySem.W.fnOf name qual params body scope dV kV doc pm an cdv ct) ps (fnF ps.length N.length fb) := by
  refine ⟨fun A outer s H args us vs Q E hr e0 bind r hsp => ?_⟩
  obtain ⟨F, ρ, L, uu, o, ru, hu, g⟩ := hsp
  have hl : vs.length = ps.length := ru.length.trans hu
  have kin : K.In s.heap := e0.mod.kin.keeps fun b o e => (e0.bs b o e).1
  have lim : s.heap.NoLimit := e0.mod.nolimit.keeps fun b o e => (e0.bs b o e).1
  have kinds : ∀ y ∈ ps.zip us, scope.names.lookup y.1 = some .local ∨ (scope.names.lookup y.1 = some .cell ∧ ((cellsFrom (s.heap.objs.size + 1) scope.names []).lookup y.1).isSome = true) := by
    intro y hy
    rcases S.par y.1 (List.of_mem_zip hy).1 with q | q
    · exact .inl q
    · exact .inr ⟨q, PySem.W.cellsFrom_some _ _ _ (.inl q)⟩
  refine codeAny_call_function hr.rm.depth (kin _ _ lk) rfl S.co S.gen rfl (PySem.W.codeRec_of kin hcd) (bind _ _ _ _ (wpAny_newFunctionEnv_cells S.kind kinds fun env he s1 x => ?_))
  subst he
  refine ⟨lim.keeps x.toInCall.keep, codeAny_func ?_⟩
  have I : Inv (cxOf (L2.CX P w) P w K mg base N qual scope f cdv A outer s H E) [] (L2.start N vs) H s1 := inv_start S hr.rm.hd e0 hl r x
  have q : RS K (fun c d _ H' => E c d H') fb { nx := fun _ H' => Q .non H', rt := Q } (L2.start N vs) H := by
    have rst := start_rep (N := N) ru
    rw [hu] at rst
    refine ⟨F, ρ, L, _, o, rst, ?_⟩
    unfold fnF at g
    rw [if_pos hu] at g
    cases e : fb (uu.map some ++ List.replicate (N.length - ps.length) none) L with
    | nx st' L' => rw [e] at g; exact fun F' ρ' H' σ' s' o' _ => GE.out (u := .d .non) g s' o' rfl
    | rt u L' => rw [e] at g; exact fun F' ρ' H' v s' o' p' => GE.out g s' o' p'
    | ex C ns xs st' L' => rw [e] at g; exact fun F' ρ' H' σ' d s' o' _ t => g F' ρ' H' d (cut_ok s' o').1 (cut_ok s' o').2 t
    | bk st' L' => rw [e] at g; exact g.elim
    | ct st' L' => rw [e] at g; exact g.elim
    | no => rw [e] at g; exact g
  refine wpAny_mono ((hb A outer s H E (hr.deeper _)).run [] s1 _ H _ I q) (fun fl s' hs => ?_) fun e s' hs => hs
  have done : ∀ {σ' : L2.St} {H' : Hp} {v : V} {u : Value}, Inv (cxOf (L2.CX P w) P w K mg base N qual scope f cdv A outer s H E) [] σ' H' s' → RelV v u → Q v H' → CE outer P w H s Q u s' := fun J rv qv => ⟨_, _, J.os, J.bare, J.base, J.hok, rv, qv⟩
  cases fl with
  | ret u => obtain ⟨v, σ', H', J, rv, qv⟩ := hs; exact done J rv qv
  | next => obtain ⟨σ', H', J, qv⟩ := hs; exact done (v := V.non) (u := Value.none) J rfl qv
  | brk => obtain ⟨_, _, _, z⟩ := hs; exact False.elim z
  | cont => obtain ⟨_, _, _, z⟩ := hs; exact False.elim z
/-- what the top has left of a def -/
theorem kfn_of {k : Nat} {x qual : Str} {st : Stmt} {f : Addr} {fd : FuncData} {N ps : List Str} {fb : SF} (T : Fun K x qual st f fd) (S : FnScope N ps (defScope st))
    (hb : ∀ (cdv : Value) (A : Around) (outer : List Env) (s : Shared) (H : Hp) (E : XK), Rm k (A.deeper (envOfC qual (defScope st) s.heap.objs.size f cdv)) → KSs (cxOf (L2.CX P w) P w K mg base N qual (defScope st) f cdv A outer s H E) (fun c d _ H' => E c d H') (defBody st) fb) :
    KFn P w K mg base (k + 1) f fd ps (fnF ps.length N.length fb) := by
  obtain ⟨oc, od, kV, doc, pm, an, cdv, ct, osl, rfl, lk, hcd⟩ := T.ex
  exact kfn_at lk hcd S fun A outer s H E hr => hb cdv A outer s H E hr
end

/-! ### calls -/
def PUU : PP (List U × List U) (List V × List V) := fun K F ρ H L a b => RepUs K F ρ H L a.1 b.1 ∧ RepUs K F ρ H L a.2 b.2
abbrev CF := SS → LS → Rs (List U × List U)
/-- the arguments of a call; ks: the keywords' names -/
def KC (X : Cx) (W : WX) (args : List Expr) (kws : List Keyword) (ks : List Str) (fa : CF) : Prop :=
  ∀ (pos : Pos) (f : Value) (first : List Value) (pins : List (Addr × Obj)) (s : Shared) (σ : L2.St) (H : Hp) (Q : Value → Shared → Prop), PySem.W.keepIn X.K f = true → Inv X pins σ H s →
    RG PUU X.K W fa σ H (fun p H1 => ∀ s1 us ws, Inv X pins σ H1 s1 → Vals p.1 us → Vals p.2 ws → wpAny (model X.prog X.w) X.A (call f (first ++ us) (ks.zip ws)) Q X.xe s1) →
    wpAny (model X.prog X.w) X.A (callWith pos f first (backTo pos (starEach args X.env)) (backToKw pos (keywordEach kws X.env))) Q X.xe s
section
variable {X : Cx} {W : WX} {e : Expr} {es : List Expr} {kws : List Keyword} {ks : List Str} {f : AF} {g : AF}
def cPos (f : AF) : CF := fun st L => (f st L).bind fun us L1 => .ok (us, []) L1
def cBoth (f g : AF) : CF := fun st L => (f st L).bind fun us L1 => (g st L1).bind fun ws L2 => .ok (us, ws) L2
theorem kc_nil : KC X W [] [] [] (cPos aNil) := by
  intro pos fv first pins s σ H Q hk I h
  obtain ⟨F, ρ, L, st, o, r, h⟩ := h
  have z := h.fin (b := ([], [])) o ⟨rfl, rfl⟩ s [] [] I .nil .nil
  exact PySem.W.callWith_K0 I.kIn hk z
theorem kc_pos (ha : KA X W (e :: es) f) (he : starEach (e :: es) X.env = (false, eval e X.env) :: starEach es X.env := by rfl) (hpl : ∀ pos, (backTo pos (starEach es X.env)).any (·.1) = false := by intro _; rfl) : KC X W (e :: es) [] [] (cPos f) := by
  intro pos fv first pins s σ H Q hk I h
  obtain ⟨F, ρ, L, st, o, r, h⟩ := h
  refine PySem.W.callWith_K (h₀ := X.base) I.ok.mod.kin hk (thn (PA.run ha pos pins s σ H _ I (RG.one (P := RepUs) o r h fun vs H1 F1 ρ1 L1 us s1 o1 r1 p1 h1 => h1.fin (b := (vs, [])) o1 ⟨p1, rfl⟩)) fun us s1 ⟨vs, H1, I1, rv, q⟩ => ⟨I1.kIn, q s1 us [] I1 rv .nil⟩) he (hpl pos)
abbrev KK (X : Cx) (W : WX) (kws : List Keyword) (f : AF) : Prop := PK X kws (RG RepUs X.K W f)
theorem kk_nil : KK X W [] aNil := ⟨fun pos pins s σ H Q I ⟨F, ρ, L, st, o, r, h⟩ => pk_nil.run pos pins s σ H Q I (h.fin (b := []) o rfl)⟩
theorem kk_cons {nm : Option Str} {kpos : Pos} {fa : EF} (ha : KE X W e fa) (hr : KK X W kws f) : KK X W (⟨nm, e, kpos⟩ :: kws) (aCons fa f) := by
  refine ⟨fun pos pins s σ H Q I ⟨F, ρ, L, st, o, r, h⟩ => (pk_cons ha hr).run pos pins s σ H Q I ?_⟩
  refine RG.one o r h fun x H1 F1 ρ1 L1 u s1 o1 r1 p1 h1 => ?_
  refine RG.one o1 r1 h1 fun y H2 F2 ρ2 L2 u2 s2 o2 r2 p2 h2 => ?_
  exact h2.fin o2 ⟨x, y, rfl, p1.mono s2, p2⟩
theorem kc_both (ha : KA X W (e :: es) f) (hk : KK X W kws g) (he : starEach (e :: es) X.env = (false, eval e X.env) :: starEach es X.env := by rfl) (hall : ∀ pos, (backToKw pos (keywordEach kws X.env)).all (·.1.isSome) = true := by intro _; rfl)
    (hks : ∀ pos, (backToKw pos (keywordEach kws X.env)).filterMap (·.1) = ks := by intro _; rfl)
    (hpl : ∀ pos, ((backTo pos (starEach (e :: es) X.env)).any (·.1) || (backToKw pos (keywordEach kws X.env)).any (·.1.isNone)) = false := by intro _; rfl) : KC X W (e :: es) kws ks (cBoth f g) := by
  intro pos fv first pins s σ H Q hkp I h
  obtain ⟨F, ρ, L, st, o, r, h⟩ := h
  refine PySem.W.callWith_KW (h₀ := X.base) I.ok.mod.kin hkp (hall pos) (thn (PA.run ha pos pins s σ H (fun vs H1 => ∃ F1 ρ1 L1 us, Step F ρ H L F1 ρ1 H1 L1 ∧ Ok X.K F1 ρ1 H1 L1 ∧ RepSt X.K F1 ρ1 H1 L1 σ st ∧ RepUs X.K F1 ρ1 H1 L1 us vs ∧ GE PUU X.K W σ F1 ρ1 H1 L1 _ ((g st L1).bind fun ws L2 => .ok (us, ws) L2)) I
    (RG.one (P := RepUs) o r h fun vs H1 F1 ρ1 L1 us s1 o1 r1 p1 h1 => ⟨F1, ρ1, L1, us, s1, o1, r1, p1, h1⟩)) fun us s1 ⟨vs, H1, I1, rv, F1, ρ1, L1, uu, st1, o1, r1, p1, h1⟩ => ?_) (hpl pos) he
  refine thn (PK.run hk pos pins s1 σ H1 _ I1 (RG.one (P := RepUs) o1 r1 h1 fun zs H2 F2 ρ2 L2 ws s2 o2 r2 p2 h2 => h2.fin (b := (vs, zs)) o2 ⟨p1.mono s2, p2⟩)) fun ws s2 ⟨zs, H2, I2, rz, q⟩ => ⟨I2.kIn, ?_⟩
  rw [hks pos]
  exact q s2 us ws I2 rv rz
theorem kc_kw (hk : KK X W kws g) (hall : ∀ pos, (backToKw pos (keywordEach kws X.env)).all (·.1.isSome) = true := by intro _; rfl) (hks : ∀ pos, (backToKw pos (keywordEach kws X.env)).filterMap (·.1) = ks := by intro _; rfl)
    (hpl : ∀ pos, ((backTo pos (starEach [] X.env)).any (·.1) || (backToKw pos (keywordEach kws X.env)).any (·.1.isNone)) = false := by intro _; rfl) : KC X W [] kws ks (cBoth aNil g) := by
  intro pos fv first pins s σ H Q hkp I h
  obtain ⟨F, ρ, L, st, o, r, h⟩ := h
  refine PySem.W.callWith_KW0 (h₀ := X.base) I.ok.mod.kin hkp (hall pos) ?_ (hpl pos)
  have h' : GE PUU X.K W σ F ρ H L _ ((g st L).bind fun ws L2 => .ok ([], ws) L2) := h
  refine thn (PK.run hk pos pins s σ H _ I (RG.one (P := RepUs) o r h' fun zs H2 F2 ρ2 L2 ws s2 o2 r2 p2 h2 => h2.fin (b := ([], zs)) o2 ⟨rfl, p2⟩)) fun ws s2 ⟨zs, H2, I2, rz, q⟩ => ⟨I2.kIn, ?_⟩
  rw [hks pos]
  exact q s2 [] ws I2 .nil rz
end

/-! ### how the arguments come to the parameters -/
inductive Sr where
  | p (i : Nat) | k (j : Nat) | c (d : D)
def Sr.get (us ws : List U) : Sr → Option U
  | .p i => us[i]?
  | .k j => ws[j]?
  | .c d => some (.d d)
def arrU (us ws : List U) : List Sr → Option (List U)
  | [] => some []
  | s :: r => (s.get us ws).bind fun u => (arrU us ws r).map (u :: ·)
/-- a constant, whatever the heap is -/
def Cst (d : D) (v : V) : Prop := ∀ K F H, Rep K F H d v
def SrOk (us ws : List Value) : Sr → Value → Prop
  | .p i, z => us[i]? = some z
  | .k j, z => ws[j]? = some z
  | .c d, z => ∃ v, Cst d v ∧ RelV v z
structure Bk (K : Frag) (fd : FuncData) (ps : List Str) (n : Nat) (ks : List Str) (src : List Sr) : Prop where
  bind : ∀ (s : Shared) (us ws : List Value), K.In s.heap → us.length = n → ws.length = ks.length → ∃ zs, BindsTo s fd ⟨us, ks.zip ws⟩ (ps.zip zs) ∧ Paired (SrOk us ws) src zs
  len : src.length = ps.length
theorem repUs_get {K : Frag} {F : Addr → Prop} {ρ : Nat → Addr} {H : Hp} {L : LS} : ∀ {us : List U} {vs : List V}, RepUs K F ρ H L us vs → ∀ {i : Nat} {u : U}, us[i]? = some u → ∃ v, vs[i]? = some v ∧ RepU K F ρ H L u v
  | [], _, _, _, _, e => by simp at e
  | x :: xs, _, ⟨v, r, e1, q, t⟩, 0, _, e => by subst e1; simp at e; subst e; exact ⟨v, rfl, q⟩
  | x :: xs, _, ⟨v, r, e1, q, t⟩, i + 1, _, e => by subst e1; exact repUs_get t (i := i) (by simpa using e)
theorem arr_ok {K : Frag} {F : Addr → Prop} {ρ : Nat → Addr} {H : Hp} {L : LS} {us ws : List U} {vs zs : List V} {uv wv : List Value} (r1 : RepUs K F ρ H L us vs) (r2 : RepUs K F ρ H L ws zs) (v1 : Vals vs uv) (v2 : Vals zs wv) :
    ∀ {src : List Sr} {out : List Value} {xs : List U}, Paired (SrOk uv wv) src out → arrU us ws src = some xs → ∃ ys, RepUs K F ρ H L xs ys ∧ Vals ys out
  | [], _, _, .nil, e => by cases e; exact ⟨[], rfl, .nil⟩
  | s :: r, b :: out, _, .cons h t, e => by
    simp only [arrU, Option.bind_eq_some_iff, Option.map_eq_some_iff] at e
    obtain ⟨u, e1, xs, e2, rfl⟩ := e
    obtain ⟨ys, q1, q2⟩ := arr_ok r1 r2 v1 v2 t e2
    have one : ∃ y, RepU K F ρ H L u y ∧ RelV y b := by
      cases s with
      | p i =>
        obtain ⟨v, g1, g2⟩ := repUs_get r1 e1
        obtain ⟨z, g3, g4⟩ := v1.get g1
        have h' : uv[i]? = some b := h
        rw [g3] at h'; cases h'
        exact ⟨v, g2, g4⟩
      | k i =>
        obtain ⟨v, g1, g2⟩ := repUs_get r2 e1
        obtain ⟨z, g3, g4⟩ := v2.get g1
        have h' : wv[i]? = some b := h
        rw [g3] at h'; cases h'
        exact ⟨v, g2, g4⟩
      | c d =>
        obtain ⟨v, g1, g2⟩ := h
        cases e1
        exact ⟨v, g1 K F H, g2⟩
    obtain ⟨y, p1, p2⟩ := one
    exact ⟨y :: ys, ⟨y, ys, rfl, p1, q1⟩, .cons p2 q2⟩

section
variable {X : Cx} {W : WX}
/-- the callee runs -/
theorem run_k {k : Nat} {f : Addr} {fd : FuncData} {ps ks : List Str} {m : FF} {src : List Sr} {n : Nat} {pins : List (Addr × Obj)} {σ : L2.St} {H : Hp} {s : Shared} {Q : VK} {F : Addr → Prop} {ρ : Nat → Addr} {L : LS} {us ws : List U} {vs zs : List V} {uv wv : List Value}
    (G : KFn X.prog X.w X.K X.mg X.base k f fd ps m) (hr : Rm k X.A) (hb : Bk X.K fd ps n ks src) (tk : Takes X W) (I : Inv X pins σ H s) (o : Ok X.K F ρ H L) (r1 : RepUs X.K F ρ H L us vs) (r2 : RepUs X.K F ρ H L ws zs) (v1 : Vals vs uv) (v2 : Vals zs wv)
    (hn : us.length = n) (hks : ws.length = ks.length) (h : GE RepU X.K W σ F ρ H L Q (opt (arrU us ws src) fun xs => m xs L)) : wpAny (model X.prog X.w) X.A (call (.ref f) uv (ks.zip wv)) (EP X pins σ Q) X.xe s := by
  obtain ⟨xs, e1, h⟩ := h.opt
  obtain ⟨out, bd, pr⟩ := hb.bind s uv wv I.kIn (by rw [← v1.length, r1.length]; exact hn) (by rw [← v2.length, r2.length]; exact hks)
  obtain ⟨ys, q1, q2⟩ := arr_ok r1 r2 v1 v2 pr e1
  have hlen : xs.length = ps.length := by
    rw [← q1.length, q2.length, ← Paired.length pr]; exact hb.len
  refine wpAny_call (codeAny_mono (G.run X.A X.stack s H ⟨uv, ks.zip wv⟩ out ys Q (fun c d H' => W c d σ H') hr I.env0 bd q2 ⟨F, ρ, L, xs, o, q1, hlen, ?_⟩) fun r s' hq => ?_)
  · cases e : m xs L with
    | ok a L' => rw [e] at h; exact h
    | ex C ns ds L' => rw [e] at h; exact h
    | no => rw [e] at h; exact h
  · cases r with
    | error x => exact tk x s' (XE.of_call I (fun _ _ _ z => z) hq)
    | ok fl =>
      cases fl with
      | ret u => exact I.after hq
      | next => exact False.elim hq
      | brk => exact False.elim hq
      | cont => exact False.elim hq
/-- f(..) -/
def eCall (m : FF) (src : List Sr) (n l : Nat) (fa : CF) : EF := fun st L => (fa st L).bind fun p L1 => if p.1.length = n ∧ p.2.length = l then opt (arrU p.1 p.2 src) fun xs => m xs L1 else .no
theorem ke_call {x : Str} {k : Nat} {f : Addr} {fd : FuncData} {ps ks : List Str} {m : FF} {src : List Sr} {n : Nat} {args : List Expr} {kws : List Keyword} {fa : CF} {p pos : Pos} (tk : Takes X W) (hr : Rm k X.A) (G : KFn X.prog X.w X.K X.mg X.base k f fd ps m) (hb : Bk X.K fd ps n ks src)
    (hm : X.mg x = some (.ref f)) (hk : PySem.W.keepIn X.K (.ref f) = true) (ha : KC X W args kws ks fa) {l : Nat} (hl : ks.length = l := by rfl) (hg : Gl X x := by rfl) (hdb : (x == ("__debug__" : Str)) = false := by decide) : KE X W (.Call (.Name x p) args kws pos) (eCall m src n l fa) := by
  subst hl
  refine ⟨fun pins s σ H Q I ⟨F, ρ, L, st, o, r, h⟩ => ?_⟩
  refine wpAny_Call_Name_kw (ld_glob I hg hm ?_ hdb)
  refine ha pos (.ref f) [] pins s σ H _ hk I (RG.one (P := PUU) o r h fun b H1 F1 ρ1 L1 a s1 o1 r1 p1 h1 s2 us ws I2 v1 v2 => ?_)
  obtain ⟨hc, h1⟩ := ge_if h1
  exact run_k G hr hb tk I2 o1 p1.1 p1.2 v1 v2 hc.1 hc.2 h1
end
end VL

set_option Elab.async false
set_option linter.all false
set_option maxRecDepth 100000
set_option maxHeartbeats 4000000
namespace VL
open PySem PySem.Spec PyProof.Rows L2
open PySem.W (Frag)

/-! ### what is walked -/
/-- J yields ds, whatever happens meanwhile -/
def Itb (K : Frag) (J : It) (ds : List D) (F : Addr → Prop) (ρ : Nat → Addr) (H : Hp) (L : LS) : Prop :=
  ∀ F1 ρ1 H1 L1, Step F ρ H L F1 ρ1 H1 L1 → Ok K F1 ρ1 H1 L1 → ∀ i, (∀ d, ds[i]? = some d → J.go i H1 ∧ ∀ x H2, J.yld i H1 x H2 → ∃ F2, Step F1 ρ1 H1 L1 F2 ρ1 H2 L1 ∧ Ok K F2 ρ1 H2 L1 ∧ Rep K F2 H2 d x) ∧ (ds.length ≤ i → J.stop i H1)
def PIt : PP (List D) It := fun K F ρ H L ds J => Itb K J ds F ρ H L
abbrev IF := SS → LS → Rs (List D)
abbrev KI (X : Cx) (W : WX) (tg iter : Expr) (f : IF) : Prop := PI X tg iter (RG PIt X.K W f)
theorem pi_wk {X : Cx} {tg e : Expr} {t t' : TI} (h : PI X tg e t) (i : ∀ σ H R, t' σ H R → t σ H R) : PI X tg e t' := ⟨fun pins s σ H R I q => h.run pins s σ H R I (i σ H R q)⟩
section
variable {K : Frag} {F : Addr → Prop} {ρ : Nat → Addr} {H : Hp} {L : LS}
theorem itb_list {a : Addr} {vs : List V} {ds : List D} (f : F a) (h : H a = some (.lst vs)) (r : RepL K F H ds vs) : Itb K (Itl K a) ds F ρ H L := by
  intro F1 ρ1 H1 L1 s o i
  have h1 : SqL K H1 a vs := .inl (.inl ((s.fz a f).2.trans h))
  refine ⟨fun d e => ?_, fun hi => ⟨vs, h1, by rw [r.length]; exact hi⟩⟩
  obtain ⟨v, e1, rv⟩ := r.get e
  refine ⟨⟨vs, v, h1, e1⟩, fun x H2 y => ?_⟩
  obtain ⟨rfl, y⟩ := y
  have e2 := y vs h1
  rw [e1] at e2
  cases e2
  exact ⟨F1, Step.refl, o, Rep.mono s.fz d rv⟩
theorem itb_tup {a : Addr} {vs : List V} {ds : List D} (h : TpAt K F H a vs) (r : RepL K F H ds vs) : Itb K (Itt K a) ds F ρ H L := by
  intro F1 ρ1 H1 L1 s o i
  have h1 : SqT K H1 a vs := (h.mono s.fz).sq
  refine ⟨fun d e => ?_, fun hi => ⟨vs, h1, by rw [r.length]; exact hi⟩⟩
  obtain ⟨v, e1, rv⟩ := r.get e
  refine ⟨⟨vs, v, h1, e1⟩, fun x H2 y => ?_⟩
  obtain ⟨rfl, y⟩ := y
  have e2 := y vs h1
  rw [e1] at e2
  cases e2
  exact ⟨F1, Step.refl, o, Rep.mono s.fz d rv⟩
def rngD (lo : Int) (n : Nat) : List D := (List.range n).map fun (i : Nat) => .int (lo + i)
theorem itb_rng (lo : Int) (n : Nat) : Itb K (Itr lo n) (rngD lo n) F ρ H L := by
  intro F1 ρ1 H1 L1 s o i
  refine ⟨fun d e => ?_, fun hi => by show n ≤ i; simpa [rngD] using hi⟩
  have hi : i < n := by
    have := (List.getElem?_eq_some_iff.mp e).1
    simpa [rngD] using this
  have e2 : d = .int (lo + i) := by
    simp [rngD, hi] at e
    exact e.symm
  subst e2
  refine ⟨hi, fun x H2 y => ?_⟩
  obtain ⟨rfl, rfl⟩ := y
  exact ⟨F1, Step.refl, o, rfl⟩
def signsD (x : Str) : List D := x.cps.toList.map fun c => .str ⟨#[c]⟩
theorem itb_str (x : Str) : Itb K (Its x) (signsD x) F ρ H L := by
  intro F1 ρ1 H1 L1 s o i
  refine ⟨fun d e => ?_, fun hi => by show x.cps.size ≤ i; simpa [signsD] using hi⟩
  simp only [signsD, List.getElem?_map, Option.map_eq_some_iff] at e
  obtain ⟨c, e1, rfl⟩ := e
  have hi : i < x.cps.size := by
    have := (List.getElem?_eq_some_iff.mp e1).1
    simpa using this
  refine ⟨hi, fun y H2 q => ?_⟩
  obtain ⟨rfl, c2, e2, rfl⟩ := q
  have e3 : x.cps[i]? = some c := by simpa using e1
  rw [e3] at e2
  cases e2
  exact ⟨F1, Step.refl, o, rfl⟩
end
section
variable {X : Cx} {W : WX} {a b c e tg : Expr} {fa fb fc fe : EF} {pos : Pos}
/-- a list, a tuple, a text: it comes to rest as it is walked -/
def iSeq (fe : EF) : IF := fun st L => (fe st L).bind fun u L1 => opt (fzU L1 u) fun p => match p.1 with
  | .lst ds => .ok ds p.2
  | .tup ds => .ok ds p.2
  | .str x => .ok (signsD x) p.2
  | _ => .no
theorem ki_seq (he : KE X W e fe) : KI X W tg e (iSeq fe) := by
  refine ⟨fun pins s σ H R I ⟨F, ρ, L, st, o, r, h⟩ => ?_⟩
  refine thn (PE.run he pins s σ H _ I (RG.one (Q' := Nx RepU PIt X.K W σ F ρ H L R fun u L1 => opt (fzU L1 u) fun p => match p.1 with
    | .lst ds => .ok ds p.2
    | .tup ds => .ok ds p.2
    | .str x => .ok (signsD x) p.2
    | _ => .no) o r h fun x H1 F1 ρ1 L1 u s1 o1 r1 p1 h1 => ⟨F1, ρ1, L1, u, s1, o1, p1, h1⟩)) fun v s1 ⟨x, H1, I1, rx, F1, ρ1, L1, uu, st1, o1, p1, h1⟩ => ?_
  obtain ⟨⟨d, L2⟩, e1, h2⟩ := h1.opt
  obtain ⟨F2, s2, o2, q2⟩ := fzU_ok o1 p1 e1
  split at h2
  · rename_i ds hd
    have hd : d = .lst ds := hd
    subst hd
    obtain ⟨p, vs, rfl, ⟨f, g⟩, q⟩ := q2
    obtain rfl : v = Value.ref p := rx
    have qq := h2 F2 ρ1 H1 (Itl X.K p) s2 o2 (itb_list f g q)
    obtain ⟨its, rv, pl, hz⟩ := I1.list (.inl (.inl g))
    exact wpAny_pyIter_list pl.isList (pi_one (tk := s1.toks) I1 _ (turn_list p _) ⟨_, Heap.get?_push_size _ rfl, rfl, rfl⟩ qq)
  · rename_i ds hd
    have hd : d = .tup ds := hd
    subst hd
    obtain ⟨p, vs, rfl, g, q⟩ := q2
    obtain rfl : v = Value.ref p := rx
    have qq := h2 F2 ρ1 H1 (Itt X.K p) s2 o2 (itb_tup g q)
    obtain ⟨its, rv, pl, hz⟩ := I1.tuple g.sq
    exact wpAny_pyIter_tuple (show s1.heap.IsTuple p its.toArray from pl) (pi_one (tk := s1.toks) I1 _ (turn_tuple p _) ⟨_, Heap.get?_push_size _ rfl, rfl, rfl⟩ qq)
  · rename_i y hd
    have hd : d = .str y := hd
    subst hd
    cases q2
    obtain ⟨t, rfl⟩ := rx
    have qq := h2 F2 ρ1 H1 (Its y) s2 o2 (itb_str y)
    cases ha : y.cps.all (· < 128)
    · exact wpAny_pyIter_wide ha (pi_one (tk := s1.toks) I1 _ (turn_str _ y t "str_iterator" (.inr rfl)) ⟨_, Heap.get?_push_size _ rfl, rfl, rfl⟩ qq)
    · exact wpAny_pyIter_ascii ha (pi_one (tk := s1.toks) I1 _ (turn_str _ y t "str_ascii_iterator" (.inl rfl)) ⟨_, Heap.get?_push_size _ rfl, rfl, rfl⟩ qq)
  · exact h2.elim
def inRng (i : Int) : Bool := decide (-(2 ^ 62) ≤ i) && decide (i < 2 ^ 62)
def iRng1 (f : AF) : IF := fun st L => (f st L).bind fun us L1 => match us with
  | [.d (.int n)] => if inRng n then .ok (rngD 0 n.toNat) L1 else .no
  | _ => .no
def iRng2 (f : AF) : IF := fun st L => (f st L).bind fun us L1 => match us with
  | [.d (.int i), .d (.int n)] => if inRng i && inRng n then .ok (rngD i (n - i).toNat) L1 else .no
  | _ => .no
theorem inRng_of {i : Int} (h : inRng i = true) : -(2 ^ 62) ≤ i ∧ i < 2 ^ 62 := by
  simp only [inRng, Bool.and_eq_true, decide_eq_true_eq] at h
  exact h
theorem ki_range1 {f : AF} {p : Pos} (hm : X.mg "range" = none) (ha : KA X W [a] f) (hg : Gl X "range" := by rfl) (hs : starEach [a] X.env = [(false, eval a X.env)] := by rfl) : KI X W tg (.Call (.Name "range" p) [a] [] pos) (iRng1 f) := by
  refine pi_wk (pi_range1 hg hm ha hs) fun σ H R ⟨F, ρ, L, st, o, r, h⟩ => ?_
  refine RG.one (P := RepUs) o r h fun vs H1 F1 ρ1 L1 us s1 o1 r1 p1 h1 => ?_
  split at h1
  · rename_i n
    obtain ⟨v, t, rfl, q, e⟩ := p1
    cases e
    obtain rfl : v = .int n := q
    obtain ⟨hz, h1⟩ := ge_if h1
    exact ⟨n, rfl, (inRng_of hz).1, (inRng_of hz).2, h1.fin (P := PIt) o1 (itb_rng 0 n.toNat)⟩
  · exact h1.elim
theorem ki_range2 {f : AF} {p : Pos} (hm : X.mg "range" = none) (ha : KA X W [a, b] f) (hg : Gl X "range" := by rfl) (hs : starEach [a, b] X.env = [(false, eval a X.env), (false, eval b X.env)] := by rfl) (hs2 : starEach [b] X.env = [(false, eval b X.env)] := by rfl) : KI X W tg (.Call (.Name "range" p) [a, b] [] pos) (iRng2 f) := by
  refine pi_wk (pi_range2 hg hm ha hs hs2) fun σ H R ⟨F, ρ, L, st, o, r, h⟩ => ?_
  refine RG.one (P := RepUs) o r h fun vs H1 F1 ρ1 L1 us s1 o1 r1 p1 h1 => ?_
  split at h1
  · rename_i i n
    obtain ⟨v, t, rfl, q, v2, t2, rfl, q2, e⟩ := p1
    cases e
    obtain rfl : v = .int i := q
    obtain rfl : v2 = .int n := q2
    obtain ⟨hz, h1⟩ := ge_if h1
    obtain ⟨z1, z2⟩ := Bool.and_eq_true_iff.mp hz
    exact ⟨i, n, rfl, ⟨(inRng_of z1).1, (inRng_of z1).2, (inRng_of z2).1, (inRng_of z2).2⟩, h1.fin (P := PIt) o1 (itb_rng i (n - i).toNat)⟩
  · exact h1.elim

/-! ### for -/
def forF (tf : TgF) (body : SF) : List D → SF
  | [], st, L => .nx st L
  | d :: ds, st, L => optS (tf d st) fun st1 => match body st1 L with
    | .nx st2 L2 => forF tf body ds st2 L2
    | .ct st2 L2 => forF tf body ds st2 L2
    | .bk st2 L2 => .nx st2 L2
    | r => r
def sFor (fi : IF) (tf : TgF) (body : SF) : SF := fun st L => ofR (fi st L) st fun ds L1 => forF tf body ds st L1
theorem ks_for {iter : Expr} {body : List Stmt} {fi : IF} {is : List Nat} {tf : TgF} {fb : SF} (ps : PassesOwn (model X.prog X.w) X.A X.env X.xe) (hi : KI X W tg iter fi) (hg : KG X tg is tf) (hb : KSs X W body fb) (hc : X.calm = true := by rfl)
    (hs : ∀ x, foldedSetIterable iter X.env x = pure x := by intro _; rfl) : KS X W (.For tg iter body [] pos) (sFor fi tf fb) := by
  refine ps_wk (ps_for ps hc hi hg hb hs) fun D σ H ⟨F, ρ, L, st, o, r, h⟩ => ?_
  refine RS.one (P := PIt) o r h fun J H1 F1 ρ1 L1 ds s1 o1 r1 p1 h1 => ?_
  refine ⟨fun i m σ' H' => m = ds.length - i ∧ i ≤ ds.length ∧ ∃ F' ρ' L' st', Step F1 ρ1 H1 L1 F' ρ' H' L' ∧ Ok X.K F' ρ' H' L' ∧ RepSt X.K F' ρ' H' L' σ' st' ∧ GS X.K W D F' ρ' H' L' (forF tf fb (ds.drop i) st' L'), ⟨ds.length, by simp, Nat.zero_le _, F1, ρ1, L1, st, Step.refl, o1, r1, h1⟩, ?_⟩
  rintro i m σ2 H2 ⟨rfl, hi, F2, ρ2, L2, st2, s2, o2, r2, h2⟩
  obtain ⟨g1, g2⟩ := p1 F2 ρ2 H2 L2 s2 o2 i
  by_cases hlt : i < ds.length
  · have hd : ds[i]? = some ds[i] := by simp [hlt]
    obtain ⟨go, yl⟩ := g1 _ hd
    rw [List.drop_eq_getElem_cons hlt] at h2
    refine .inr ⟨go, fun σ' H' => ∃ F' ρ' L' st', Step F1 ρ1 H1 L1 F' ρ' H' L' ∧ Ok X.K F' ρ' H' L' ∧ RepSt X.K F' ρ' H' L' σ' st' ∧ GS X.K W D F' ρ' H' L' (forF tf fb (ds.drop (i + 1)) st' L'), fun σ' H' n => ⟨ds.length - (i + 1), by omega, rfl, hlt, n⟩, fun x H3 y => ?_⟩
    obtain ⟨F3, s3, o3, rx⟩ := yl x H3 y
    obtain ⟨st3, e3, h3⟩ := (GS.on s3 (show GS X.K W D F2 ρ2 H2 L2 (optS (tf ds[i] st2) _) from h2)).optS
    refine ⟨F3, ρ2, L2, st2, ds[i], st3, o3, r2.mono s3, rx, e3, fun σ4 r4 _ => ⟨F3, ρ2, L2, st3, o3, r4, ?_⟩⟩
    have s23 := s2.trans s3
    cases e : fb st3 L2 with
    | nx st5 L5 => rw [e] at h3; exact fun F5 ρ5 H5 σ5 s5 o5 r5 => ⟨F5, ρ5, L5, st5, s23.trans s5, o5, r5, GS.on s5 h3⟩
    | ct st5 L5 => rw [e] at h3; exact fun F5 ρ5 H5 σ5 s5 o5 r5 => ⟨F5, ρ5, L5, st5, s23.trans s5, o5, r5, GS.on s5 h3⟩
    | bk st5 L5 => rw [e] at h3; exact h3
    | rt u L5 => rw [e] at h3; exact h3
    | ex C ns xs st5 L5 => rw [e] at h3; exact h3
    | no => rw [e] at h3; exact h3
  · have e : i = ds.length := by omega
    subst e
    rw [List.drop_length] at h2
    exact .inl ⟨g2 (Nat.le_refl _), GS.nxt h2 o2 r2⟩

/-! ### while -/
def whileF (t : TF) (body : SF) : Nat → SF
  | 0, _, _ => .no
  | n + 1, st, L => ofR (t st L) st fun k L1 => if k then (match body st L1 with
    | .nx st2 L2 => whileF t body n st2 L2
    | .ct st2 L2 => whileF t body n st2 L2
    | .bk st2 L2 => .nx st2 L2
    | r => r) else .nx st L1
theorem ks_while (n : Nat) {body : List Stmt} {tc : TF} {fb : SF} (ps : PassesOwn (model X.prog X.w) X.A X.env X.xe) (hc : KB X W c tc) (hb : KSs X W body fb) : KS X W (.While c body [] pos) (whileF tc fb n) := by
  refine ps_wk (ps_while ps hc hb) fun D σ H ⟨F, ρ, L, st, o, r, h⟩ => ?_
  refine ⟨fun m σ' H' => ∃ F' ρ' L' st', Ok X.K F' ρ' H' L' ∧ RepSt X.K F' ρ' H' L' σ' st' ∧ GS X.K W D F' ρ' H' L' (whileF tc fb m st' L'), ⟨n, F, ρ, L, st, o, r, h⟩, ?_⟩
  rintro m σ2 H2 ⟨F2, ρ2, L2, st2, o2, r2, h2⟩
  cases m with
  | zero => exact h2.elim
  | succ m =>
    refine RS.one (P := PB) o2 r2 h2 fun k H3 F3 ρ3 L3 kk s3 o3 r3 p3 h3 => ?_
    obtain rfl : kk = k := p3
    cases kk with
    | false => exact iteF (GS.nxt h3 o3 r3)
    | true =>
      refine iteT ⟨fun σ' H' => ∃ F' ρ' L' st', Ok X.K F' ρ' H' L' ∧ RepSt X.K F' ρ' H' L' σ' st' ∧ GS X.K W D F' ρ' H' L' (whileF tc fb m st' L'), fun σ' H' n => ⟨m, Nat.lt_succ_self m, n⟩, F3, ρ3, L3, st2, o3, r3, ?_⟩
      cases e : fb st2 L3 with
      | nx st5 L5 => simp only [e, if_true] at h3; exact fun F5 ρ5 H5 σ5 s5 o5 r5 => ⟨F5, ρ5, L5, st5, o5, r5, GS.on s5 h3⟩
      | ct st5 L5 => simp only [e, if_true] at h3; exact fun F5 ρ5 H5 σ5 s5 o5 r5 => ⟨F5, ρ5, L5, st5, o5, r5, GS.on s5 h3⟩
      | bk st5 L5 => simp only [e, if_true] at h3; exact h3
      | rt u L5 => simp only [e, if_true] at h3; exact h3
      | ex C ns xs st5 L5 => simp only [e, if_true] at h3; exact h3
      | no => simp only [e, if_true] at h3; exact h3
end
end VL

set_option Elab.async false
set_option linter.all false
set_option maxRecDepth 100000
set_option maxHeartbeats 4000000
namespace VL
open PySem PySem.Spec PyProof.Rows L2
open PySem.W (Frag)

/-! ### a list that a comprehension fills: it is none of ours meanwhile -/
section
variable {K : Frag} {F0 F F' : Addr → Prop} {ρ0 ρ ρ' : Nat → Addr} {H0 H H' : Hp} {L0 L L' : LS} {p : Addr}
/-- p is no thing of ours -/
structure Apart (F : Addr → Prop) (ρ : Nat → Addr) (H : Hp) (L : LS) (p : Addr) : Prop where
  nf : ¬ F p
  nl : ¬ Lv ρ L p
theorem Apart.on (a : Apart F ρ H L p) (s : Step F ρ H L F' ρ' H' L') {u : HO} (h : H p = some u) : Apart F' ρ' H' L' p ∧ H' p = some u := by
  have hn : H p ≠ none := by rw [h]; simp
  refine ⟨⟨fun f => ?_, fun v => ?_⟩, s.keep p u h a.nl⟩
  · rcases s.fr p f with q | q | q
    · exact a.nf q
    · exact hn q
    · exact a.nl q
  · rcases s.lv v with q | q
    · exact hn q
    · exact a.nl q
theorem bump (o0 : Ok K F0 ρ0 H0 L0) (h0 : H0 p = none) (s : Step F0 ρ0 H0 L0 F ρ H L) (o : Ok K F ρ H L) (a : Apart F ρ H L p) (u : HO) : (∀ a, F a → F a ∧ upd H p u a = H a) ∧ Step F0 ρ0 H0 L0 F ρ (upd H p u) L ∧ Ok K F ρ (upd H p u) L := by
  have k : ∀ a, F a → F a ∧ upd H p u a = H a := fun x f => ⟨f, upd_ne fun z => a.nf (z ▸ f)⟩
  refine ⟨k, ⟨fun x f => ⟨(s.fz x f).1, by rw [(k x (s.fz x f).1).2]; exact (s.fz x f).2⟩, s.len, s.same, fun x w e hv => ?_, s.new, s.off, fun x e => ?_, s.fr⟩, ⟨fun m lo q => ?_, o.inj, fun x f => by rw [(k x f).2]; exact o.stands x f⟩⟩
  · rw [upd_ne (ne_of_none e h0)]; exact s.keep x w e hv
  · by_cases z : x = p
    · subst z; exact h0
    · rw [upd_ne z] at e; exact s.trk x e
  · have h := o.at_ m lo q
    have ne : lo.on = true → ρ m ≠ p := fun t z => a.nl ⟨m, lo, q, t, z⟩
    cases lo with
    | l xs => obtain ⟨f, vs, h1, h2⟩ := h; exact ⟨f, vs, by rw [upd_ne (ne rfl)]; exact h1, RepL.mono k xs h2⟩
    | d ks xs => obtain ⟨f, vs, h1, h2, h3⟩ := h; exact ⟨f, vs, by rw [upd_ne (ne rfl)]; exact h1, h2, RepL.mono k xs h3⟩
    | t ks xs => obtain ⟨f, vs, h1, h2, h3⟩ := h; exact ⟨f, vs, by rw [upd_ne (ne rfl)]; exact h1, h2, RepL.mono k xs h3⟩
    | i C ns xs => obtain ⟨f, dx, fs, h1, oc, h2, h3⟩ := h; exact ⟨f, dx, fs, by rw [upd_ne (ne rfl)]; exact h1, oc, h2, RepL.mono k xs h3⟩
    | z d => exact Rep.mono k d h
/-- it comes to be ours, at rest -/
theorem adopt (h0 : H0 p = none) (s : Step F0 ρ0 H0 L0 F ρ H L) (o : Ok K F ρ H L) (a : Apart F ρ H L p) {u : HO} (h : H p = some u) : (∀ a, F a → F1 F p a ∧ H a = H a) ∧ Step F0 ρ0 H0 L0 (F1 F p) ρ H L ∧ Ok K (F1 F p) ρ H L := by
  have k : ∀ a, F a → F1 F p a ∧ H a = H a := fun x f => ⟨.inl f, rfl⟩
  refine ⟨k, ⟨fun x f => ⟨.inl (s.fz x f).1, (s.fz x f).2⟩, s.len, s.same, s.keep, s.new, s.off, s.trk, fun x f => f.elim (s.fr x) fun z => .inr (.inl (z ▸ h0))⟩, ⟨fun m lo q => ?_, o.inj, fun x f => f.elim (o.stands x) fun z => by rw [z, h]; simp⟩⟩
  have hh := o.at_ m lo q
  have ne : lo.on = true → ρ m ≠ p := fun t z => a.nl ⟨m, lo, q, t, z⟩
  cases lo with
  | l xs => obtain ⟨f, vs, h1, h2⟩ := hh; exact ⟨fun z => z.elim f (ne rfl), vs, h1, RepL.mono k xs h2⟩
  | d ks xs => obtain ⟨f, vs, h1, h2, h3⟩ := hh; exact ⟨fun z => z.elim f (ne rfl), vs, h1, h2, RepL.mono k xs h3⟩
  | t ks xs => obtain ⟨f, vs, h1, h2, h3⟩ := hh; exact ⟨fun z => z.elim f (ne rfl), vs, h1, h2, RepL.mono k xs h3⟩
  | i C ns xs => obtain ⟨f, dx, fs, h1, oc, h2, h3⟩ := hh; exact ⟨fun z => z.elim f (ne rfl), dx, fs, h1, oc, h2, RepL.mono k xs h3⟩
  | z d => exact Rep.mono k d hh
end

/-! ### [e for target in iter if test] -/
def wipeS (st : SS) : List Nat → SS
  | [] => st
  | v :: vs => (wipeS st vs).set v none
theorem RepSt.wipe {K : Frag} {F : Addr → Prop} {ρ : Nat → Addr} {H : Hp} {L : LS} {σ : L2.St} {st : SS} (r : RepSt K F ρ H L σ st) : ∀ vs : List Nat, RepSt K F ρ H L (L2.wipe σ vs) (wipeS st vs)
  | [] => r
  | v :: vs => by
    have q := RepSt.wipe r vs
    refine ⟨by show ((L2.wipe σ vs).set v none).length = ((wipeS st vs).set v none).length; simp [q.len], fun i u e => ?_⟩
    have e : ((wipeS st vs).set v none)[i]? = some (some u) := e
    show ∃ w, ((L2.wipe σ vs).set v none)[i]? = some (some w) ∧ _
    by_cases hv : i = v
    · subst hv
      by_cases hl : i < (wipeS st vs).length
      · rw [List.getElem?_set_self hl] at e; cases e
      · rw [List.getElem?_eq_none (by simpa using hl)] at e; cases e
    · rw [List.getElem?_set_ne (Ne.symm hv)] at e ⊢
      exact q.at_ i u e
/-- within a comprehension nothing is raised -/
abbrev Wn : WX := fun _ _ _ _ => False
def bindN {α β : Type} : Rs α → (α → LS → Rs β) → Rs β
  | .ok a L, g => g a L
  | _, _ => .no
@[simp] theorem bindN_ok {α β : Type} (a : α) (L : LS) (g : α → LS → Rs β) : bindN (.ok a L) g = g a L := rfl
def compF (tf : TgF) (tt : TF) (fe : EF) (st : SS) : List D → List D → LS → Rs (List D)
  | [], acc, L => .ok acc L
  | d :: ds, acc, L => opt (tf d st) fun st1 => bindN (tt st1 L) fun k L1 => if k then bindN (fe st1 L1) fun u L2 => opt (fzU L2 u) fun p => if acc.length < big then compF tf tt fe st ds (acc ++ [p.1]) p.2 else .no else compF tf tt fe st ds acc L1
def eComp (fi : IF) (vs : List Nat) (tf : TgF) (tt : TF) (fe : EF) : EF := fun st L => (fi st L).bind fun ds L1 => (compF tf tt fe (wipeS st vs) ds [] L1).bind fun xs L2 => .ok (.d (.lst xs)) L2
theorem ge_bindN {α γ β δ : Type} {P : PP γ δ} {K : Frag} {W : WX} {σ : L2.St} {F : Addr → Prop} {ρ : Nat → Addr} {H : Hp} {L : LS} {Q : δ → Hp → Prop} {x : Rs α} {g : α → LS → Rs β} {h : β → LS → Rs γ} (q : GE P K W σ F ρ H L Q ((bindN x g).bind h)) : ∃ a L1, x = .ok a L1 ∧ GE P K W σ F ρ H L Q ((g a L1).bind h) := by
  cases x with
  | ok a L1 => exact ⟨a, L1, rfl, q⟩
  | ex C ns xs L1 => exact q.elim
  | no => exact q.elim
theorem ge_optB {α γ β δ : Type} {P : PP γ δ} {K : Frag} {W : WX} {σ : L2.St} {F : Addr → Prop} {ρ : Nat → Addr} {H : Hp} {L : LS} {Q : δ → Hp → Prop} {x : Option α} {g : α → Rs β} {h : β → LS → Rs γ} (q : GE P K W σ F ρ H L Q ((opt x g).bind h)) : ∃ a, x = some a ∧ GE P K W σ F ρ H L Q ((g a).bind h) := by
  cases x with
  | some a => exact ⟨a, rfl, q⟩
  | none => exact q.elim
theorem ge_ifB {γ β δ : Type} {P : PP γ δ} {K : Frag} {W : WX} {σ : L2.St} {F : Addr → Prop} {ρ : Nat → Addr} {H : Hp} {L : LS} {Q : δ → Hp → Prop} {c : Prop} [Decidable c] {x : Rs β} {h : β → LS → Rs γ} (q : GE P K W σ F ρ H L Q ((if c then x else .no).bind h)) : c ∧ GE P K W σ F ρ H L Q (x.bind h) := by
  by_cases hc : c
  · rw [if_pos hc] at q; exact ⟨hc, q⟩
  · rw [if_neg hc] at q; exact q.elim
theorem comp_read {K : Frag} {W : WX} {fi : IF} {vs : List Nat} {tf : TgF} {tt : TF} {fe : EF} {σ : L2.St} {H : Hp} {Q : VK} (h : RG RepU K W (eComp fi vs tf tt fe) σ H Q) :
    tLc (RG PIt K W fi) (RT K vs tf) (RG PB K Wn tt) (RG RepU K Wn fe) vs σ H Q := by
  obtain ⟨F, ρ, L, st, o, r, h⟩ := h
  refine RG.one (P := PIt) o r h fun J H1 F1 ρ1 L1 ds s1 o1 r1 p1 h1 D hD => ?_
  refine ⟨fun i m H' => m = ds.length - i ∧ i ≤ ds.length ∧ ∃ F' ρ' L' acc va, Step F1 ρ1 H1 L1 F' ρ' H' L' ∧ Ok K F' ρ' H' L' ∧ Apart F' ρ' H' L' D ∧ H' D = some (.lst va) ∧ RepL K F' H' acc va ∧
    GE RepU K W σ F1 ρ1 H1 L1 Q ((compF tf tt fe (wipeS st vs) (ds.drop i) acc L').bind fun xs M2 => .ok (.d (.lst xs)) M2), ⟨ds.length, by simp, Nat.zero_le _, ?_⟩, ?_⟩
  · have ap : Apart F1 ρ1 H1 L1 D := by
      refine ⟨nF o1 hD, fun ⟨n, lo, e, t, z⟩ => ?_⟩
      have h := o1.at_ n lo e
      cases lo with
      | l xs => obtain ⟨_, vs, h1, _⟩ := h; rw [z, hD] at h1; cases h1
      | d ks xs => obtain ⟨_, vs, h1, _⟩ := h; rw [z, hD] at h1; cases h1
      | t ks xs => obtain ⟨_, vs, h1, _⟩ := h; rw [z, hD] at h1; cases h1
      | i C ns xs => obtain ⟨_, dx, fs, h1, _⟩ := h; rw [z, hD] at h1; cases h1
      | z d => cases t
    obtain ⟨_, s2, o2⟩ := bump o1 hD Step.refl o1 ap (.lst [])
    exact ⟨F1, ρ1, L1, [], [], s2, o2, ⟨ap.nf, ap.nl⟩, upd_same, rfl, h1⟩
  · rintro i m H2 ⟨rfl, hi, F2, ρ2, M2, acc, va, s2, o2, ap2, hd2, ra2, h2⟩
    obtain ⟨g1, g2⟩ := p1 F2 ρ2 H2 M2 s2 o2 i
    by_cases hlt : i < ds.length
    · have hdi : ds[i]? = some ds[i] := by simp [hlt]
      obtain ⟨go, yl⟩ := g1 _ hdi
      rw [List.drop_eq_getElem_cons hlt] at h2
      obtain ⟨st3, e3, h3⟩ := ge_optB h2
      refine .inr ⟨go, fun H' => ∃ F' ρ' L' acc va, Step F1 ρ1 H1 L1 F' ρ' H' L' ∧ Ok K F' ρ' H' L' ∧ Apart F' ρ' H' L' D ∧ H' D = some (.lst va) ∧ RepL K F' H' acc va ∧
        GE RepU K W σ F1 ρ1 H1 L1 Q ((compF tf tt fe (wipeS st vs) (ds.drop (i + 1)) acc L').bind fun xs M2 => .ok (.d (.lst xs)) M2), fun H' n => ⟨ds.length - (i + 1), by omega, rfl, hlt, n⟩, fun x H3 y => ?_⟩
      obtain ⟨F3, s3, o3, rx⟩ := yl x H3 y
      obtain ⟨ap3, hd3⟩ := ap2.on s3 hd2
      have r3 : RepSt K F3 ρ2 H3 M2 (L2.wipe σ vs) (wipeS st vs) := ((r1.wipe vs).mono s2).mono s3
      refine ⟨F3, ρ2, M2, wipeS st vs, ds[i], st3, o3, r3, rx, e3, fun σ4 r4 w4 => ⟨?_, F3, ρ2, M2, st3, o3, r4, ?_⟩⟩
      · have ww : ∀ (τ : L2.St) (us : List Nat), L2.wipe (L2.wipe τ us) us = L2.wipe τ us := by
          intro τ us
          induction us with
          | nil => rfl
          | cons u us ih =>
            show (L2.wipe ((L2.wipe τ us).set u none) us).set u none = (L2.wipe τ us).set u none
            rw [← wipe_set, ih]
            simp
        rw [w4, ww]
      · obtain ⟨k, L4, e4, h4⟩ := ge_bindN h3
        rw [e4]
        intro F4 ρ4 H4 b s4 o4 pb
        obtain rfl : k = b := pb
        obtain ⟨ap4, hd4⟩ := ap3.on s4 hd3
        have s14 := (s2.trans s3).trans s4
        have ra4 := RepL.mono s4.fz acc (RepL.mono s3.fz acc ra2)
        cases k with
        | false => exact iteF ⟨F4, ρ4, L4, acc, va, s14, o4, ap4, hd4, ra4, h4⟩
        | true =>
          refine iteT ⟨F4, ρ4, L4, st3, o4, r4.mono s4, ?_⟩
          obtain ⟨u, L5, e5, h5⟩ := ge_bindN h4
          rw [e5]
          intro F5 ρ5 H5 yv s5 o5 p5
          obtain ⟨ap5, hd5⟩ := ap4.on s5 hd4
          obtain ⟨⟨d6, L6⟩, e6, h6⟩ := ge_optB h5
          obtain ⟨hz, h6⟩ := ge_ifB h6
          obtain ⟨F6, s6, o6, q6⟩ := fzU_ok o5 p5 e6
          obtain ⟨ap6, hd6⟩ := ap5.on s6 hd5
          have ra6 := RepL.mono s6.fz acc (RepL.mono s5.fz acc ra4)
          refine ⟨va, hd6, by rw [big_eq, ra6.length]; exact hz, ?_⟩
          obtain ⟨k7, s7, o7⟩ := bump o1 hD ((s14.trans s5).trans s6) o6 ap6 (.lst (va ++ [yv]))
          exact ⟨F6, ρ5, L6, acc ++ [d6], va ++ [yv], s7, o7, ⟨ap6.nf, ap6.nl⟩, upd_same, RepL.mono k7 _ (ra6.append (RepL.one q6)), h6⟩
    · have e : i = ds.length := by omega
      subst e
      rw [List.drop_length] at h2
      refine .inl ⟨g2 (Nat.le_refl _), ?_⟩
      obtain ⟨k3, s3, o3⟩ := adopt hD s2 o2 ap2 hd2
      exact h2 _ _ _ _ s3 o3 (show Rep K (VL.F1 F2 D) H2 (.lst acc) (.ref D) from ⟨D, va, rfl, ⟨.inr rfl, hd2⟩, RepL.mono k3 acc ra2⟩)
abbrev KTs (X : Cx) (W : WX) (ifs : List Expr) (f : TF) : Prop := PTs X ifs (RG PB X.K W f)
theorem pts_wk {X : Cx} {ifs : List Expr} {t t' : TT} (h : PTs X ifs t) (i : ∀ σ H Q, t' σ H Q → t σ H Q) : PTs X ifs t' := ⟨fun pins s σ H Q I q => h.run pins s σ H Q I (i σ H Q q)⟩
def tYesF : TF := fun _ L => .ok true L
theorem kts_nil {X : Cx} {W : WX} : KTs X W [] tYesF := pts_wk pts_nil fun σ H Q ⟨F, ρ, L, st, o, r, h⟩ => h F ρ H true Step.refl o rfl
theorem kts_one {X : Cx} {W : WX} {c : Expr} {tc : TF} (h : KB X W c tc) : KTs X W [c] tc := pts_one h
section
variable {X : Cx} {W : WX} {elt tg iter : Expr} {ifs : List Expr} {scope : Scope} {own : List (Str × Nat)} {pos : Pos} {fi : IF} {tf : TgF} {tt : TF} {fe : EF} {is : List Nat}
theorem ke_comp (hN : X.N.Nodup) (hi : KI X W tg iter fi) (ok : BlkOk X.N X.env.scope scope own)
    (hg : ∀ (s : Shared) (H : Hp) (C : Addr) (cl : List (Str × Addr)) (fp : List Addr), KG (X.blk s H scope (compEnvC scope cl C X.env) fp) tg is tf)
    (ht : ∀ (s : Shared) (H : Hp) (C : Addr) (cl : List (Str × Addr)) (fp : List Addr), KTs (X.blk s H scope (compEnvC scope cl C X.env) fp) Wn ifs tt)
    (he : ∀ (s : Shared) (H : Hp) (C : Addr) (cl : List (Str × Addr)) (fp : List Addr), KE (X.blk s H scope (compEnvC scope cl C X.env) fp) Wn elt fe)
    (hv : own.map (·.2) = is := by rfl) (hc : X.calm = true := by rfl) (hs : ∀ x, foldedSetIterable iter X.env x = pure x := by intro _; rfl) :
    KE X W (.ListComp elt [⟨tg, iter, ifs, 0⟩] scope pos) (eComp fi is tf tt fe) := by
  subst hv
  exact pe_wk (pe_lc hc hN hi ok hg ht he hs) fun σ H Q h => comp_read h
theorem ks_setComp (i : Nat) {y : Str} {py spos : Pos} (hN : X.N.Nodup) (hi : KI X W tg iter fi) (ok : BlkOk X.N X.env.scope scope own)
    (hg : ∀ (s : Shared) (H : Hp) (C : Addr) (cl : List (Str × Addr)) (fp : List Addr), KG (X.blk s H scope (compEnvC scope cl C X.env) fp) tg is tf)
    (ht : ∀ (s : Shared) (H : Hp) (C : Addr) (cl : List (Str × Addr)) (fp : List Addr), KTs (X.blk s H scope (compEnvC scope cl C X.env) fp) Wn ifs tt)
    (he : ∀ (s : Shared) (H : Hp) (C : Addr) (cl : List (Str × Addr)) (fp : List Addr), KE (X.blk s H scope (compEnvC scope cl C X.env) fp) Wn elt fe)
    (hsw : swapsWith (.ListComp elt [⟨tg, iter, ifs, 0⟩] scope pos) (some (.Name y py)) spos.line X.env = pure true := by exact sw_true rfl rfl rfl (by decide +kernel))
    (hv : own.map (·.2) = is := by rfl) (hy : X.N[i]? = some y := by rfl) (hyl : X.env.scope.names.lookup y = some .local := by rfl) (hc : X.calm = true := by rfl) (hs : ∀ x, foldedSetIterable iter X.env x = pure x := by intro _; rfl) :
    KS X W (.Assign [.Name y py] (.ListComp elt [⟨tg, iter, ifs, 0⟩] scope pos) spos) (sSet i (eComp fi is tf tt fe)) := by
  subst hv
  refine ps_wk (ps_setLc (g := RT X.K (own.map (·.2)) tf) (tt := RG PB X.K Wn tt) (te := RG RepU X.K Wn fe) hc hN hy hyl hsw hi ok hg ht he hs) fun D σ H ⟨F, ρ, L, st, o, r, h⟩ => ?_
  refine comp_read ?_
  refine RS.one o r h fun x H1 F1 ρ1 L1 u s1 o1 r1 p1 h1 => ?_
  exact h1.nxt o1 (r1.set i p1)
end
end VL

set_option Elab.async false
set_option linter.all false
set_option maxRecDepth 100000
set_option maxHeartbeats 4000000
namespace VL
open PySem PySem.Spec PyProof.Rows L2
open PySem.W (Frag)

/-! ### instances of own classes -/
section
variable {K : Frag} {F : Addr → Prop} {ρ : Nat → Addr} {H : Hp} {L : LS}
theorem apart_none (o : Ok K F ρ H L) {p : Addr} (hp : H p = none) : Apart F ρ H L p := by
  refine ⟨nF o hp, fun ⟨n, lo, e, t, z⟩ => ?_⟩
  have h := o.at_ n lo e
  cases lo with
  | l xs => obtain ⟨_, vs, h1, _⟩ := h; rw [z, hp] at h1; cases h1
  | d ks xs => obtain ⟨_, vs, h1, _⟩ := h; rw [z, hp] at h1; cases h1
  | t ks xs => obtain ⟨_, vs, h1, _⟩ := h; rw [z, hp] at h1; cases h1
  | i C ns xs => obtain ⟨_, dx, fs, h1, _⟩ := h; rw [z, hp] at h1; cases h1
  | z d => cases t
/-- a new instance -/
theorem made_ok (o : Ok K F ρ H L) {C x dx : Addr} (oc : OwnC K C) (hx : H x = none) (hd : H dx = none) (ne : dx ≠ x) :
    ∃ ρ', ρ' L.length = x ∧ Step F ρ H L F ρ' (upd (upd H dx (.own x)) x (.ins C dx [])) (L ++ [.i C [] []]) ∧ Ok K F ρ' (upd (upd H dx (.own x)) x (.ins C dx [])) (L ++ [.i C [] []]) := by
  obtain ⟨k1, s1, o1⟩ := bump o hd Step.refl o (apart_none o hd) (.own x)
  have hx1 : upd H dx (.own x) x = none := by rw [upd_ne (Ne.symm ne)]; exact hx
  obtain ⟨s2, o2⟩ := live_ok o1 hx1 (u := .ins C dx []) (lo := .i C [] []) rfl ⟨nF o1 hx1, dx, [], upd_same, oc, rfl, rfl⟩
  exact ⟨ρ1 ρ L x, if_pos rfl, s1.trans s2, o2⟩
end
section
variable {X : Cx} {W : WX}
/-- the class is called -/
theorem run_mk {k : Nat} {C f : Addr} {fd : FuncData} {ps ks : List Str} {m : FF} {src : List Sr} {n : Nat} {pins : List (Addr × Obj)} {σ : L2.St} {H : Hp} {s : Shared} {Q : VK} {F : Addr → Prop} {ρ : Nat → Addr} {L : LS} {us ws : List U} {vs zs : List V} {uv wv : List Value}
    (M : Mk X.K C f) (oc : OwnC X.K C) (G : KFn X.prog X.w X.K X.mg X.base k f fd ps m) (hr : Rm (k + 1) X.A) (hb : Bk X.K fd ps (n + 1) ks src) (tk : Takes X W) (I : Inv X pins σ H s) (o : Ok X.K F ρ H L) (r1 : RepUs X.K F ρ H L us vs) (r2 : RepUs X.K F ρ H L ws zs) (v1 : Vals vs uv) (v2 : Vals zs wv)
    (hn : us.length = n) (hks : ws.length = ks.length) (h : GE RepU X.K W σ F ρ H L Q (opt (arrU (.l L.length :: us) ws src) fun xs => (m xs (L ++ [.i C [] []])).bind fun u L2 => (match u with
      | .d .non => .ok (.l L.length) L2
      | _ => .no))) : wpAny (model X.prog X.w) X.A (call (.ref C) uv (ks.zip wv)) (EP X pins σ Q) X.xe s := by
  have hx := I.hok.fresh (Nat.le_succ s.heap.objs.size)
  have hd := I.hok.fresh (Nat.le_refl s.heap.objs.size)
  have ne : s.heap.objs.size ≠ s.heap.objs.size + 1 := Nat.ne_of_lt (Nat.lt_succ_self _)
  have I2 := Inv.made (C := C) I
  obtain ⟨ρ', ex, s1, o1⟩ := made_ok o oc hx hd ne
  obtain ⟨xs, e1, h⟩ := h.opt
  have h := GE.on s1 h
  obtain ⟨out, bd, pr⟩ := hb.bind { s with heap := (s.heap.push PySem.W.emptyDict).push (PySem.W.instObj C s.heap.objs.size) } (.ref (s.heap.objs.size + 1) :: uv) wv I2.kIn (by rw [List.length_cons, ← v1.length, r1.length]; exact congrArg Nat.succ hn) (by rw [← v2.length, r2.length]; exact hks)
  have q0 : RepUs X.K F ρ' _ (L ++ [.i C [] []]) (.l L.length :: us) (.ref (s.heap.objs.size + 1) :: vs) := ⟨_, _, rfl, ⟨by simp, by rw [ex]⟩, r1.mono s1⟩
  obtain ⟨ys, q1, q2⟩ := arr_ok q0 (r2.mono s1) (.cons rfl v1) v2 pr e1
  have hlen : xs.length = ps.length := by
    rw [← q1.length, q2.length, ← Paired.length pr]; exact hb.len
  refine wpAny_call (make_map (f := f) I.kIn M.makes M.init (beq_iff_eq.mp M.fn) (codeAny_mono (G.run _ X.stack _ _ ⟨Value.ref (s.heap.objs.size + 1) :: uv, ks.zip wv⟩ out ys (fun v H2 => v = .non ∧ Q (.ref (s.heap.objs.size + 1)) H2) (fun c d H' => W c d σ H') (hr.make C uv (ks.zip wv)) (I2.env0.make C uv (ks.zip wv)) bd q2 ⟨F, ρ', _, xs, o1, q1, hlen, ?_⟩) fun r s' hq => ?_))
  · cases e : m xs (L ++ [.i C [] []]) with
    | ok a L' =>
      rw [e] at h
      clear e
      dsimp only [Rs.bind] at h
      intro F2 ρ2 H2 b s2 o2 p2
      split at h
      · obtain rfl : b = .non := p2
        refine ⟨rfl, h F2 ρ2 H2 _ s2 o2 ⟨by have := s2.len; simp at this; omega, ?_⟩⟩
        rw [s2.same _ (by simp), ex]
      · exact h.elim
    | ex C ns ds L' => rw [e] at h; exact h
    | no => rw [e] at h; exact h
  · cases r with
    | error x => exact tk x s' (XE.of_call I2 (fun _ _ _ z => z) hq)
    | ok fl =>
      cases fl with
      | ret u =>
        obtain ⟨v, H', I3, rv, ev, q3⟩ := I2.after hq
        subst ev
        exact ⟨rv, ⟨V.ref (s.heap.objs.size + 1), H', I3, rfl, q3⟩⟩
      | next => exact False.elim hq
      | brk => exact False.elim hq
      | cont => exact False.elim hq
/-- C(..), the instance may change further -/
def mkF (C : Addr) (m : FF) (src : List Sr) (n l : Nat) (p : List U × List U) (L1 : LS) : Rs U := if p.1.length = n ∧ p.2.length = l then opt (arrU (.l L1.length :: p.1) p.2 src) fun xs => (m xs (L1 ++ [.i C [] []])).bind fun u L2 => (match u with
      | .d .non => .ok (.l L1.length) L2
      | _ => .no) else .no
def eMake (C : Addr) (m : FF) (src : List Sr) (n l : Nat) (fa : CF) : EF := fun st L => (fa st L).bind fun p L1 => mkF C m src n l p L1
theorem ke_make {x : Str} {k : Nat} {C f : Addr} {fd : FuncData} {ps ks : List Str} {m : FF} {src : List Sr} {n : Nat} {args : List Expr} {kws : List Keyword} {fa : CF} {p pos : Pos} (tk : Takes X W) (hr : Rm (k + 1) X.A) (M : Mk X.K C f) (oc : OwnC X.K C) (G : KFn X.prog X.w X.K X.mg X.base k f fd ps m) (hb : Bk X.K fd ps (n + 1) ks src)
    (hm : X.mg x = some (.ref C)) (ha : KC X W args kws ks fa) {l : Nat} (hl : ks.length = l := by rfl) (hg : Gl X x := by rfl) (hdb : (x == ("__debug__" : Str)) = false := by decide) : KE X W (.Call (.Name x p) args kws pos) (eMake C m src n l fa) := by
  subst hl
  refine ⟨fun pins s σ H Q I ⟨F, ρ, L, st, o, r, h⟩ => ?_⟩
  refine wpAny_Call_Name_kw (ld_glob I hg hm ?_ hdb)
  refine ha pos (.ref C) [] pins s σ H _ M.kp I (RG.one (P := PUU) o r h fun b H1 F1 ρ1 L1 a s1 o1 r1 p1 h1 s2 us ws I2 v1 v2 => ?_)
  unfold mkF at h1
  obtain ⟨hc, h1⟩ := ge_if h1
  exact run_mk M oc G hr hb tk I2 o1 p1.1 p1.2 v1 v2 hc.1 hc.2 h1
/-- a value comes to rest, what was made on the way is left alone -/
def eRest (fe : EF) : EF := fun st L => (fe st L).bind fun u L1 => opt (fzU L1 u) fun p => .ok (.d p.1) (p.2.take L.length)
theorem ke_rest {e : Expr} {fe : EF} (he : KE X W e fe) : KE X W e (eRest fe) := by
  refine pe_wk he fun σ H Q ⟨F, ρ, L, st, o, r, h⟩ => ?_
  refine ⟨F, ρ, L, st, o, r, ?_⟩
  unfold eRest at h
  cases e1 : fe st L with
  | ok u L1 =>
    rw [e1] at h
    obtain ⟨⟨d, L2⟩, e2, h⟩ := GE.opt (x := fzU L1 u) h
    intro F1 ρ1 H1 b s1 o1 p1
    obtain ⟨F2, s2, o2, p2⟩ := fzU_ok o1 p1 e2
    obtain ⟨s3, o3⟩ := cut_ok (s1.trans s2) o2
    exact h F2 ρ1 H1 b s3 o3 p2
  | ex C ns xs L1 => rw [e1] at h; exact h
  | no => rw [e1] at h; exact h
end

/-! ### o.f = e, on an instance that still changes -/
def putN : Str → D → List Str → List D → List Str × List D
  | f, y, n :: ns, x :: xs => if n = f then (n :: ns, y :: xs) else ((n :: (putN f y ns xs).1), (x :: (putN f y ns xs).2))
  | f, y, _, _ => ([f], [y])
theorem putN_ok {K : Frag} {F : Addr → Prop} {H : Hp} {f : Str} {y : D} {v : V} (hy : Rep K F H y v) : ∀ (fs : List (Str × V)) {ns : List Str} {xs : List D}, fs.map (·.1) = ns → RepL K F H xs (fs.map (·.2)) →
    (putF f v fs).map (·.1) = (putN f y ns xs).1 ∧ RepL K F H (putN f y ns xs).2 ((putF f v fs).map (·.2))
  | [], _, xs, rfl, r => by
    cases xs with
    | nil => exact ⟨rfl, RepL.one hy⟩
    | cons x xs => obtain ⟨_, _, e, _⟩ := r; cases e
  | (g, w) :: fs, _, xs, rfl, r => by
    cases xs with
    | nil => cases r
    | cons x xs =>
      obtain ⟨v1, vr, e, q1, q2⟩ := r
      cases e
      obtain ⟨i1, i2⟩ := putN_ok hy fs rfl q2
      by_cases h : g = f
      · subst h
        simp only [List.map_cons, putN, if_true]
        rw [show putF g v ((g, w) :: fs) = (g, v) :: fs by simp [putF]]
        exact ⟨rfl, ⟨_, _, rfl, hy, q2⟩⟩
      · simp only [List.map_cons, putN, if_neg h]
        rw [show putF f v ((g, w) :: fs) = (g, w) :: putF f v fs by simp [putF, h]]
        exact ⟨by rw [List.map_cons, i1], ⟨_, _, rfl, q1, i2⟩⟩
def putFld (Cs : List Addr) (f : Str) (ou vu : U) (L : LS) : Option LS := match ou with
  | .l n => (fzU L vu).bind fun p => (match p.2[n]? with
    | some (.i C ns xs) => if ns.length < 1000 ∧ C ∈ Cs then some (p.2.set n (.i C (putN f p.1 ns xs).1 (putN f p.1 ns xs).2)) else none
    | _ => none)
  | _ => none
def sFld (Cs : List Addr) (f : Str) (fo fe : EF) : SF := fun st L => ofR (fe st L) st fun v L1 => ofR (fo st L1) st fun ou L2 => optS (putFld Cs f ou v L2) fun L3 => .nx st L3
section
variable {X : Cx} {W : WX} {o e : Expr} {fo fe : EF} {pos pos' : Pos} {f : Str}
theorem ks_fld {Cs : List Addr} (na : ∀ C ∈ Cs, NoAttr X.K C f) (ho : KE X W o fo) (he : KE X W e fe) (hs : swapsWith e (some (.Attribute o f pos')) pos.line X.env = pure false := by rfl) :
    KS X W (.Assign [.Attribute o f pos'] e pos) (sFld Cs f fo fe) := by
  refine ps_wk (ps_fld ho he hs) fun D σ H ⟨F, ρ, L, st, o, r, h⟩ => ?_
  refine RS.one o r h fun x H1 F1 ρ1 L1 u s1 o1 r1 p1 h1 => ?_
  refine RS.one o1 r1 h1 fun y H2 F2 ρ2 L2 u2 s2 o2 r2 p2 h2 => ?_
  obtain ⟨L3, e3, h2⟩ := h2.optS
  cases u2 with
  | d x => cases e3
  | l n =>
    unfold putFld at e3
    obtain ⟨⟨d, L4⟩, e4, e3⟩ := Option.bind_eq_some_iff.mp e3
    obtain ⟨F4, s4, o4, p4⟩ := fzU_ok o2 (p1.mono s2) e4
    split at e3
    · rename_i C ns xs hl
      split at e3
      · rename_i hz
        cases e3
        obtain ⟨nf, dx, fs, g1, oc, g2, g3⟩ := o4.at_ n _ hl
        obtain ⟨_, rfl⟩ := p2.mono s4
        refine ⟨ρ2 n, C, dx, fs, rfl, g1, oc.cl, na C hz.2, by have := hz.1; rw [← g2] at this; simpa using this, ?_⟩
        obtain ⟨s6, o6⟩ := put_live (u := .ins C dx (putF f x fs)) (lo' := .i C (putN f d ns xs).1 (putN f d ns xs).2) o4 hl rfl rfl fun kk nf => ⟨nf, dx, _, upd_same, oc, putN_ok (Rep.mono kk d p4) fs g2 (RepL.mono kk _ g3)⟩
        exact h2 F4 ρ2 _ σ (s4.trans s6) o6 ((r2.mono s4).mono s6)
      · cases e3
    · cases e3
end
end VL

set_option Elab.async false
set_option linter.all false
set_option maxRecDepth 100000
set_option maxHeartbeats 4000000
namespace VL
open PySem PySem.Spec PyProof.Rows L2
open PySem.W (Frag)

theorem Rm.in1 {k : Nat} {A : Around} (r : Rm (k + 1) A) : Rm k A.in1 := ⟨r.rm.in1, r.gd⟩
/-! ### special names of own classes -/
section
variable {K : Frag} {prog : Program} {w : World} {A : Around} {E : Value → Shared → Prop} {s : Shared} {a C f : Addr} {ox : Obj} {od : Option Obj}
theorem special_own {name : Str} {args : List Value} {Q : Option Value → Shared → Prop} (X : K.In s.heap) (I : PySem.W.InstAt s.heap a ox C od) (hf : PySem.W.findIn K (.ref C) name = some (some (.ref f))) (ht : PySem.W.isFn K (.ref f) = true)
    (hc : wpAny (model prog w) A (call (.ref f) (.ref a :: args)) (fun v s' => Q (some v) s') E s) : wpAny (model prog w) A (callSpecial? (.ref a) name args) Q E s := by
  unfold callSpecial? specialOf bindSpecial
  refine wpAny_bind (wpAny_bind (I.type.here ((PySem.W.looks_findIn X hf).here ?_)))
  refine wpAny_holding (wpAny_bind (wpAny_bind ((PySem.W.looks_typeIn X (beq_iff_eq.mp ht)).here ?_)))
  rw [if_pos (by decide)]
  refine wpAny_pure ?_
  exact wpAny_bind (wpAny_mono hc (fun v s' h => wpAny_pure h) fun _ _ z => z)
theorem special_none {name : Str} {args : List Value} {Q : Option Value → Shared → Prop} (X : K.In s.heap) (I : PySem.W.InstAt s.heap a ox C od) (hf : PySem.W.findIn K (.ref C) name = some none) (h : Q none s) : wpAny (model prog w) A (callSpecial? (.ref a) name args) Q E s := by
  unfold callSpecial? specialOf
  exact wpAny_bind (wpAny_bind (I.type.here ((PySem.W.looks_findIn X hf).here (wpAny_pure h))))
end
/-- own defs of the classes of a table, under one name, called with n values (self among them) -/
def KMt (P : Program) (w : World) (K : Frag) (mg : Str → Option Value) (base : Heap) (k : Nat) (name : Str) (n : Nat) (tb : List (Addr × FF)) : Prop :=
  ∀ C m, (C, m) ∈ tb → ∃ f fd ps src m', Meth K C name f ∧ KFn P w K mg base k f fd ps m' ∧ Bk K fd ps n [] src ∧ m = fun us L => opt (arrU us [] src) fun xs => m' xs L
theorem mem_of_lookup {β : Type} : ∀ {tb : List (Addr × β)} {C : Addr} {m : β}, tb.lookup C = some m → (C, m) ∈ tb
  | (D, b) :: tb, C, m, e => by
    by_cases h : (C == D) = true
    · rw [List.lookup_cons, h] at e
      cases e
      exact .head _ |> fun z => (beq_iff_eq.mp h) ▸ z
    · rw [List.lookup_cons, Bool.eq_false_iff.mpr h] at e
      exact .tail _ (mem_of_lookup e)
section
variable {X : Cx} {W : WX} {k : Nat}
/-- a def runs, under any surroundings -/
theorem run_ka {A : Around} {f : Addr} {fd : FuncData} {ps ks : List Str} {m : FF} {src : List Sr} {n : Nat} {pins : List (Addr × Obj)} {σ : L2.St} {H : Hp} {s : Shared} {Q : VK} {F : Addr → Prop} {ρ : Nat → Addr} {L : LS} {us ws : List U} {vs zs : List V} {uv wv : List Value}
    (G : KFn X.prog X.w X.K X.mg X.base k f fd ps m) (hr : Rm k A) (e0 : Env0 X.prog X.w X.K X.mg X.base A X.stack s H) (hb : Bk X.K fd ps n ks src) (tk : Takes X W) (I : Inv X pins σ H s) (o : Ok X.K F ρ H L) (r1 : RepUs X.K F ρ H L us vs) (r2 : RepUs X.K F ρ H L ws zs) (v1 : Vals vs uv) (v2 : Vals zs wv)
    (hn : us.length = n) (hks : ws.length = ks.length) (h : GE RepU X.K W σ F ρ H L Q (opt (arrU us ws src) fun xs => m xs L)) : wpAny (model X.prog X.w) A (call (.ref f) uv (ks.zip wv)) (EP X pins σ Q) X.xe s := by
  obtain ⟨xs, e1, h⟩ := h.opt
  obtain ⟨out, bd, pr⟩ := hb.bind s uv wv I.kIn (by rw [← v1.length, r1.length]; exact hn) (by rw [← v2.length, r2.length]; exact hks)
  obtain ⟨ys, q1, q2⟩ := arr_ok r1 r2 v1 v2 pr e1
  have hlen : xs.length = ps.length := by
    rw [← q1.length, q2.length, ← Paired.length pr]; exact hb.len
  refine wpAny_call (codeAny_mono (G.run A X.stack s H ⟨uv, ks.zip wv⟩ out ys Q (fun c d H' => W c d σ H') hr e0 bd q2 ⟨F, ρ, L, xs, o, q1, hlen, ?_⟩) fun r s' hq => ?_)
  · cases e : m xs L with
    | ok a L' => rw [e] at h; exact h
    | ex C ns ds L' => rw [e] at h; exact h
    | no => rw [e] at h; exact h
  · cases r with
    | error x => exact tk x s' (XE.of_call I (fun _ _ _ z => z) hq)
    | ok fl =>
      cases fl with
      | ret u => exact I.after hq
      | next => exact False.elim hq
      | brk => exact False.elim hq
      | cont => exact False.elim hq
/-! ### the truth of instances -/
def NoTru (K : Frag) (C : Addr) : Prop := PySem.W.findIn K (.ref C) "__bool__" = some none ∧ PySem.W.findIn K (.ref C) "__len__" = some none
def truG (no : List Addr) (tb : List (Addr × FF)) (u : U) (L : LS) : Rs Bool := opt (rdU L u) fun d => match d with
  | .ins C _ _ => if C ∈ no then .ok true L else (match tb.lookup C with
    | some m => (m [u] L).bind fun r L1 => (match r with
      | .d (.bl b) => .ok b L1
      | _ => .no)
    | none => .no)
  | d => opt (truB d) fun k => .ok k L
theorem inst_ins {pins : List (Addr × Obj)} {σ : L2.St} {H : Hp} {s : Shared} {a C dx : Addr} {fs : List (Str × V)} (I : Inv X pins σ H s) (e : H a = some (.ins C dx fs)) : ∃ od, PySem.W.InstAt s.heap a (PySem.W.instObj C dx) C (some od) := by
  obtain ⟨mA, O, _⟩ := ins_get I.hok e
  obtain ⟨od, J, _⟩ := O.look
  exact ⟨od, J⟩
theorem truthy_ins {A : Around} {no : List Addr} {tb : List (Addr × FF)} {pins : List (Addr × Obj)} {σ : L2.St} {H : Hp} {s : Shared} {Q : Bool → Hp → Prop} {F : Addr → Prop} {ρ : Nat → Addr} {L : LS} {u : U} {v : V} {C : Addr} {ns : List Str} {xs : List D} {z : Value}
    (hno : ∀ C ∈ no, NoTru X.K C) (T : KMt X.prog X.w X.K X.mg X.base k "__bool__" 1 tb) (hr : Rm k A) (e0 : Env0 X.prog X.w X.K X.mg X.base A X.stack s H) (tk : Takes X W) (I : Inv X pins σ H s) (o : Ok X.K F ρ H L) (p : RepU X.K F ρ H L u v) (rz : RelV v z) (e : rdU L u = some (.ins C ns xs))
    (h : GE PB X.K W σ F ρ H L Q (truG no tb u L)) : wpAny (model X.prog X.w) A (truthy z) (fun b s' => ∃ H', Inv X pins σ H' s' ∧ Q b H') X.xe s := by
  obtain ⟨a, dx, fs, rfl, ha, oc, hns, hxs⟩ := (show ∃ a dx fs, v = .ref a ∧ H a = some (.ins C dx fs) ∧ OwnC X.K C ∧ fs.map (·.1) = ns ∧ RepL X.K F H xs (fs.map (·.2)) from rdr_of o p e)
  obtain rfl : z = Value.ref a := rz
  obtain ⟨od, J⟩ := inst_ins I ha
  unfold truG at h
  rw [e] at h
  simp only [opt] at h
  unfold truthy
  by_cases hC : C ∈ no
  · rw [if_pos hC] at h
    obtain ⟨n1, n2⟩ := hno C hC
    first
      | refine wpAny_bind (special_none (name := Str.ofString "__bool__") I.kIn J n1 ?_)
      | refine wpAny_bind (wpAny_pure (wpAny_bind (special_none (name := Str.ofString "__bool__") I.kIn J n1 ?_)))
    have hsp : ∀ {Q' : Option Value → Shared → Prop}, Q' none s → wpAny (model X.prog X.w) A (specialOf (.ref a) "__len__") Q' X.xe s := fun q => by
      unfold specialOf
      exact wpAny_bind (J.type.here ((PySem.W.looks_findIn I.kIn n2).here q))
    have fin : Q true H := h F ρ H true Step.refl o rfl
    first
      | refine wpAny_bind (hsp ?_)
      | refine wpAny_bind (wpAny_pure (wpAny_bind (hsp ?_)))
    exact wpAny_pure ⟨H, I, fin⟩
  · rw [if_neg hC] at h
    cases el : tb.lookup C with
    | none => rw [el] at h; exact h.elim
    | some m =>
      rw [el] at h
      obtain ⟨f, fd, ps, src, m', M, G, B, rfl⟩ := T C m (mem_of_lookup el)
      have key : wpAny (model X.prog X.w) A (call (.ref f) [.ref a]) (fun v s' => ∃ b, v = .bool b ∧ ∃ H', Inv X pins σ H' s' ∧ Q b H') X.xe s := by
        refine thn (run_ka (us := [u]) (vs := [.ref a]) (uv := [.ref a]) (ws := []) (zs := []) (wv := []) (ks := []) (Q := fun v H' => ∃ b, v = .bl b ∧ Q b H') G hr e0 B tk I o ⟨_, _, rfl, p, rfl⟩ rfl (.cons rfl .nil) .nil rfl rfl ?_) fun r s' hq => ?_
        · dsimp only at h ⊢
          cases ex : (opt (arrU [u] [] src) fun xs => m' xs L) with
          | ok r L1 =>
            rw [ex] at h
            dsimp only [Rs.bind] at h
            intro F2 ρ2 H2 b s2 o2 p2
            split at h
            · rename_i b2
              obtain rfl : b = .bl b2 := p2
              exact ⟨b2, rfl, h F2 ρ2 H2 b2 s2 o2 rfl⟩
            · exact h.elim
          | ex C ns ds L' => rw [ex] at h; exact h
          | no => rw [ex] at h; exact h
        · obtain ⟨x, H', I', rx, b, rfl, q⟩ := hq
          exact ⟨b, rx, H', I', q⟩
      first
        | refine wpAny_bind (special_own (name := Str.ofString "__bool__") (args := []) I.kIn J M.at_ M.fn (thn key fun r s' hq => ?_))
        | refine wpAny_bind (wpAny_pure (wpAny_bind (special_own (name := Str.ofString "__bool__") (args := []) I.kIn J M.at_ M.fn (thn key fun r s' hq => ?_))))
      obtain ⟨b, rfl, H', I', q⟩ := hq
      exact wpAny_pure ⟨H', I', q⟩
end
section
variable {X : Cx} {W : WX} {k : Nat}
theorem call_boolI {no : List Addr} {tb : List (Addr × FF)} {pins : List (Addr × Obj)} {σ : L2.St} {H : Hp} {s : Shared} {Q : VK} {F : Addr → Prop} {ρ : Nat → Addr} {L : LS} {u : U} {v : V} {C : Addr} {ns : List Str} {xs : List D} {z : Value}
    (hno : ∀ C ∈ no, NoTru X.K C) (T : KMt X.prog X.w X.K X.mg X.base k "__bool__" 1 tb) (hr : Rm (k + 2) X.A) (tk : Takes X W) (I : Inv X pins σ H s) (o : Ok X.K F ρ H L) (p : RepU X.K F ρ H L u v) (rz : RelV v z) (e : rdU L u = some (.ins C ns xs))
    (h : GE PB X.K W σ F ρ H L (fun b H' => Q (.bl b) H') (truG no tb u L)) : wpAny (model X.prog X.w) X.A (call (.type "bool") [z]) (EP X pins σ Q) X.xe s := by
  have key := truthy_ins hno T hr.in1.in1 I.env0.in1.in1 tk I o p rz e h
  refine callType_codes (Q₁ := fun obj s' => ∃ b, obj = .bool b ∧ ∃ H', Inv X pins σ H' s' ∧ Q (.bl b) H') PySem.F.called_bool (PySem.F.typeCall_bool_1 z) PySem.F.entry_object_init ?_ fun obj s1 hq => ?_
  · refine codeAny_call_builtin (by decide +kernel) PySem.F.entry_bool_new (wpAny_of_eq (PySem.F.newCall_bool_1 z) ?_)
    have f1 := PySem.F.conv_sub_bool
    unfold Builtin.«bool.__new__»
    repeat (any_goals (first | assumption | (with_reducible refine wpAny_bind (thn key ?_)) | wp_step))
    exact fun b s1 ⟨H', I', q⟩ => wpAny_pure ⟨b, rfl, H', I', q⟩
  · obtain ⟨b, rfl, H', I', q⟩ := hq
    exact ⟨rfl, PySem.F.args_object_init_2 _ _, object_init_meets PySem.F.called_bool.init.lookup PySem.F.called_bool.made PySem.F.newNe_bool X.prog X.w X.A.in1 _ s1 ⟨rfl, rfl, ⟨.bl b, H', I', rfl, q⟩⟩⟩
/-- a built-in function or type, by what it is called with -/
def CallU (X : Cx) (W : WX) (fv : Value) (g : List U → LS → Rs U) : Prop := ∀ (pins : List (Addr × Obj)) (s : Shared) (σ : L2.St) (H : Hp) (vs : List V) (us : List Value) (Q : VK) (F : Addr → Prop) (ρ : Nat → Addr) (L : LS) (uu : List U),
  Inv X pins σ H s → Ok X.K F ρ H L → RepUs X.K F ρ H L uu vs → Vals vs us → GE RepU X.K W σ F ρ H L Q (g uu L) → wpAny (model X.prog X.w) X.A (call fv us) (EP X pins σ Q) X.xe s
theorem CallU.ofD {fv : Value} {g : List D → Option D} (h : CallR X fv (rDn X.K g)) : CallU X W fv (opn g) := fun pins s σ H vs us Q F ρ L uu I o r rv q => h pins s σ H vs us Q I rv (opn_ok o r q)
def eFnU (g : List U → LS → Rs U) (f : AF) : EF := fun st L => (f st L).bind fun us L1 => g us L1
section
variable {x : Str} {T id : String} {p pos : Pos} {g : List U → LS → Rs U} {e : Expr} {es : List Expr} {f : AF}
theorem ke_callTU (hc : CallU X W (.type T) g) (hm : X.mg x = none) (hv : bootBuiltins x = some (.type T)) (ha : KA X W (e :: es) f) (hg : Gl X x := by rfl) (hn : x ≠ "__name__" := by decide) (hdb : (x == ("__debug__" : Str)) = false := by decide)
    (he : starEach (e :: es) X.env = (false, eval e X.env) :: starEach es X.env := by rfl) (hpl : (backTo pos (starEach es X.env)).any (·.1) = false := by rfl) : KE X W (.Call (.Name x p) (e :: es) [] pos) (eFnU g f) := by
  refine ⟨fun pins s σ H Q I ⟨F, ρ, L, st, o, r, h⟩ => ?_⟩
  refine wpAny_Call_Name_kw (ld_blt I hg hm hv ?_ hn hdb)
  refine PyProof.Rows.callWith_type1 (thn (PA.run ha pos pins s σ H (fun vs H1 => ∃ F1 ρ1 L1 us, Ok X.K F1 ρ1 H1 L1 ∧ RepUs X.K F1 ρ1 H1 L1 us vs ∧ GE RepU X.K W σ F1 ρ1 H1 L1 Q (g us L1)) I (RG.one (P := RepUs) o r h fun vs H1 F1 ρ1 L1 us s1 o1 r1 p1 h1 => ⟨F1, ρ1, L1, us, o1, p1, h1⟩)) fun us s1 ⟨vs, H1, I1, rv, F1, ρ1, L1, uu, o1, p1, h1⟩ => ?_) he hpl
  exact hc pins s1 σ H1 vs us Q F1 ρ1 L1 uu I1 o1 p1 rv h1
end
def boolU (no : List Addr) (tb : List (Addr × FF)) : List U → LS → Rs U
  | [u], L => (match rdU L u with
    | some (.ins _ _ _) => (truG no tb u L).bind fun b L1 => .ok (.d (.bl b)) L1
    | _ => .no)
  | _, _ => .no
theorem cu_bool {no : List Addr} {tb : List (Addr × FF)} (hno : ∀ C ∈ no, NoTru X.K C) (T : KMt X.prog X.w X.K X.mg X.base k "__bool__" 1 tb) (hr : Rm (k + 2) X.A) (tk : Takes X W) : CallU X W (.type "bool") (boolU no tb) := by
  intro pins s σ H vs us Q F ρ L uu I o r rv h
  match uu, r, h with
  | [u], r, h =>
    obtain ⟨v, t, rfl, p, q⟩ := r
    cases q
    obtain ⟨z, rfl, rz⟩ := vals1 rv
    dsimp only [boolU] at h
    cases e : rdU L u with
    | none => rw [e] at h; exact h.elim
    | some d =>
      rw [e] at h
      cases d with
      | ins C ns xs =>
        refine call_boolI hno T hr tk I o p rz e ?_
        dsimp only at h
        cases ex : truG no tb u L with
        | ok b L1 => rw [ex] at h; exact fun F2 ρ2 H2 b2 s2 o2 p2 => h F2 ρ2 H2 (.bl b2) s2 o2 (by rw [← show b = b2 from p2]; rfl)
        | ex C ns ds L' => rw [ex] at h; exact h
        | no => rw [ex] at h; exact h
      | _ => exact h.elim
  | [], _, h => exact h.elim
  | _ :: _ :: _, _, h => exact h.elim
end
end VL

set_option Elab.async false
set_option linter.all false
set_option maxRecDepth 100000
set_option maxHeartbeats 4000000
namespace VL
open PySem PySem.Spec PyProof.Rows L2
open PySem.W (Frag)

/-! ### int of long texts -/
def NoDig (h : Heap) : Prop := ∃ mc, h.Ns cStatics mc ∧ mc "sys.int_max_str_digits" = none
theorem wp_textL {M : Model} {A : Around} {E : Value → Shared → Prop} {s : Shared} {Q : Value → Shared → Prop} {v : Value} {text : List Nat} {n : Int}
    (nd : NoDig s.heap) (hs : ¬ (text.takeWhile (· != 0)).length ≤ 640) (hr : (int_private% "readNumeral") 4300 10 (text.takeWhile (· != 0)) = (int_private% "Numeral.value") n)
    (ha : ((text.takeWhile (· != 0)).length == text.length) = true) (h : Q (.int n s.toks) { s with toks := s.toks + 1 }) :
    wpAny M A ((int_private% "intFromText") v text 10) Q E s := by
  obtain ⟨mc, h1, h2⟩ := nd
  have hm : wpAny M A Builtin.intMaxStrDigits (fun k s' => k = 4300 ∧ s' = s) E s := by
    unfold Builtin.intMaxStrDigits
    refine wpAny_bind (wpAny_nsGet h1 ?_)
    rw [h2]
    exact wpAny_pure ⟨rfl, rfl⟩
  obtain ⟨hp, g, d, tk, os⟩ := s
  have hs' : decide ((text.takeWhile (· != 0)).length ≤ 640) = false := decide_eq_false hs
  repeat (any_goals (first
    | assumption
    | (with_reducible refine wpAny_ite_false hs ?_)
    | (with_reducible refine wpAny_ite_true (decide_eq_true ha) ?_)
    | (with_reducible refine wpAny_bind (wpAny_mono hm (fun k s' hk => ?_) fun _ _ z => z))
    | wp_step))
  obtain ⟨rfl, rfl⟩ := hk
  rw [hr]
  dsimp only
  repeat (any_goals (first
    | assumption
    | (with_reducible refine wpAny_ite_true (decide_eq_true ha) ?_)
    | wp_step))
theorem meets_textL {x : PySem.Str} {u : Tok} {n : Int} (hl : x.length ≤ sizeLine) (hn : PySem.intText? x = some n) :
    Meets (Builtin.«int.__new__» ⟨[.type "int", .str x u], []⟩) (fun _ R s => NoDig s.heap ∧ R (.ok (.ret (.int n s.toks))) { s with toks := s.toks + 1 }) :=
  Meets.of_wp fun prog w A R s hs => by
    obtain ⟨nd, h⟩ := hs
    obtain ⟨hp, g, d, tk, os⟩ := s
    have f1 := F.conv_sub_int
    have f2 := F.madeHere_int
    have f3 := PySem.W.KIN.str_int
    have f4 := PySem.W.KIN.str_idx
    have f5 := PySem.W.KIN.str_trunc
    have f6 : typeOf (.str x u) = pure (.type "str") := rfl
    by_cases hs : (PySem.numSeenOf x).length ≤ 640
    · have hr : (int_private% "readNumeral") 0 10 (PySem.numSeenOf x) = (int_private% "Numeral.value") n ∧ ((PySem.numSeenOf x).length == (PySem.numTextOf x).length) = true := by
        rcases PySem.read0 x hs with ⟨m, h1, h2, h3⟩ | ⟨h1, _⟩
        · rw [hn] at h1
          injection h1 with h1
          subst h1
          exact ⟨h3, h2⟩
        · rw [hn] at h1
          cases h1
      have hk := PySem.W.KIN.Hid.mk (And.intro hs hr)
      clear hs hr hl hn
      repeat (any_goals (first
        | assumption
        | ((with_reducible show wpAny _ _ ((int_private% "intFromText") _ _ _) _ _ _); refine PySem.W.KIN.wp_text hk.out.1 hk.out.2.1 hk.out.2.2 ?_)
        | wp_step))
      all_goals first | exact ⟨_, rfl, h⟩ | skip
    · have hr : (int_private% "readNumeral") 4300 10 (PySem.numSeenOf x) = (int_private% "Numeral.value") n ∧ ((PySem.numSeenOf x).length == (PySem.numTextOf x).length) = true := by
        rcases PySem.read4300 x hl with ⟨m, h1, h2, h3⟩ | ⟨h1, _⟩
        · rw [hn] at h1
          injection h1 with h1
          subst h1
          exact ⟨h3, h2⟩
        · rw [hn] at h1
          cases h1
      have hk := PySem.W.KIN.Hid.mk (And.intro nd (And.intro hs hr))
      clear hs hr hl hn nd
      repeat (any_goals (first
        | assumption
        | ((with_reducible show wpAny _ _ ((int_private% "intFromText") _ _ _) _ _ _); refine wp_textL hk.out.1 hk.out.2.1 hk.out.2.2.1 hk.out.2.2.2 ?_)
        | wp_step))
      all_goals first | exact ⟨_, rfl, h⟩ | skip
end VL

set_option Elab.async false
set_option linter.all false
set_option maxRecDepth 100000
set_option maxHeartbeats 4000000
namespace VL
open PySem PySem.Spec PyProof.Rows L2
open PySem.W (Frag)

section
variable {X : Cx} {W : WX}
def intL : List D → Option D
  | [.int i] => some (.int i)
  | [.bl b] => some (.int (if b then 1 else 0))
  | [.str x] => if x.length ≤ big then (PySem.intText? x).map .int else none
  | _ => none
theorem NoDig.keeps {h h' : Heap} (n : NoDig h) (k : ∀ b o, h.get? b = some o → h'.get? b = some o) : NoDig h' := let ⟨mc, a, b⟩ := n; ⟨mc, a.keeps k, b⟩
theorem cd_intL (nd : NoDig X.base) : CallR X (.type "int") (rDn X.K intL) := by
  intro pins s σ H xs us Q I rs ⟨F, ρ, L, ds, d, o, r, e, k⟩
  unfold intL at e
  split at e <;> try cases e
  · obtain ⟨v, rfl, h⟩ := one_of r
    cases h
    exact call_int1 pins s σ H _ us Q I rs (.inl ⟨_, rfl, k F H _ Step.refl o rfl⟩)
  · obtain ⟨v, rfl, h⟩ := one_of r
    cases h
    exact call_int1 pins s σ H _ us Q I rs (.inr ⟨_, rfl, k F H _ Step.refl o rfl⟩)
  · obtain ⟨v, rfl, h⟩ := one_of r
    cases h
    split at e
    · rename_i hz
      obtain ⟨n, e2, rfl⟩ := Option.map_eq_some_iff.mp e
      obtain ⟨u, rfl, ru⟩ := vals1 rs
      obtain ⟨t, rfl⟩ := ru
      refine call_int_1 (meets_textL (by rw [big_eq]; exact hz) e2) ⟨nd.keeps I.bk, rfl, ?_⟩
      exact ⟨.int n, H, I.tok _, ⟨_, rfl⟩, k F H _ Step.refl o rfl⟩
    · cases e

/-! ### text * n -/
def repS (x : Str) (n : Int) : Str := ⟨(List.replicate n.toNat x.cps).foldl (· ++ ·) #[]⟩
def smulD : D → D → Option D
  | .str x, .int n => if 2 ≤ n ∧ 0 < x.length ∧ x.length * n.toNat ≤ big then some (.str (repS x n)) else none
  | _, _ => none
theorem od_smul : OpR X (binaryOp .Mult) (rD2 X.K smulD) := by
  intro pins s σ H x y v u Q I rx ry ⟨F, ρ, L, dx, dy, d, o, r1, r2, e, k⟩
  unfold smulD at e
  split at e
  · rename_i a n
    split at e
    · rename_i hz
      obtain ⟨h2, hx, hb⟩ := hz
      cases e
      cases r1; cases r2
      obtain ⟨t, rfl⟩ := rx
      obtain ⟨t2, rfl⟩ := ry
      have hn1 : ¬ n < 1 := by omega
      have hnn : (n == 1 || a.length == 0) = false := by
        rw [Bool.or_eq_false_iff]
        exact ⟨beq_eq_false_iff_ne.mpr (by omega), beq_eq_false_iff_ne.mpr (by omega)⟩
      have hB : (n.toNat : Int) = n := Int.toNat_of_nonneg (by omega)
      have hmul : n.toNat ≤ a.length * n.toNat := Nat.le_mul_of_pos_left _ hx
      have hbig : n.toNat ≤ big := Nat.le_trans hmul hb
      have hbn : big < 2 ^ 40 := by decide
      have lenR : (repS a n).length = a.length * n.toNat := by
        unfold repS
        have : ∀ (m : Nat) (acc : Array Nat), ((List.replicate m a.cps).foldl (· ++ ·) acc).size = acc.size + a.cps.size * m := by
          intro m
          induction m with
          | zero => intro acc; simp
          | succ m ih => intro acc; rw [List.replicate_succ, List.foldl_cons, ih]; simp [Nat.mul_succ]; omega
        have := this n.toNat #[]
        simpa [Str.length] using this
      refine P.mul_str ?_ (fun _ _ => ?_) (fun _ _ => ?_) ?_
      · rw [Bool.or_eq_false_iff]
        exact ⟨decide_eq_false (by omega), decide_eq_false (by omega)⟩
      · intro hc
        have : (a.length : Int) * n ≤ 2 ^ 40 := by rw [← hB]; exact_mod_cast (by omega : a.length * n.toNat ≤ 2 ^ 40)
        have h3 := Int.lt_iff_add_one_le.mp hc
        have h4 : ((2 ^ 63 - 1) / n + 1) * n ≤ (a.length : Int) * n := Int.mul_le_mul_of_nonneg_right h3 (by omega)
        have h5 := Int.mul_ediv_add_emod (2 ^ 63 - 1) n
        have h6 := Int.emod_lt_of_pos (2 ^ 63 - 1) (show (0 : Int) < n by omega)
        have h7 : ((2 ^ 63 - 1) / n + 1) * n = n * ((2 ^ 63 - 1) / n) + n := by rw [Int.add_mul, Int.one_mul, Int.mul_comm]
        omega
      · unfold Builtin.Str.tooLong
        simp only [decide_eq_false_iff_not]
        have := hb
        first | omega | (rw [big_eq]; omega)
      · rw [if_neg hn1, if_neg (by rw [hnn]; exact Bool.false_ne_true)]
        exact ⟨by rw [big_eq]; show (repS a n).length ≤ big; rw [lenR]; exact hb, ⟨.str (repS a n), H, I.tok _, ⟨_, rfl⟩, k F H _ Step.refl o rfl⟩⟩
    · cases e
  · cases e

/-! ### repr of lists and tuples of plain data -/
def reprD : List D → Option D
  | [.lst xs] => (toPyL xs).bind fun ps => if PyData.showable (.list ps) ∧ PyData.hasDict (.list ps) = false ∧ PyData.depth (.list ps) ≤ 60 ∧ (PyData.shown (.list ps)).length ≤ big then some (.str (PyData.shown (.list ps))) else none
  | [.tup xs] => (toPyL xs).bind fun ps => if PyData.showable (.tuple ps) ∧ PyData.hasDict (.tuple ps) = false ∧ PyData.depth (.tuple ps) ≤ 60 ∧ (PyData.shown (.tuple ps)).length ≤ big then some (.str (PyData.shown (.tuple ps))) else none
  | _ => none
theorem Inv.more {pins : List (Addr × Obj)} {σ : L2.St} {H : Hp} {s : Shared} {h' : Heap} {t' : Nat} (I : Inv X pins σ H s) (k : ∀ b o, s.heap.get? b = some o → h'.get? b = some o) : Inv X pins σ H { s with heap := h', toks := t' } :=
  Inv.turnedL (ch := []) I (fun b o _ e => k b o e) fun b hb => absurd hb (by simp)
theorem cd_repr {j : Nat} (hr : Rm j X.A) : CallR X (.builtin "repr") (rDn X.K reprD) := by
  intro pins s σ H xs us Q I rs ⟨F, ρ, L, ds, d, o, r, e, k⟩
  have hu := hr.u
  unfold reprD at e
  split at e
  · rename_i ys
    obtain ⟨v, rfl, h⟩ := one_of r
    obtain ⟨ps, e1, e2⟩ := Option.bind_eq_some_iff.mp e
    split at e2
    · rename_i hz
      cases e2
      obtain ⟨u, rfl, ru⟩ := vals1 rs
      have hp : toPy (.lst ys) = some (.list ps) := by simp [toPy, e1]
      obtain ⟨as, R⟩ := Dp.reads I _ _ _ (toPy_dp (.lst ys) h hp) ru
      obtain ⟨a, vs, rfl, _⟩ := h
      obtain rfl : u = Value.ref a := ru
      exact repr_of_reads' R hz.1 (fun z => by rw [hz.2.1] at z; cases z) hr.gd (by have := hz.2.2.1; omega) (fun _ _ z => z) (fun h' t tk hk => ⟨.str _, H, Inv.more I hk, ⟨_, rfl⟩, k F H _ Step.refl o rfl⟩) (by rw [big_eq]; exact hz.2.2.2)
    · cases e2
  · rename_i ys
    obtain ⟨v, rfl, h⟩ := one_of r
    obtain ⟨ps, e1, e2⟩ := Option.bind_eq_some_iff.mp e
    split at e2
    · rename_i hz
      cases e2
      obtain ⟨u, rfl, ru⟩ := vals1 rs
      have hp : toPy (.tup ys) = some (.tuple ps) := by simp [toPy, e1]
      obtain ⟨as, R⟩ := Dp.reads I _ _ _ (toPy_dp (.tup ys) h hp) ru
      obtain ⟨a, vs, rfl, _⟩ := h
      obtain rfl : u = Value.ref a := ru
      exact repr_of_reads' R hz.1 (fun z => by rw [hz.2.1] at z; cases z) hr.gd (by have := hz.2.2.1; omega) (fun _ _ z => z) (fun h' t tk hk => ⟨.str _, H, Inv.more I hk, ⟨_, rfl⟩, k F H _ Step.refl o rfl⟩) (by rw [big_eq]; exact hz.2.2.2)
    · cases e2
  · cases e
end
end VL

set_option Elab.async false
set_option linter.all false
set_option maxRecDepth 100000
set_option maxHeartbeats 4000000
namespace VL
open PySem PySem.Spec PyProof.Rows L2
open PySem.W (Frag)

/-! ### {k: v, ..} -/
def keyD : D → Option Key
  | .int i => some (.inl i)
  | .str x => some (.inr x)
  | _ => none
def keyU : U → Option Key
  | .d d => keyD d
  | .l _ => none
theorem keyD_ok {K : Frag} {F : Addr → Prop} {H : Hp} {d : D} {k : Key} {v : V} (e : keyD d = some k) (r : Rep K F H d v) : v = kV k := by
  cases d <;> simp only [keyD] at e <;> cases e <;> cases r <;> rfl
def putKD (kvs : List (Key × D)) (k : Key) (v : D) : List (Key × D) :=
  if (kvs.any fun kv => decide (kv.1 = k)) = true then kvs.map (fun kv => if kv.1 = k then (kv.1, v) else kv) else kvs ++ [(k, v)]
def mergeKD (kvs more : List (Key × D)) : List (Key × D) := more.foldl (fun acc kv => putKD acc kv.1 kv.2) kvs
abbrev RepKV (K : Frag) (F : Addr → Prop) (H : Hp) : List (Key × D) → List (Key × V) → Prop := Paired fun p q => p.1 = q.1 ∧ Rep K F H p.2 q.2
section
variable {K : Frag} {F : Addr → Prop} {H : Hp}
theorem RepKV.put {k : Key} {d : D} {v : V} (hv : Rep K F H d v) {a : List (Key × D)} {b : List (Key × V)} (h : RepKV K F H a b) : RepKV K F H (putKD a k d) (putK b k v) := by
  have e : ∀ {a : List (Key × D)} {b : List (Key × V)}, RepKV K F H a b → (a.any fun kv => decide (kv.1 = k)) = (b.any fun kv => decide (kv.1 = k)) := by
    intro a b h
    induction h with
    | nil => rfl
    | cons q _ ih => simp only [List.any_cons, ih, q.1]
  unfold putKD putK
  rw [e h]
  split
  · clear e
    rename_i hh; clear hh
    induction h with
    | nil => exact .nil
    | cons q _ ih =>
      simp only [List.map_cons]
      refine .cons ?_ ih
      rw [q.1]
      split
      · exact ⟨rfl, hv⟩
      · exact q
  · clear e
    rename_i hh; clear hh
    induction h with
    | nil => exact .cons ⟨rfl, hv⟩ .nil
    | cons q _ ih => exact .cons q ih
theorem RepKV.merge {more : List (Key × D)} {ms : List (Key × V)} (h : RepKV K F H more ms) : ∀ {a : List (Key × D)} {b : List (Key × V)}, RepKV K F H a b → RepKV K F H (mergeKD a more) (mergeK b ms) := by
  induction h with
  | nil => intro a b q; exact q
  | cons q _ ih =>
    intro a b r
    unfold mergeKD mergeK at ih ⊢
    simp only [List.foldl_cons]
    rw [← q.1]
    exact ih (RepKV.put q.2 r)
theorem RepKV.keys {a : List (Key × D)} {b : List (Key × V)} (h : RepKV K F H a b) : b.map (·.1) = a.map (·.1) := by
  induction h with
  | nil => rfl
  | cons q _ ih => simp only [List.map_cons, ih, q.1]
theorem RepKV.vals {a : List (Key × D)} {b : List (Key × V)} (h : RepKV K F H a b) : RepL K F H (a.map (·.2)) (b.map (·.2)) := by
  induction h with
  | nil => rfl
  | cons q _ ih => exact ⟨_, _, rfl, q.2, ih⟩
theorem RepKV.mono {F' : Addr → Prop} {H' : Hp} (k : ∀ a, F a → F' a ∧ H' a = H a) {a : List (Key × D)} {b : List (Key × V)} (h : RepKV K F H a b) : RepKV K F' H' a b := by
  induction h with
  | nil => exact .nil
  | cons q _ ih => exact .cons ⟨q.1, Rep.mono k _ q.2⟩ ih
end
def PKV : PP (List (Key × D)) (List (V × V)) := fun K F ρ H L a b => ∃ kvs : List (Key × V), b = kvs.map (fun kv => (kV kv.1, kv.2)) ∧ RepKV K F H a kvs
def dPairs : List (EF × EF) → SS → LS → Rs (List (Key × D))
  | [], _, L => .ok [] L
  | (fk, fv) :: r, st, L => (fk st L).bind fun uk L1 => (fv st L1).bind fun uv L2 => opt (keyU uk) fun k => opt (fzU L2 uv) fun p => (dPairs r st p.2).bind fun ps L3 => .ok ((k, p.1) :: ps) L3
section
variable {K : Frag} {W : WX}
/-- as RG.one, what is wanted told from an earlier state on -/
theorem RG.base {α β γ δ : Type} {P : PP α β} {P' : PP γ δ} {f : SS → LS → Rs α} {g : α → LS → Rs γ} {σ : L2.St} {F F1 : Addr → Prop} {ρ ρ1 : Nat → Addr} {H H1 : Hp} {L L1 : LS} {st : SS} {Q : δ → Hp → Prop} {Q' : β → Hp → Prop} (s1 : Step F ρ H L F1 ρ1 H1 L1) (o1 : Ok K F1 ρ1 H1 L1) (r1 : RepSt K F1 ρ1 H1 L1 σ st)
    (h : GE P' K W σ F ρ H L Q ((f st L1).bind g)) (q : ∀ b H2 F2 ρ2 L2 a, Step F1 ρ1 H1 L1 F2 ρ2 H2 L2 → Ok K F2 ρ2 H2 L2 → RepSt K F2 ρ2 H2 L2 σ st → P K F2 ρ2 H2 L2 a b → GE P' K W σ F ρ H L Q (g a L2) → Q' b H2) : RG P K W f σ H1 Q' := by
  refine ⟨F1, ρ1, L1, st, o1, r1, ?_⟩
  cases e : f st L1 with
  | ok a L2 => rw [e] at h; exact fun F2 ρ2 H2 b s2 o2 p2 => q b H2 F2 ρ2 L2 a s2 o2 (r1.mono s2) p2 h
  | ex C ns xs L2 => rw [e] at h; exact fun F2 ρ2 H2 d s2 o2 t => h F2 ρ2 H2 d (s1.trans s2) o2 t
  | no => rw [e] at h; exact h
theorem pairs_read : ∀ (ps : List (EF × EF)) {σ : L2.St} {H : Hp} {Q : List (V × V) → Hp → Prop}, RG PKV K W (dPairs ps) σ H Q → tPairs (ps.map fun q => (RG RepU K W q.1, RG RepU K W q.2)) σ H Q
  | [], σ, H, Q, ⟨F, ρ, L, st, o, r, h⟩ => h.fin (b := []) o ⟨[], rfl, .nil⟩
  | (fk, fv) :: ps, σ, H, Q, ⟨F, ρ, L, st, o, r, h⟩ => by
    refine RG.one o r h fun x H1 F1 ρ1 L1 u s1 o1 r1 p1 h1 => ?_
    refine RG.one o1 r1 h1 fun y H2 F2 ρ2 L2 u2 s2 o2 r2 p2 h2 => ?_
    obtain ⟨k, e1, h2⟩ := h2.opt
    obtain ⟨⟨d, L3⟩, e2, h2⟩ := h2.opt
    obtain ⟨F3, s3, o3, p3⟩ := fzU_ok o2 p2 e2
    have h3 := GE.on s3 h2
    refine pairs_read ps (RG.one (P := PKV) o3 (r2.mono s3) h3 fun z H4 F4 ρ4 L4 a s4 o4 r4 p4 h4 => ?_)
    obtain ⟨kvs, rfl, q⟩ := p4
    have ek : x = kV k := by
      cases u with
      | d dk => exact keyD_ok e1 p1
      | l n => cases e1
    exact h4.fin o4 ⟨(k, y) :: kvs, by rw [ek]; rfl, .cons ⟨rfl, Rep.mono s4.fz _ p3⟩ q⟩
end
section
variable {X : Cx} {W : WX} {pos : Pos}
structure KPs (X : Cx) (W : WX) (pos : Pos) (keys : List (Option Expr)) (values : List Expr) (ps : List (EF × EF)) : Prop where
  run : PPs X pos keys values (ps.map fun q => (RG RepU X.K W q.1, RG RepU X.K W q.2))
theorem kps_nil : KPs X W pos [] [] [] := ⟨pps_nil⟩
theorem kps_cons {k v : Expr} {ks : List (Option Expr)} {vs : List Expr} {fk fv : EF} {ps : List (EF × EF)} (hk : KE X W k fk) (hv : KE X W v fv) (hr : KPs X W pos ks vs ps) : KPs X W pos (some k :: ks) (v :: vs) ((fk, fv) :: ps) := ⟨pps_cons hk hv hr.run⟩
/-- a dict display, at rest -/
def eDic (ps : List (EF × EF)) : EF := fun st L => (dPairs ps st L).bind fun kvs L1 => if kvs.length ≤ 15 then .ok (.d (.dic ((mergeKD [] kvs).map (·.1)) ((mergeKD [] kvs).map (·.2)))) L1 else .no
theorem ke_dict {keys : List (Option Expr)} {values : List Expr} {ps : List (EF × EF)} (h : KPs X W pos keys values ps) (hall : keys.all (·.isSome) = true := by rfl) (hl : keys.length = values.length := by rfl) (h0 : keys ≠ [] := by simp) (h15 : keys.length ≤ 15 := by decide) : KE X W (.Dict keys values pos) (eDic ps) := by
  refine pe_wk (pe_disp h.run hall hl h0 h15) fun σ H Q ⟨F, ρ, L, st, o, r, h⟩ p hp => ?_
  have ap := apart_none o hp
  obtain ⟨_, s1, o1⟩ := bump o hp Step.refl o ap (.dK [])
  have ap1 : Apart F ρ (upd H p (.dK [])) L p := ⟨ap.nf, ap.nl⟩
  refine pairs_read ps (RG.base (P := PKV) s1 o1 (r.mono s1) h fun z H2 F2 ρ2 L2 a s2 o2 r2 p2 h2 => ?_)
  obtain ⟨kvs, rfl, q⟩ := p2
  obtain ⟨hz, h2⟩ := ge_if h2
  obtain ⟨ap2, e2⟩ := ap1.on s2 upd_same
  have hlen : kvs.length = a.length := by rw [← List.length_map (·.1), RepKV.keys q, List.length_map]
  refine ⟨e2, kvs, rfl, by rw [hlen]; exact hz, ?_⟩
  obtain ⟨k3, s3, o3⟩ := bump o hp (s1.trans s2) o2 ap2 (.dK (mergeK [] kvs))
  obtain ⟨k4, s4, o4⟩ := adopt hp s3 o3 ⟨ap2.nf, ap2.nl⟩ upd_same
  have q4 := RepKV.merge (RepKV.mono k4 (RepKV.mono k3 q)) .nil
  exact h2 _ _ _ _ s4 o4 (show Rep X.K (F1 F2 p) _ (.dic _ _) (.ref p) from ⟨p, _, rfl, .inr rfl, upd_same, RepKV.keys q4, RepKV.vals q4⟩)
theorem ke_dict0 : KE X W (.Dict [] [] pos) (fun st L => .ok (.d (.dic [] [])) L) := by
  refine pe_wk pe_dnewK fun σ H Q ⟨F, ρ, L, st, o, r, h⟩ p hp => ?_
  obtain ⟨s1, o1⟩ := new_ok o hp (.dK [])
  exact h _ _ _ _ s1 o1 (show Rep X.K (F1 F p) _ (.dic [] []) (.ref p) from ⟨p, [], rfl, .inr rfl, upd_same, rfl, rfl⟩)
end
end VL

set_option Elab.async false
set_option linter.all false
set_option maxRecDepth 100000
set_option maxHeartbeats 4000000
namespace VL
open PySem PySem.Spec PyProof.Rows L2
open PySem.W (Frag)

/-- a law's def, called with the script at the heap behind the top -/
theorem vl_call {P : Program} {w : World} {K : Frag} {mg mb : Str → Option Value} {k : Nat} {fa a : Addr} {fd : FuncData} {x : Str} {m : FF} {s₁ : Shared} {vs : List Value} {ns : List Int}
    (KX : K.In s₁.heap) (hns : s₁.heap.Ns mainGlobals mg) (hb : s₁.heap.Ns builtinsNs mb) (hbb : ∀ x : Str, x ≠ "__name__" → mb x = bootBuiltins x) (hlim : s₁.heap.NoLimit) (hdg : NoDig s₁.heap) (hg : s₁.gens = #[])
    (ha : s₁.heap.get? a = some { cls := .type "list", data := .seq vs.toArray }) (hi : IntsAre vs ns) (hl : ns.length ≤ sizeLine) (hr : Rm k callerA)
    (G : ∀ base : Heap, K.In base → base.Ns mainGlobals mg → NoDig base → KFn P w K mg base k fa fd [x] m) (hbind : ∀ (s : Shared) (u : Value), BindsTo s fd ⟨[u], []⟩ [(x, u)])
    (hm : ∃ L', m [.d (.scr ns)] [] = .ok (.d (.bl true)) L') :
    codeAny (model P w) callerA (.call (.ref fa) ⟨[.ref a], []⟩) (fun r s' => r = .ok (.ret (.bool true)) ∧ OldK s₁.heap s'.heap ∧ s'.os = s₁.os ∧ AllBare s'.gens) s₁ := by
  have rv := vals_ints hi
  have lenV := hi.length
  have core : ∀ H : Hp, Only H → Rep K (fun b => H b ≠ none) H (.scr ns) (.ref a) → HOk P w H s₁.heap → (∀ b, H b ≠ none → b = a) → (H a ≠ none → K.lookup a = none) →
      codeAny (model P w) callerA (.call (.ref fa) ⟨[.ref a], []⟩) (fun r s' => r = .ok (.ret (.bool true)) ∧ OldK s₁.heap s'.heap ∧ s'.os = s₁.os ∧ AllBare s'.gens) s₁ := by
    intro H hO hS hok hA hK
    have noA : ∀ {b : Addr} {o : Obj} {es : Array DictEntry} {ep : Nat}, s₁.heap.get? b = some o → o.data = .dict es ep → H b = none := fun {b o es ep} e d => by
      cases q : H b with
      | none => rfl
      | some u =>
        have e' : b = a := hA b (by rw [q]; simp)
        subst e'
        rw [ha] at e; cases e
        have d' : Data.seq vs.toArray _ = Data.dict es ep := d
        cases d'
    have nsK : ∀ {b : Addr} {m : Str → Option Value}, s₁.heap.Ns b m → (hidT s₁.heap H).Ns b m := fun {b m} ⟨o, es, ep, e, d, r⟩ => ⟨o, es, ep, hidT_get e (noA e d), d, r⟩
    have hKb : K.In (hidT s₁.heap H) := fun b o e => hidT_get (KX b o e) (by
      cases q : H b with
      | none => rfl
      | some u =>
        have e' : b = a := hA b (by rw [q]; simp)
        subst e'
        rw [hK (by rw [q]; simp)] at e; cases e)
    have hM : Mod K mg (hidT s₁.heap H) := ⟨hKb, nsK hns, ⟨mb, nsK hb, hbb⟩, let ⟨mc, h1, h2⟩ := hlim; ⟨mc, nsK h1, h2⟩⟩
    have hD : NoDig (hidT s₁.heap H) := let ⟨mc, h1, h2⟩ := hdg; ⟨mc, nsK h1, h2⟩
    have e0 : Env0 P w K mg (hidT s₁.heap H) callerA [] s₁ H := ⟨rfl, hM, fun b o e => of_hidT e, Nat.le_of_eq (hidT_size _ _), trivial, fun b hb => absurd (show b ∈ ([] : List Addr) from hb) (by simp), hok, .of_eq hg⟩
    obtain ⟨L', hm⟩ := hm
    refine codeAny_mono ((G _ hKb (nsK hns) hD).run callerA [] s₁ H ⟨[.ref a], []⟩ [.ref a] [.ref a] (fun v _ => v = .bl true) (fun _ _ _ => False) hr e0 (hbind s₁ (.ref a)) (.cons rfl .nil) ⟨fun b => H b ≠ none, fun _ => 0, [], [.d (.scr ns)], ⟨fun n lo e => by simp at e, fun i j _ _ e => by simp at e, fun _ f => f⟩, ⟨_, _, rfl, hS, rfl⟩, rfl, ?_⟩) fun r s' h => ?_
    · rw [hm]
      intro F' ρ' H' b _ _ p
      exact p
    cases r with
    | error e => obtain ⟨_, _, _, _, _, _, _, _, _, _, _, _, z⟩ := h; exact z.elim
    | ok fl =>
      cases fl with
      | next => exact False.elim h
      | brk => exact False.elim h
      | cont => exact False.elim h
      | ret u =>
        obtain ⟨v, H', os, bare, un, hok', r', q⟩ := h
        have q' : v = .bl true := q
        subst q'
        obtain rfl : u = Value.bool true := r'
        refine ⟨rfl, OldK.of_keep fun b o e => ?_, os, bare⟩
        cases q : H b with
        | none => exact un.keep b o e q (by intro z; exact absurd (show b ∈ ([] : List Addr) from z) (by simp)) (by simp)
        | some u =>
          rcases hO b with z | ⟨ob, xs, z⟩
          · rw [q] at z; cases z
          · have z2 := un.frzs b ob _ z
            obtain ⟨e1, _⟩ := hok b _ z
            obtain ⟨e2, _⟩ := hok' b _ z2
            rw [e] at e1; cases e1
            exact e2
  cases hk : K.lookup a with
  | some o =>
    have e := KX a o hk
    rw [ha] at e
    cases e
    exact core (fun _ => none) (fun _ => .inl rfl) ⟨a, rfl, .inr ⟨_, vs.toArray, _, hk, rfl, rfl, rfl, by rw [List.size_toArray, lenV]; exact hl, by simpa using rv⟩⟩ (fun b u z => by have z' : (none : Option HO) = some u := z; cases z') (fun b z => absurd rfl z) fun z => absurd rfl z
  | none =>
    refine core (fun b => if b = a then some (.frz { cls := .type "list", data := .seq vs.toArray } (.lst (ns.map V.int))) else none) (fun b => ?_) ⟨a, rfl, .inl ⟨by simp, { cls := .type "list", data := .seq vs.toArray }, if_pos rfl⟩⟩ (fun b u z => ?_) (fun b z => ?_) fun _ => hk
    · by_cases hb : b = a
      · exact .inr ⟨_, _, if_pos hb⟩
      · exact .inl (if_neg hb)
    · by_cases hb : b = a
      · have z' := (if_pos hb).symm.trans z
        cases z'
        subst hb
        exact ⟨ha, by rw [List.length_map]; exact hl, vs, _, rv, ha⟩
      · have z' := (if_neg hb).symm.trans z
        cases z'
    · by_cases hb : b = a
      · exact hb
      · exact absurd (if_neg hb) z
theorem walk_vl {l : PySem.W.OpenLaw} {n k : Nat} {q : Program} {loose : List Str} {XP : (Str → Option Value) → Heap → Prop} {YP : World → Heap → Prop} {d : DefRec} {K : Params → Frag} {x : Str}
    (hn : l.most = some n) (hn2 : n ≤ sizeLine) (hdf : d.params.defaults = []) (hr : Rm k callerA) (hY : ∀ (w : World) (h : Heap), YP w h → (K w.params).In h)
    (G : ∀ (w : World) (mg : Str → Option Value) (fa : Addr) (h : Heap), (K w.params).In h → h.Ns mainGlobals mg → mg d.name = some (.ref fa) →
      ∃ (fd : FuncData) (m : FF), (∀ (s : Shared) (u : Value), BindsTo s fd ⟨[u], []⟩ [(x, u)]) ∧
        (∀ base : Heap, (K w.params).In base → base.Ns mainGlobals mg → NoDig base → KFn l.prog w (K w.params) mg base k fa fd [x] m) ∧ ∀ ns : List Int, ns.length ≤ n → ∃ L', m [.d (.scr ns)] [] = .ok (.d (.bl true)) L') :
    PySem.W.WalkO q loose XP YP l.row.toRowW d [] (fun f vs => PySem.call f vs) := by
  refine Att.attach_call hn hdf fun w s₀ s₁ mg mb fa o pm cd doc a vs ns G' Y ho hd hcd hmg hobj hints hlen hg => ?_
  have KX := hY w _ Y
  obtain ⟨fd, m, hb, hF, hm⟩ := G w mg fa _ KX G'.T.g hmg
  exact vl_call KX G'.T.g G'.T.b G'.T.builtins G'.T.nolimit G'.T.nodigits hg hobj hints (Nat.le_trans hlen hn2) hr hF hb (hm ns hlen)
end VL

set_option Elab.async false
set_option linter.all false
set_option maxRecDepth 100000
set_option maxHeartbeats 4000000
namespace VL
open PySem PySem.Spec PyProof.Rows L2
open PySem.W (Frag)
/-! ### words for the printed texts -/
theorem tk_of {P : Program} {w : World} {K : Frag} {mg : Str → Option Value} {base : Heap} {N : List Str} {qual : Str} {scope : Scope} {f : Addr} {cdv : Value} {A : Around} {outer : List Env} {s : Shared} {H : Hp} {E : XK} :
    Takes (cxOf (L2.CX P w) P w K mg base N qual scope f cdv A outer s H E) (fun c d _ H' => E c d H') := takes_of rfl rfl rfl rfl
theorem bk_of {K : Frag} {x qual : Str} {st : Stmt} {f : Addr} {fd : FuncData} {ps ks : List Str} {n : Nat} {src : List Sr} (T : Fun K x qual st f fd) (hl : src.length = ps.length)
    (h : ∀ (kV doc pm : Value) (an : Option Addr) (cdv ct : Value) (us ws : List Value), us.length = n → ws.length = ks.length → ∃ zs, bindArgs (PySem.W.fnOf x qual (defArgs st) (defBody st) (defScope st) .none kV doc pm an cdv ct) ⟨us, ks.zip ws⟩ = pure (ps.zip zs) ∧ Paired (SrOk us ws) src zs) : Bk K fd ps n ks src := by
  obtain ⟨oc, od, kV, doc, pm, an, cdv, ct, osl, rfl, lk, hcd⟩ := T.ex
  refine ⟨fun s us ws _ h1 h2 => ?_, hl⟩
  obtain ⟨zs, e, p⟩ := h kV doc pm an cdv ct us ws h1 h2
  exact ⟨zs, .of_eq e, p⟩
def sBrk : SF := fun st L => .bk st L
def sCnt : SF := fun st L => .ct st L
def sRetN : SF := fun _ L => .rt (.d .non) L
def eDic0 : EF := fun _ L => .ok (.d (.dic [] [])) L
theorem ke_dic0 {X : Cx} {W : WX} {pos : Pos} : KE X W (.Dict [] [] pos) eDic0 := ke_dict0
theorem tk0 {X : Cx} : Takes X Wn := fun u s' x => by
  obtain ⟨a, B, sI, pins, σ, H, cls, d, e, I, nb, up, sky, na, os, ag, w⟩ := x
  exact w.elim
theorem bt_int : bootBuiltins "int" = some (.type "int") := by decide +kernel
theorem bt_str : bootBuiltins "str" = some (.type "str") := by decide +kernel
theorem bt_bool : bootBuiltins "bool" = some (.type "bool") := by decide +kernel
theorem bt_list : bootBuiltins "list" = some (.type "list") := by decide +kernel
theorem bt_tuple : bootBuiltins "tuple" = some (.type "tuple") := by decide +kernel
theorem bt_dict : bootBuiltins "dict" = some (.type "dict") := by decide +kernel
theorem bt_len : bootBuiltins "len" = some (.builtin "len") := by decide +kernel
theorem bt_abs : bootBuiltins "abs" = some (.builtin "abs") := by decide +kernel
theorem bt_all : bootBuiltins "all" = some (.builtin "all") := by decide +kernel
theorem bt_any : bootBuiltins "any" = some (.builtin "any") := by decide +kernel
theorem bt_sum : bootBuiltins "sum" = some (.builtin "sum") := by decide +kernel
theorem bt_isinstance : bootBuiltins "isinstance" = some (.builtin "isinstance") := by decide +kernel
theorem bt_repr : bootBuiltins "repr" = some (.builtin "repr") := by decide +kernel
theorem bt_min : bootBuiltins "min" = some (.builtin "min") := by decide +kernel
theorem bt_max : bootBuiltins "max" = some (.builtin "max") := by decide +kernel
theorem bt_sorted : bootBuiltins "sorted" = some (.builtin "sorted") := by decide +kernel
theorem bt_hasattr : bootBuiltins "hasattr" = some (.builtin "hasattr") := by decide +kernel
theorem bt_getattr : bootBuiltins "getattr" = some (.builtin "getattr") := by decide +kernel
end VL

set_option Elab.async false
set_option linter.all false
set_option maxRecDepth 100000
set_option maxHeartbeats 4000000
namespace VL
open PySem PySem.Spec PyProof.Rows L2
open PySem.W (Frag)

/-! ### plain data -/
theorem toPyL_ints : ∀ cs : List Int, toPyL (cs.map .int) = some (cs.map .int)
  | [] => rfl
  | c :: cs => by simp [toPyL, toPy, toPyL_ints cs]
theorem depth_ints : ∀ cs : List Int, PyData.depthAll (cs.map .int) = 0
  | [] => rfl
  | c :: cs => by simp [PyData.depthAll, PyData.depth, depth_ints cs]
theorem ne_nil (cs : List Int) : neB (.lst (cs.map .int)) (.lst []) = some (!cs.isEmpty) := by
  have h : eqB (.lst (cs.map .int)) (.lst []) = some cs.isEmpty := by
    unfold eqB
    simp only [toPy, toPyL_ints, Option.map_some, Option.bind_some, toPyL, PyData.depth, depth_ints]
    cases cs <;> simp [PyData.eqv, PyData.eqvAll]
  unfold neB
  rw [h]; rfl

/-! ### the pen of a law: the script, how many draws, what is left of a great number -/
def penL (cs : List Int) (spot rest : Int) : LS := [.l [.lst (cs.map .int), .int spot, .int rest]]
structure Pen (n : Nat) (L : LS) : Prop where
  ex : ∃ cs spot rest, L = penL cs spot rest ∧ 0 ≤ spot ∧ spot ≤ (n : Int) ∧ 0 ≤ rest
theorem Pen.mono {m n : Nat} {L : LS} (p : Pen m L) (h : m ≤ n) : Pen n L := let ⟨cs, s, r, e, h1, h2, h3⟩ := p.ex; ⟨cs, s, r, e, h1, by omega, h3⟩
theorem Pen.len {n : Nat} {L : LS} (p : Pen n L) : L.length = 1 := by obtain ⟨cs, s, r, rfl, _⟩ := p.ex; rfl
def drawB (a1 b1 m1 a2 b2 m2 b3 a4 b4 m3 : Int) : SF := sSeq (sIf (bCmp gtB (eBin ixD (eVar 0) (eC (.int 2))) (eC (.int 0))) (sSeq (sSet 2 (eBin modD (eFn intL (aCons (eBin ixD (eVar 0) (eC (.int 2))) aNil)) (eVar 1))) (sSeq (sSub (eVar 0) (eC (.int 2)) (eBin divD (eFn intL (aCons (eBin ixD (eVar 0) (eC (.int 2))) aNil)) (eVar 1))) (sRet (eVar 2)))) sNil)
  (sSeq (sSet 3 (eBin ixD (eVar 0) (eC (.int 1)))) (sSeq (sSub (eVar 0) (eC (.int 1)) (eBin addD (eVar 3) (eC (.int 1)))) (sSeq (sSet 4 (eBin addD (eBin mulD (eC (.int a1)) (eVar 3)) (eC (.int b1))))
  (sSeq (sIf (bCmp neB (eBin ixD (eVar 0) (eC (.int 0))) (eLst aNil)) (sSet 4 (eBin ixD (eBin ixD (eVar 0) (eC (.int 0))) (eBin modD (eFn intL (aCons (eVar 3) aNil)) (eFn lenD (aCons (eBin ixD (eVar 0) (eC (.int 0))) aNil))))) sNil)
  (sSeq (sIf (bAnd (bCmp ltB (eVar 3) (eFn lenD (aCons (eBin ixD (eVar 0) (eC (.int 0))) aNil))) (bCmp geB (eFn absD (aCons (eVar 4) aNil)) (eBin powD (eC (.int 10)) (eC (.int 18)))))
    (sSeq (sSet 5 (eBin addD (eBin mulD (eC (.int 2)) (eBin subD (eFn absD (aCons (eVar 4) aNil)) (eBin powD (eC (.int 10)) (eC (.int 18))))) (eFn intL (aCons (eCmp ltB (eVar 4) (eC (.int 0))) aNil)))) (sSeq (sSub (eVar 0) (eC (.int 2)) (eBin divD (eFn intL (aCons (eVar 5) aNil)) (eVar 1))) (sRet (eBin modD (eFn intL (aCons (eVar 5) aNil)) (eVar 1))))) sNil)
  (sSeq (sSet 6 (eBin modD (eFn intL (aCons (eBin powD (eBin addD (eBin addD (eBin modD (eFn intL (aCons (eVar 4) aNil)) (eC (.int m1))) (eBin mulD (eC (.int a2)) (eVar 3))) (eC (.int b2))) (eC (.int 5))) aNil)) (eC (.int m2))))
  (sSeq (sSet 6 (eBin modD (eFn intL (aCons (eBin powD (eBin addD (eBin addD (eBin mulD (eVar 6) (eBin addD (eBin mulD (eC (.int 2)) (eVar 3)) (eC (.int b3)))) (eBin mulD (eBin mulD (eC (.int a4)) (eVar 3)) (eVar 3))) (eC (.int b4))) (eC (.int 3))) aNil)) (eC (.int m3))))
  (sRet (eBin modD (eFn intL (aCons (eBin divD (eVar 6) (eC (.int 32))) aNil)) (eVar 1)))))))))) 
theorem ints_at (cs : List Int) {i : Int} (h0 : 0 ≤ i) (h1 : i < cs.length) : ∃ c, atI (cs.map D.int) i = some (.int c) := by
  have : i.toNat < cs.length := by omega
  exact ⟨cs[i.toNat], by simp [atI, ixN, h0, h1, this]⟩
theorem ix_0 (x y z : D) : ixD (.lst [x, y, z]) (.int 0) = some x := rfl
theorem ix_1 (x y z : D) : ixD (.lst [x, y, z]) (.int 1) = some y := rfl
theorem ix_2 (x y z : D) : ixD (.lst [x, y, z]) (.int 2) = some z := rfl
theorem add_i (i j : Int) : addD (.int i) (.int j) = some (.int (i + j)) := rfl
theorem ixD_lst (xs : List D) (i : Int) : ixD (.lst xs) (.int i) = atI xs i := rfl
/-- the constants of a draw are as they should be -/
def Cs (a1 b1 m1 a2 b2 m2 b3 a4 b4 m3 : Int) : Prop := (0 ≤ a1 ∧ a1 < 2 ^ 32) ∧ (0 ≤ b1 ∧ b1 < 2 ^ 32) ∧ (0 < m1 ∧ m1 < 2 ^ 32) ∧ (0 ≤ a2 ∧ a2 < 2 ^ 32) ∧ (0 ≤ b2 ∧ b2 < 2 ^ 32) ∧ (0 < m2 ∧ m2 < 2 ^ 32) ∧ (0 ≤ b3 ∧ b3 < 2 ^ 20) ∧ (0 ≤ a4 ∧ a4 < 2 ^ 20) ∧ (0 ≤ b4 ∧ b4 < 2 ^ 20) ∧ (0 < m3 ∧ m3 < 2 ^ 32)
theorem small_of {i : Int} (h : 0 ≤ i) (h2 : i < 2 ^ 64) : smallI i = true := by
  unfold smallI
  simp only [Bool.and_eq_true, decide_eq_true_eq]
  omega
theorem draw_ok {a1 b1 m1 a2 b2 m2 b3 a4 b4 m3 : Int} (hc : Cs a1 b1 m1 a2 b2 m2 b3 a4 b4 m3) {n : Nat} (hn : n < 2 ^ 20) {L : LS} (p : Pen n L) {many : Int} (h0 : 0 < many) (h1 : many < 2 ^ 30) :
    ∃ r L', fnF 2 7 (drawB a1 b1 m1 a2 b2 m2 b3 a4 b4 m3) [.l 0, .d (.int many)] L = .ok (.d (.int r)) L' ∧ 0 ≤ r ∧ r < many ∧ Pen (n + 1) L' := by
  obtain ⟨cs, spot, rest, rfl, hs0, hs1, hr⟩ := p.ex
  obtain ⟨ha1, hb1, hm1, ha2, hb2, hm2, hb3, ha4, hb4, hm3⟩ := hc
  have hspot : spot < 2 ^ 20 := by omega
  have h1' : many < 1073741824 := h1
  by_cases hrest : 0 < rest
  · refine ⟨rest % many, penL cs spot (rest / many), ?_, Int.emod_nonneg _ (by omega), Int.emod_lt_of_pos _ h0, ⟨cs, spot, rest / many, rfl, hs0, by omega, Int.ediv_nonneg hr (by omega)⟩⟩
    simp [Rs.bind, opt, LO.rd, rdU, fzU, eVar, eC, op2, op1, eBin, eUn, eCmp, bop2, bCmp, eChain, bChain, trU, bTru, eAnd, eOr, eNot, bAnd, bOr, bNot, eIf, rdUs, fzUs, aNil, aCons, eLst, eTup, eLstL, opn, eFn, oNone, oSome, eSl, eJoin, Rt.andThen, ofR, optS, sNil, sSeq, sDrop, sRet, sIf, sSet, sPar, tfName, tfNil, tfCons, tfTup, sAsg, sSub, outR, fnF, cPos, cBoth, Sr.get, arrU, eCall, iSeq, iRng1, iRng2, sFor, eComp, tYesF, eMake, mkF, eRest, sFld, eFnU, boolU, truG, sBrk, sCnt, sRetN, eDic0, eDic, dPairs, keyU, bD, drawB, penL, gtB, hrest, ixD, atI, ixN, modD, intL, divD, h0, h1', putAt]
  · have hr0 : rest = 0 := by omega
    subst hr0
    -- what the cell is
    have cell : ∃ c : Int, (cs = [] ∧ c = a1 * spot + b1) ∨ (cs ≠ [] ∧ atI (cs.map D.int) (spot % (cs.length : Int)) = some (.int c)) := by
      cases hcs : cs with
      | nil => exact ⟨_, .inl ⟨rfl, rfl⟩⟩
      | cons x xs =>
        have hl : (0 : Int) < ((x :: xs).length : Int) := by rw [List.length_cons]; omega
        obtain ⟨c, hc⟩ := ints_at (x :: xs) (Int.emod_nonneg spot (by omega)) (Int.emod_lt_of_pos spot hl)
        exact ⟨c, .inr ⟨by simp, hc⟩⟩
    obtain ⟨c, hcell⟩ := cell
    have sm : smallI spot = true := small_of hs0 (by omega)
    have e1 : mulD (.int a1) (.int spot) = some (.int (a1 * spot)) := by simp [mulD, sm]
    have e2 : mulD (.int a2) (.int spot) = some (.int (a2 * spot)) := by simp [mulD, sm]
    have e3 : mulD (.int 2) (.int spot) = some (.int (2 * spot)) := by simp [mulD, sm]
    have e4 : mulD (.int a4) (.int spot) = some (.int (a4 * spot)) := by simp [mulD, sm]
    have e5 : mulD (.int (a4 * spot)) (.int spot) = some (.int (a4 * spot * spot)) := by simp [mulD, sm]
    have hB1 : 0 ≤ c % m1 + a2 * spot + b2 ∧ c % m1 + a2 * spot + b2 < 2 ^ 64 := by
      have := Int.emod_nonneg c (show m1 ≠ 0 by omega)
      have := Int.emod_lt_of_pos c hm1.1
      have : 0 ≤ a2 * spot := Int.mul_nonneg ha2.1 hs0
      have : a2 * spot ≤ 2 ^ 32 * 2 ^ 20 := Int.mul_le_mul (by omega) (by omega) hs0 (by omega)
      omega
    have p1 : powD (.int (c % m1 + a2 * spot + b2)) (.int 5) = some (.int ((c % m1 + a2 * spot + b2) ^ 5)) := by
      have : (c % m1 + a2 * spot + b2).natAbs < 2 ^ 64 := by omega
      simp only [powD]
      rw [if_pos ⟨by decide, by decide, this⟩]
      rfl
    generalize hs1' : (c % m1 + a2 * spot + b2) ^ 5 % m2 = s1
    have hs1a : 0 ≤ s1 ∧ s1 < m2 := by
      subst hs1'
      exact ⟨Int.emod_nonneg _ (by omega), Int.emod_lt_of_pos _ hm2.1⟩
    have sm1 : smallI s1 = true := small_of hs1a.1 (by omega)
    have e6 : mulD (.int s1) (.int (2 * spot + b3)) = some (.int (s1 * (2 * spot + b3))) := by simp [mulD, sm1]
    have hB2 : 0 ≤ s1 * (2 * spot + b3) + a4 * spot * spot + b4 ∧ s1 * (2 * spot + b3) + a4 * spot * spot + b4 < 2 ^ 64 := by
      have : 0 ≤ s1 * (2 * spot + b3) := Int.mul_nonneg hs1a.1 (by omega)
      have : s1 * (2 * spot + b3) ≤ 2 ^ 32 * 2 ^ 22 := Int.mul_le_mul (by omega) (by omega) (by omega) (by omega)
      have h3 : 0 ≤ a4 * spot := Int.mul_nonneg ha4.1 hs0
      have h4 : a4 * spot ≤ 2 ^ 20 * 2 ^ 20 := Int.mul_le_mul (by omega) (by omega) hs0 (by omega)
      have : 0 ≤ a4 * spot * spot := Int.mul_nonneg h3 hs0
      have : a4 * spot * spot ≤ 2 ^ 40 * 2 ^ 20 := Int.mul_le_mul (by omega) (by omega) hs0 (by omega)
      omega
    have p2 : powD (.int (s1 * (2 * spot + b3) + a4 * spot * spot + b4)) (.int 3) = some (.int ((s1 * (2 * spot + b3) + a4 * spot * spot + b4) ^ 3)) := by
      have : (s1 * (2 * spot + b3) + a4 * spot * spot + b4).natAbs < 2 ^ 64 := by omega
      simp only [powD]
      rw [if_pos ⟨by decide, by decide, this⟩]
      rfl
    have p3 : powD (.int 10) (.int 18) = some (.int (10 ^ 18)) := by
      simp only [powD]
      rw [if_pos ⟨by decide, by decide, by decide⟩]
      rfl
    generalize hs2' : (s1 * (2 * spot + b3) + a4 * spot * spot + b4) ^ 3 % m3 = s2
    have hlen : ((cs.map D.int).length : Int) = (cs.length : Int) := by simp
    have nn := ne_nil cs
    by_cases hg : spot < (cs.length : Int) ∧ 10 ^ 18 ≤ (if c < 0 then -c else c)
    · -- a great number
      have hne : cs ≠ [] := by
        intro z; rw [z] at hg; simp at hg; omega
      have hat : atI (cs.map D.int) (spot % (cs.length : Int)) = some (.int c) := by
        rcases hcell with ⟨z, _⟩ | ⟨_, z⟩
        · exact absurd z hne
        · exact z
      have hce : cs.isEmpty = false := by cases cs <;> simp_all
      generalize hac : (if c < 0 then -c else c) = ac
      rw [hac] at hg
      have e7 : mulD (.int 2) (.int (ac - 1000000000000000000)) = some (.int (2 * (ac - 1000000000000000000))) := by
        have : smallI 2 = true := by decide
        simp only [mulD, this, Bool.true_or, if_true]
      have hg0 : 0 ≤ 2 * (ac - 10 ^ 18) + (if c < 0 then 1 else 0) := by split <;> omega
      refine ⟨(2 * (ac - 10 ^ 18) + (if c < 0 then 1 else 0)) % many, penL cs (spot + 1) ((2 * (ac - 10 ^ 18) + (if c < 0 then 1 else 0)) / many), ?_, Int.emod_nonneg _ (by omega), Int.emod_lt_of_pos _ h0, ⟨cs, spot + 1, _, rfl, by omega, by omega, Int.ediv_nonneg hg0 (by omega)⟩⟩
      have hl0 : (0 : Int) < (cs.length : Int) := by omega
      have hlN : 0 < cs.length := by omega
      have hg2 : (1000000000000000000 : Int) ≤ ac := by have := hg.2; omega
      have hat' : ixD (.lst (cs.map D.int)) (.int (spot % (cs.length : Int))) = some (.int c) := hat
      simp [Rs.bind, opt, LO.rd, rdU, fzU, eVar, eC, op2, op1, eBin, eUn, eCmp, bop2, bCmp, eChain, bChain, trU, bTru, eAnd, eOr, eNot, bAnd, bOr, bNot, eIf, rdUs, fzUs, aNil, aCons, eLst, eTup, eLstL, opn, eFn, oNone, oSome, eSl, eJoin, Rt.andThen, ofR, optS, sNil, sSeq, sDrop, sRet, sIf, sSet, sPar, tfName, tfNil, tfCons, tfTup, sAsg, sSub, outR, fnF, cPos, cBoth, Sr.get, arrU, eCall, iSeq, iRng1, iRng2, sFor, eComp, tYesF, eMake, mkF, eRest, sFld, eFnU, boolU, truG, sBrk, sCnt, sRetN, eDic0, eDic, dPairs, keyU, bD, drawB, penL, gtB, ltB, geB, ix_0, ix_1, ix_2, add_i, ixN, modD, intL, divD, absD, lenD, subD, h0, h1', putAt, e1, nn, hce, hl0, hlN, hat', hac, hg.1, hg2, p3, e7]
    · have hs2a : 0 ≤ s2 := by subst hs2'; exact Int.emod_nonneg _ (by omega)
      refine ⟨(s2 / 32) % many, penL cs (spot + 1) 0, ?_, Int.emod_nonneg _ (by omega), Int.emod_lt_of_pos _ h0, ⟨cs, spot + 1, 0, rfl, by omega, by omega, by omega⟩⟩
      rcases hcell with ⟨rfl, rfl⟩ | ⟨hne, hat⟩
      · have nn' : neB (.lst []) (.lst []) = some false := ne_nil []
        have hsn : ¬ spot < 0 := by omega
        simp [Rs.bind, opt, LO.rd, rdU, fzU, eVar, eC, op2, op1, eBin, eUn, eCmp, bop2, bCmp, eChain, bChain, trU, bTru, eAnd, eOr, eNot, bAnd, bOr, bNot, eIf, rdUs, fzUs, aNil, aCons, eLst, eTup, eLstL, opn, eFn, oNone, oSome, eSl, eJoin, Rt.andThen, ofR, optS, sNil, sSeq, sDrop, sRet, sIf, sSet, sPar, tfName, tfNil, tfCons, tfTup, sAsg, sSub, outR, fnF, cPos, cBoth, Sr.get, arrU, eCall, iSeq, iRng1, iRng2, sFor, eComp, tYesF, eMake, mkF, eRest, sFld, eFnU, boolU, truG, sBrk, sCnt, sRetN, eDic0, eDic, dPairs, keyU, bD, drawB, penL, gtB, ltB, geB, ix_0, ix_1, ix_2, add_i, ixN, modD, intL, divD, absD, lenD, subD, h0, h1', putAt, e1, e2, e3, e4, e5, e6, nn', hsn, hm1.1, hm2.1, hm3.1, p1, p2, hs1', hs2']
      · have hlN : 0 < cs.length := by cases cs <;> simp_all
        have hl0 : (0 : Int) < (cs.length : Int) := by omega
        have hce : cs.isEmpty = false := by cases cs <;> simp_all
        have hat' : ixD (.lst (cs.map D.int)) (.int (spot % (cs.length : Int))) = some (.int c) := hat
        by_cases hsn : spot < (cs.length : Int)
        · have hgg : ¬ (1000000000000000000 : Int) ≤ (if c < 0 then -c else c) := fun z => hg ⟨hsn, z⟩
          simp [Rs.bind, opt, LO.rd, rdU, fzU, eVar, eC, op2, op1, eBin, eUn, eCmp, bop2, bCmp, eChain, bChain, trU, bTru, eAnd, eOr, eNot, bAnd, bOr, bNot, eIf, rdUs, fzUs, aNil, aCons, eLst, eTup, eLstL, opn, eFn, oNone, oSome, eSl, eJoin, Rt.andThen, ofR, optS, sNil, sSeq, sDrop, sRet, sIf, sSet, sPar, tfName, tfNil, tfCons, tfTup, sAsg, sSub, outR, fnF, cPos, cBoth, Sr.get, arrU, eCall, iSeq, iRng1, iRng2, sFor, eComp, tYesF, eMake, mkF, eRest, sFld, eFnU, boolU, truG, sBrk, sCnt, sRetN, eDic0, eDic, dPairs, keyU, bD, drawB, penL, gtB, ltB, geB, ix_0, ix_1, ix_2, add_i, ixN, modD, intL, divD, absD, lenD, subD, h0, h1', putAt, e1, e2, e3, e4, e5, e6, nn, hce, hl0, hlN, hat', hsn, p3, hgg, hm1.1, hm2.1, hm3.1, p1, p2, hs1', hs2']
        · simp [Rs.bind, opt, LO.rd, rdU, fzU, eVar, eC, op2, op1, eBin, eUn, eCmp, bop2, bCmp, eChain, bChain, trU, bTru, eAnd, eOr, eNot, bAnd, bOr, bNot, eIf, rdUs, fzUs, aNil, aCons, eLst, eTup, eLstL, opn, eFn, oNone, oSome, eSl, eJoin, Rt.andThen, ofR, optS, sNil, sSeq, sDrop, sRet, sIf, sSet, sPar, tfName, tfNil, tfCons, tfTup, sAsg, sSub, outR, fnF, cPos, cBoth, Sr.get, arrU, eCall, iSeq, iRng1, iRng2, sFor, eComp, tYesF, eMake, mkF, eRest, sFld, eFnU, boolU, truG, sBrk, sCnt, sRetN, eDic0, eDic, dPairs, keyU, bD, drawB, penL, gtB, ltB, geB, ix_0, ix_1, ix_2, add_i, ixN, modD, intL, divD, absD, lenD, subD, h0, h1', putAt, e1, e2, e3, e4, e5, e6, nn, hce, hl0, hlN, hat', hsn, hm1.1, hm2.1, hm3.1, p1, p2, hs1', hs2']
end VL

set_option Elab.async false
set_option linter.all false
set_option maxRecDepth 100000
set_option maxHeartbeats 4000000
namespace VL
open PySem PySem.Spec PyProof.Rows L2
open PySem.W (Frag)

/-! ### loops over mirrors -/
theorem compF_fm {tf : TgF} {tt : TF} {fe : EF} {st : SS} {L : LS} (g : D → Option D) : ∀ (xs acc : List D),
    (∀ d ∈ xs, ∃ st1, tf d st = some st1 ∧ ((∃ y, tt st1 L = .ok true L ∧ fe st1 L = .ok (.d y) L ∧ g d = some y) ∨ (tt st1 L = .ok false L ∧ g d = none))) → acc.length + xs.length ≤ big →
    compF tf tt fe st xs acc L = .ok (acc ++ xs.filterMap g) L
  | [], acc, _, _ => by simp [compF]
  | d :: xs, acc, h, hl => by
    obtain ⟨st1, e1, h1⟩ := h d (.head _)
    have hl' : acc.length < big := by simp at hl; omega
    rcases h1 with ⟨y, e2, e3, e4⟩ | ⟨e2, e4⟩
    · have ih := compF_fm g xs (acc ++ [y]) (fun d hd => h d (.tail _ hd)) (by simp at hl ⊢; omega)
      simp only [compF, e1, opt, e2, bindN_ok, if_true, e3, fzU, hl', ih, List.filterMap_cons, e4, List.append_assoc, List.singleton_append]
    · have ih := compF_fm g xs acc (fun d hd => h d (.tail _ hd)) (by simp at hl ⊢; omega)
      simp [compF, e1, opt, e2, ih, List.filterMap_cons, e4]
/-- with a state: P by the turn, R of each item -/
theorem compF_inv {tf : TgF} {fe : EF} {st : SS} (P : Nat → LS → Prop) (R : D → Prop) : ∀ (xs acc : List D) (i : Nat) (L : LS), P i L →
    (∀ j L, i ≤ j → j < i + xs.length → P j L → ∀ d ∈ xs, ∃ st1 y L', tf d st = some st1 ∧ fe st1 L = .ok (.d y) L' ∧ R y ∧ P (j + 1) L') → acc.length + xs.length ≤ big →
    ∃ ys L', compF tf tYesF fe st xs acc L = .ok (acc ++ ys) L' ∧ ys.length = xs.length ∧ (∀ y ∈ ys, R y) ∧ P (i + xs.length) L'
  | [], acc, i, L, p, _, _ => ⟨[], L, by simp [compF], rfl, by simp, p⟩
  | d :: xs, acc, i, L, p, h, hl => by
    obtain ⟨st1, y, L1, e1, e2, r, p1⟩ := h i L (Nat.le_refl _) (by simp) p d (.head _)
    have hl' : acc.length < big := by simp at hl; omega
    obtain ⟨ys, L', e3, hn, hr, p2⟩ := compF_inv P R xs (acc ++ [y]) (i + 1) L1 p1 (fun j L h1 h2 pj d hd => h j L (by omega) (by simp; omega) pj d (.tail _ hd)) (by simp at hl ⊢; omega)
    refine ⟨y :: ys, L', ?_, by simp [hn], ?_, ?_⟩
    · simp only [compF, e1, opt, tYesF, bindN_ok, if_true, e2, fzU, hl', e3, List.append_assoc, List.singleton_append]
    · intro z hz
      rcases List.mem_cons.mp hz with rfl | hz
      · exact r
      · exact hr z hz
    · rw [List.length_cons, show i + (xs.length + 1) = i + 1 + xs.length by omega]; exact p2
theorem forF_inv {tf : TgF} {body : SF} (P : Nat → SS → LS → Prop) : ∀ (ds : List D) (i : Nat) (st : SS) (L : LS), P i st L →
    (∀ j st L, i ≤ j → j < i + ds.length → P j st L → ∀ d, ds[j - i]? = some d → ∃ st1 st2 L2, tf d st = some st1 ∧ (body st1 L = .nx st2 L2 ∨ body st1 L = .ct st2 L2) ∧ P (j + 1) st2 L2) →
    ∃ st' L', forF tf body ds st L = .nx st' L' ∧ P (i + ds.length) st' L'
  | [], i, st, L, p, _ => ⟨st, L, rfl, p⟩
  | d :: ds, i, st, L, p, h => by
    obtain ⟨st1, st2, L2, e1, e2, p2⟩ := h i st L (Nat.le_refl _) (by simp) p d (by simp)
    obtain ⟨st', L', e3, p3⟩ := forF_inv P ds (i + 1) st2 L2 p2 fun j st L h1 h2 pj d hd => h j st L (by omega) (by simp; omega) pj d (by
      rw [show j - i = (j - (i + 1)) + 1 by omega]; simpa using hd)
    refine ⟨st', L', ?_, by rw [List.length_cons, show i + (ds.length + 1) = i + 1 + ds.length by omega]; exact p3⟩
    rcases e2 with e2 | e2 <;> simp only [forF, e1, optS, e2, e3]

/-! ### draws and picks -/
def Dr (d : FF) : Prop := ∀ {n : Nat} {L : LS} {many : Int}, n < 2 ^ 20 → Pen n L → 0 < many → many < 2 ^ 30 → ∃ r L', d [.l 0, .d (.int many)] L = .ok (.d (.int r)) L' ∧ 0 ≤ r ∧ r < many ∧ Pen (n + 1) L'
def pickB (d : FF) : SF := sRet (eBin ixD (eVar 1) (eCall d [.p 0, .p 1] 2 0 (cPos (aCons (eVar 0) (aCons (eFn lenD (aCons (eVar 1) aNil)) aNil)))))
def Pk (p : FF) : Prop := ∀ {n : Nat} {L : LS} {xs : List D}, n < 2 ^ 20 → Pen n L → xs ≠ [] → xs.length < 2 ^ 30 → ∃ x L', p [.l 0, .d (.lst xs)] L = .ok (.d x) L' ∧ x ∈ xs ∧ Pen (n + 1) L'
theorem pick_ok {d : FF} (h : Dr d) : Pk (fnF 2 2 (pickB d)) := by
  intro n L xs hn p h0 h1
  have hl : (0 : Int) < (xs.length : Int) := by
    cases xs with
    | nil => exact absurd rfl h0
    | cons x xs => rw [List.length_cons]; omega
  obtain ⟨r, L', e, r0, r1, p'⟩ := h hn p hl (by omega)
  have hr : r.toNat < xs.length := by omega
  have hx : ixD (.lst xs) (.int r) = some xs[r.toNat] := by
    simp [ixD, atI, ixN, r0, r1, hr]
  have e1 := p.len
  have e2 := p'.len
  have ht : List.take 1 L' = L' := by rw [← e2]; exact List.take_length
  refine ⟨xs[r.toNat], L', ?_, List.getElem_mem _, p'⟩
  simp [Rs.bind, opt, LO.rd, rdU, fzU, eVar, eC, op2, op1, eBin, eUn, eCmp, bop2, bCmp, eChain, bChain, trU, bTru, eAnd, eOr, eNot, bAnd, bOr, bNot, eIf, rdUs, fzUs, aNil, aCons, eLst, eTup, eLstL, opn, eFn, oNone, oSome, eSl, eJoin, Rt.andThen, ofR, optS, sNil, sSeq, sDrop, sRet, sIf, sSet, sPar, tfName, tfNil, tfCons, tfTup, sAsg, sSub, outR, fnF, cPos, cBoth, Sr.get, arrU, eCall, iSeq, iRng1, iRng2, sFor, eComp, tYesF, eMake, mkF, eRest, sFld, eFnU, boolU, truG, sBrk, sCnt, sRetN, eDic0, eDic, dPairs, keyU, bD, pickB, lenD, e, hx, e1, ht]

/-! ### is it of a type -/
theorem isi_b {K : Frag} {s t : String} {b : Bool} (h : kitB s t = some b) : PySem.W.kitOne K (.type s) (.type t) = some b := L2.kit_ty h
def tyS : D → Option String
  | .non => some "NoneType"
  | .bl _ => some "bool"
  | .int _ => some "int"
  | .str _ => some "str"
  | .lst _ => some "list"
  | .tup _ => some "tuple"
  | .dic _ _ => some "dict"
  | .dit _ _ => some "dict"
  | _ => none
/-- plain data: neither an instance nor the like -/
def Pn (d : D) : Prop := (tyS d).isSome = true
theorem isi_s {K : Frag} {x : D} {s t : String} {b : Bool} (h1 : tyD x = some (.type s)) (h : kitB s t = some b) : isiD K [x, .ty t] = some (.bl b) := by
  simp only [isiD, h1, clsD, Option.bind_some, isi_b h, Option.map_some]
def isI : D → Bool
  | .int _ => true
  | _ => false
def isB : D → Bool
  | .bl _ => true
  | _ => false
def isS : D → Bool
  | .str _ => true
  | _ => false
theorem isi_int {K : Frag} : ∀ {x : D}, Pn x → isiD K [x, .ty "int"] = some (.bl (isI x || isB x))
  | .non, _ | .bl _, _ | .int _, _ | .str _, _ | .lst _, _ | .tup _, _ | .dic _ _, _ | .dit _ _, _ => isi_s rfl (by dsimp only [isI, isB, isS, Bool.or_false, Bool.or_true, Bool.false_or]; decide)
theorem isi_bool {K : Frag} : ∀ {x : D}, Pn x → isiD K [x, .ty "bool"] = some (.bl (isB x))
  | .non, _ | .bl _, _ | .int _, _ | .str _, _ | .lst _, _ | .tup _, _ | .dic _ _, _ | .dit _ _, _ => isi_s rfl (by dsimp only [isI, isB, isS, Bool.or_false, Bool.or_true, Bool.false_or]; decide)
theorem isi_str {K : Frag} : ∀ {x : D}, Pn x → isiD K [x, .ty "str"] = some (.bl (isS x))
  | .non, _ | .bl _, _ | .int _, _ | .str _, _ | .lst _, _ | .tup _, _ | .dic _ _, _ | .dit _ _, _ => isi_s rfl (by dsimp only [isI, isB, isS, Bool.or_false, Bool.or_true, Bool.false_or]; decide)
end VL

set_option Elab.async false
set_option linter.all false
set_option maxRecDepth 100000
set_option maxHeartbeats 4000000
namespace VL
open PySem PySem.Spec PyProof.Rows L2
open PySem.W (Frag)

/-! ### signs of texts -/
def sgn (c : Nat) : D := .str ⟨#[c]⟩
theorem signs_eq (x : Str) : signsD x = x.cps.toList.map sgn := rfl
theorem in_sgn (c : Nat) (t : Str) : inB (sgn c) (.str t) = some (decide (c ∈ t.cps.toList)) := by simp [inB, sgn, inSign]
theorem notIn_sgn (c : Nat) (t : Str) : notInB (sgn c) (.str t) = some (!decide (c ∈ t.cps.toList)) := by
  unfold notInB
  rw [in_sgn]; rfl
theorem set_get {st : SS} {j : Nat} (h : j < st.length) (u : U) : (st.set j (some u))[j]? = some (some u) := by simp [h]
theorem comp_in {st : SS} {j : Nat} (h : j < st.length) (s t : Str) (hs : s.length ≤ 16777216) (L : LS) :
    compF (tfName j) tYesF (eCmp inB (eVar j) (eC (.str t))) st (signsD s) [] L = .ok (s.cps.toList.map fun c => .bl (decide (c ∈ t.cps.toList))) L := by
  rw [compF_fm (fun d => (inB d (.str t)).map .bl) (signsD s) []]
  · congr 1
    rw [signs_eq, List.nil_append, List.filterMap_map]
    rw [← List.filterMap_eq_map]
    have e : ((fun d => (inB d (.str t)).map D.bl) ∘ sgn) = (some ∘ fun c => D.bl (decide (c ∈ t.cps.toList))) := by
      funext c
      show (inB (sgn c) (.str t)).map D.bl = some _
      rw [in_sgn]; rfl
    rw [e]
  · intro d hd
    rw [signs_eq, List.mem_map] at hd
    obtain ⟨c, _, rfl⟩ := hd
    refine ⟨st.set j (some (.d (sgn c))), rfl, .inl ⟨.bl (decide (c ∈ t.cps.toList)), rfl, ?_, by rw [in_sgn]; rfl⟩⟩
    simp [Rs.bind, opt, LO.rd, rdU, fzU, eVar, eC, op2, op1, eBin, eUn, eCmp, bop2, bCmp, eChain, bChain, trU, bTru, eAnd, eOr, eNot, bAnd, bOr, bNot, eIf, rdUs, fzUs, aNil, aCons, eLst, eTup, eLstL, opn, eFn, oNone, oSome, eSl, eJoin, Rt.andThen, ofR, optS, sNil, sSeq, sDrop, sRet, sIf, sSet, sPar, tfName, tfNil, tfCons, tfTup, sAsg, sSub, outR, fnF, cPos, cBoth, Sr.get, arrU, eCall, iSeq, iRng1, iRng2, sFor, eComp, tYesF, eMake, mkF, eRest, sFld, eFnU, boolU, truG, sBrk, sCnt, sRetN, eDic0, eDic, dPairs, keyU, bD, big, set_get h, in_sgn, h]
  · rw [signs_eq]; simp; exact hs
theorem comp_notIn {st : SS} {j : Nat} (h : j < st.length) (s t : Str) (hs : s.length ≤ 16777216) (L : LS) :
    compF (tfName j) (bCmp notInB (eVar j) (eC (.str t))) (eVar j) st (signsD s) [] L = .ok ((s.cps.toList.filter fun c => !decide (c ∈ t.cps.toList)).map sgn) L := by
  rw [compF_fm (fun d => match notInB d (.str t) with
    | some true => some d
    | _ => none) (signsD s) []]
  · congr 1
    rw [signs_eq, List.nil_append, List.filterMap_map]
    induction s.cps.toList with
    | nil => rfl
    | cons c cs ih =>
      have e : ((fun d => match notInB d (.str t) with
        | some true => some d
        | _ => none) ∘ sgn) c = if (!decide (c ∈ t.cps.toList)) = true then some (sgn c) else none := by
        show (match notInB (sgn c) (.str t) with
        | some true => some (sgn c)
        | _ => none) = _
        rw [notIn_sgn]
        cases decide (c ∈ t.cps.toList) <;> rfl
      rw [List.filterMap_cons, e, List.filter_cons]
      cases hb : decide (c ∈ t.cps.toList) <;> simp [ih]
  · intro d hd
    rw [signs_eq, List.mem_map] at hd
    obtain ⟨c, _, rfl⟩ := hd
    refine ⟨st.set j (some (.d (sgn c))), rfl, ?_⟩
    have e : bCmp notInB (eVar j) (eC (.str t)) (st.set j (some (.d (sgn c)))) L = .ok (!decide (c ∈ t.cps.toList)) L := by
      simp [Rs.bind, opt, LO.rd, rdU, fzU, eVar, eC, op2, op1, eBin, eUn, eCmp, bop2, bCmp, eChain, bChain, trU, bTru, eAnd, eOr, eNot, bAnd, bOr, bNot, eIf, rdUs, fzUs, aNil, aCons, eLst, eTup, eLstL, opn, eFn, oNone, oSome, eSl, eJoin, Rt.andThen, ofR, optS, sNil, sSeq, sDrop, sRet, sIf, sSet, sPar, tfName, tfNil, tfCons, tfTup, sAsg, sSub, outR, fnF, cPos, cBoth, Sr.get, arrU, eCall, iSeq, iRng1, iRng2, sFor, eComp, tYesF, eMake, mkF, eRest, sFld, eFnU, boolU, truG, sBrk, sCnt, sRetN, eDic0, eDic, dPairs, keyU, bD, big, set_get h, notIn_sgn, h]
    rw [e, notIn_sgn]
    cases decide (c ∈ t.cps.toList) with
    | true => exact .inr ⟨rfl, rfl⟩
    | false => exact .inl ⟨sgn c, rfl, by simp [eVar, h], rfl⟩
  · rw [signs_eq]; simp; exact hs
theorem bls_map (f : Nat → Bool) : ∀ cs : List Nat, blsD (cs.map fun c => .bl (f c)) = some (cs.map f)
  | [] => rfl
  | c :: cs => by simp [blsD, bls_map f cs]
theorem all_map (f : Nat → Bool) (cs : List Nat) : allD [.lst (cs.map fun c => .bl (f c))] = some (.bl (cs.all f)) := by
  simp only [allD, bls_map, Option.map_some, List.all_map]
  rfl
theorem py_sgn : ∀ cs : List Nat, toPyL (cs.map sgn) = some (cs.map fun c => .str ⟨#[c]⟩)
  | [] => rfl
  | c :: cs => by simp [toPyL, toPy, sgn, py_sgn cs]
theorem depth_strs : ∀ cs : List Nat, PyData.depthAll (cs.map fun c => .str ⟨#[c]⟩) = 0
  | [] => rfl
  | c :: cs => by simp [PyData.depthAll, PyData.depth, depth_strs cs]
theorem eq_sgn (cs : List Nat) : eqB (.lst (cs.map sgn)) (.lst []) = some cs.isEmpty := by
  unfold eqB
  simp only [toPy, py_sgn, Option.map_some, Option.bind_some, toPyL, PyData.depth, depth_strs]
  cases cs <;> simp [PyData.eqv, PyData.eqvAll]
theorem ne_sgn (cs : List Nat) : neB (.lst (cs.map sgn)) (.lst []) = some (!cs.isEmpty) := by
  unfold neB
  rw [eq_sgn]; rfl
theorem eq_strs (x y : Str) : eqB (.str x) (.str y) = some (x == y) := by simp [eqB, toPy, PyData.depth, PyData.eqv]
theorem ne_strs (x y : Str) : neB (.str x) (.str y) = some (!(x == y)) := by unfold neB; rw [eq_strs]; rfl
theorem len_str (x : Str) (h : x.length ≤ 16777216) : lenD [.str x] = some (.int x.length) := by simp [lenD, big, h]
end VL

set_option Elab.async false
set_option linter.all false
set_option maxRecDepth 100000
set_option maxHeartbeats 4000000
namespace VL
open PySem PySem.Spec PyProof.Rows L2
open PySem.W (Frag)
open PySem.NumText (AllDigits digitsVal)

/-! ### whole numbers written in figures -/
abbrev lt (x : Str) : List Nat := x.cps.toList
theorem str_ext {x y : Str} (h : lt x = lt y) : x = y := by
  obtain ⟨a⟩ := x
  obtain ⟨b⟩ := y
  have : a = b := Array.ext' h
  rw [this]
theorem beq_lt (x y : Str) : (x == y) = decide (lt x = lt y) := by
  by_cases h : lt x = lt y
  · rw [decide_eq_true h, str_ext h]; simp
  · rw [decide_eq_false h]
    exact beq_eq_false_iff_ne.mpr fun z => h (by rw [z])
theorem lt_cut1 (z : Str) : lt (cutS z (some 1) none) = (lt z).drop 1 := by
  unfold cutS
  have e0 : z.length = (lt z).length := by simp [Str.length]
  have e1 : HT.sIx z.length 0 (some 1) = min 1 z.length := HT.sIx_nat z.length 0 1
  rw [HT.sIx_none, e1, e0]
  show ((List.drop _ (lt z)).take _).toArray.toList = _
  generalize lt z = l
  cases l with
  | nil => rfl
  | cons x r =>
    have : min 1 (x :: r).length = 1 := by simp
    rw [this]
    simp
theorem lt_cut0 (z : Str) : lt (cutS z none (some 1)) = (lt z).take 1 := by
  unfold cutS
  have e0 : z.length = (lt z).length := by simp [Str.length]
  have e1 : HT.sIx z.length z.length (some 1) = min 1 z.length := HT.sIx_nat z.length z.length 1
  rw [HT.sIx_none, e1, e0]
  show ((List.drop _ (lt z)).take _).toArray.toList = _
  generalize lt z = l
  cases l with
  | nil => rfl
  | cons x r =>
    have : min 1 (x :: r).length = 1 := by simp
    rw [this]
    simp
/-- a text without its minus -/
def figS (s : Str) : Str := if cutS s none (some 1) == "-" then cutS s (some 1) none else s
theorem lt_minus : lt "-" = [45] := by decide +kernel
theorem figS_lt (s : Str) : lt (figS s) = (match lt s with
    | 45 :: r => r
    | l => l) := by
  unfold figS
  rw [beq_lt, lt_cut0, lt_minus]
  split
  · rename_i h
    have h := of_decide_eq_true h
    rw [lt_cut1]
    split
    · rename_i r e; rw [e]; rfl
    · rename_i e
      cases hl : lt s with
      | nil => rw [hl] at h; simp at h
      | cons c r =>
        rw [hl] at h
        simp at h
        subst h
        exact absurd hl (e r)
  · rename_i h
    split
    · rename_i r e
      rw [e] at h
      exact absurd (decide_eq_true rfl) h
    · rfl
theorem signs_neg (m : Nat) (h : 0 < m) : lt (Str.ofString (toString (-(m : Int)))) = 45 :: (Nat.toDigits 10 m).map Char.toNat := by
  show (Str.ofString (toString (-(m : Int)))).cps.toList = _
  rw [signs_ofString]
  obtain ⟨k, rfl⟩ : ∃ k, m = k + 1 := ⟨m - 1, by omega⟩
  have e : toString (-((k + 1 : Nat) : Int)) = "-" ++ Nat.repr (k + 1) := rfl
  rw [e, String.toList_append, List.map_append, Nat.toList_repr]
  rfl
theorem back_map : ∀ cs : List Nat, AllDigits cs → (cs.map Char.ofNat).map Char.toNat = cs
  | [], _ => rfl
  | c :: cs, h => by
    have hc := h c (.head _)
    have ih := back_map cs fun d hd => h d (.tail _ hd)
    simp only [List.map_cons, ih]
    congr 1
    have : ∀ n : Nat, n < 58 → (Char.ofNat n).toNat = n := by decide
    exact this c (by omega)
theorem AllDigits.drop {cs : List Nat} (h : AllDigits cs) (p : Nat → Bool) : AllDigits (cs.dropWhile p) := fun c hc => h c ((List.dropWhile_suffix p).subset hc)
/-- what str writes of a number read from figures -/
theorem canon {cs : List Nat} (h : AllDigits cs) (h0 : cs ≠ []) : (Nat.toDigits 10 (digitsVal cs)).map Char.toNat = cs ↔ cs = [48] ∨ cs.head? ≠ some 48 := by
  rw [PySem.NumText.toDigits_all cs h]
  have hd := AllDigits.drop h (· == 48)
  cases e : cs.dropWhile (· == 48) with
  | nil =>
    constructor
    · intro z; exact .inl z.symm
    · intro z
      rcases z with z | z
      · rw [z]; rfl
      · cases cs with
        | nil => exact absurd rfl h0
        | cons c r =>
          rw [List.dropWhile_cons] at e
          by_cases hc : (c == 48) = true
          · exact absurd (by rw [List.head?_cons, beq_iff_eq.mp hc]) z
          · rw [if_neg hc] at e; cases e
  | cons c r =>
    have hm : ((c :: r).map Char.ofNat).map Char.toNat = c :: r := back_map _ (by rw [← e]; exact hd)
    show ((c :: r).map Char.ofNat).map Char.toNat = cs ↔ _
    rw [hm]
    have hne : c ≠ 48 := by
      intro z
      have := List.head?_dropWhile_not (p := fun x : Nat => x == 48) cs
      rw [e] at this
      simp [z] at this
    constructor
    · intro z
      rw [← z]
      exact .inr (by rw [List.head?_cons]; simp [hne])
    · intro z
      cases cs with
      | nil => exact absurd rfl h0
      | cons d s =>
        rcases z with z | z
        · rw [z] at e; simp at e
        · rw [List.head?_cons] at z
          have hd : ¬ (d == 48) = true := fun q => z (by rw [beq_iff_eq.mp q])
          rw [List.dropWhile_cons, if_neg hd] at e
          exact e.symm
theorem val_zero {cs : List Nat} (h : AllDigits cs) (h0 : cs ≠ []) (hv : digitsVal cs = 0) : cs.head? = some 48 := by
  cases cs with
  | nil => exact absurd rfl h0
  | cons c r =>
    have hc := h c (.head _)
    by_cases e : c = 48
    · rw [e]; rfl
    · have := PySem.NumText.digitsVal_pos (c := c) (cs := r) (by omega)
      omega
/-- the number that a text in figures writes, and when str writes it back -/
theorem num_text (s : Str) (hs : s.length ≤ 4300) (h : AllDigits (lt (figS s))) (h0 : lt (figS s) ≠ []) :
    ∃ n : Int, intText? s = some n ∧ n.natAbs = digitsVal (lt (figS s)) ∧ (Str.ofString (toString n) == s) = (s == "0" || !((lt (figS s)).head? == some 48)) := by
  have hf := figS_lt s
  have e0 : lt "0" = [48] := by decide +kernel
  by_cases hm : ∃ r, lt s = 45 :: r
  · obtain ⟨r, e⟩ := hm
    have hr : lt (figS s) = r := by rw [hf, e]; rfl
    rw [hr] at h h0 ⊢
    refine ⟨_, PySem.intText_neg e h h0 hs, by simp, ?_⟩
    rw [beq_lt, beq_lt, e0, e]
    have d0 : decide (45 :: r = [48]) = false := decide_eq_false (by simp)
    rw [d0, Bool.false_or]
    by_cases hv : digitsVal r = 0
    · rw [hv, val_zero h h0 hv]
      have : lt (Str.ofString (toString (-((0 : Nat) : Int)))) = [48] := by decide +kernel
      rw [this]
      have : decide ([48] = 45 :: r) = false := decide_eq_false (by simp)
      rw [this]; rfl
    · rw [signs_neg _ (by omega)]
      have hc := canon h h0
      by_cases q : r.head? = some 48
      · have n1 : ¬ (Nat.toDigits 10 (digitsVal r)).map Char.toNat = r := by
          rw [hc]
          rintro (z | z)
          · rw [z] at hv; exact hv (by decide)
          · exact z q
        rw [decide_eq_false (by simpa using n1), q]; rfl
      · have n1 := hc.mpr (.inr q)
        rw [decide_eq_true (by rw [n1])]
        have : (r.head? == some 48) = false := beq_eq_false_iff_ne.mpr q
        rw [this]; rfl
  · have hr : lt (figS s) = lt s := by
      rw [hf]
      split
      · rename_i r e; exact absurd ⟨r, e⟩ hm
      · rfl
    rw [hr] at h h0 ⊢
    refine ⟨_, PySem.intText_digits h h0 hs, by simp, ?_⟩
    have e1 : lt (Str.ofString (toString ((digitsVal (lt s) : Nat) : Int))) = (Nat.toDigits 10 (digitsVal (lt s))).map Char.toNat := PySem.W.KIN.signs_num _
    rw [beq_lt, beq_lt, e0, e1]
    have hc := canon h h0
    by_cases q : lt s = [48] ∨ (lt s).head? ≠ some 48
    · rw [decide_eq_true (hc.mpr q)]
      rcases q with q | q
      · rw [decide_eq_true q]; rfl
      · have : ((lt s).head? == some 48) = false := beq_eq_false_iff_ne.mpr q
        rw [this]; simp
    · rw [decide_eq_false fun z => q (hc.mp z)]
      have q1 : ¬ lt s = [48] := fun z => q (.inl z)
      have q2 : (lt s).head? = some 48 := Classical.not_not.mp fun z => q (.inr z)
      rw [decide_eq_false q1, q2]; rfl
end VL

set_option Elab.async false
set_option linter.all false
set_option maxRecDepth 100000
set_option maxHeartbeats 4000000
set_option exponentiation.threshold 5000
namespace VL
open PySem PySem.Spec PyProof.Rows L2
open PySem.W (Frag)
open PySem.NumText (AllDigits digitsVal)

/-! ### repr of small lists is written -/
theorem textFrom_le (m : Nat) : ∀ (ts : List Str) (k : Nat) (acc : Str), (∀ t ∈ ts, t.length ≤ m) → (textFrom k acc ts).length ≤ acc.length + ts.length * (m + 2)
  | [], k, acc, _ => by simp [textFrom]
  | t :: ts, k, acc, h => by
    have h1 := h t (.head _)
    have c2 : Str.length ", " = 2 := by decide +kernel
    have c0 : Str.length "" = 0 := by decide +kernel
    unfold textFrom
    refine Nat.le_trans (textFrom_le m ts _ _ fun t ht => h t (.tail _ ht)) ?_
    rw [List.length_cons, Nat.succ_mul]
    split <;> simp only [Str.length_append, c2, c0] <;> omega
def Sm : PyData → Prop
  | .none => True
  | .bool _ => True
  | .int i => i.natAbs.log2 < 1920
  | _ => False
theorem sm_shown {p : PyData} (h : Sm p) : p.shown.length ≤ 1921 ∧ p.showable = true ∧ p.hasDict = false ∧ p.depth = 0 := by
  cases p with
  | none => exact ⟨by decide +kernel, rfl, rfl, rfl⟩
  | bool b => cases b <;> exact ⟨by decide +kernel, rfl, rfl, rfl⟩
  | int i =>
    have h : i.natAbs.log2 < 1920 := h
    refine ⟨?_, by simp [PyData.showable, h], rfl, rfl⟩
    have e := int_text_length_le (k := 1920) (by decide) h
    simp only [PyData.shown]
    show (Str.ofString (toString i)).length ≤ 1921
    rw [PySem.ofString_length]; exact e
  | _ => exact h.elim
theorem sm_all : ∀ {ps : List PyData}, (∀ p ∈ ps, Sm p) → (∀ t ∈ PyData.shownAll ps, t.length ≤ 1921) ∧ (PyData.shownAll ps).length = ps.length ∧ PyData.showableAll ps = true ∧ PyData.hasDictAll ps = false ∧ PyData.depthAll ps = 0
  | [], _ => ⟨by simp [PyData.shownAll], rfl, rfl, rfl, rfl⟩
  | p :: ps, h => by
    obtain ⟨a1, a2, a3, a4⟩ := sm_shown (h p (.head _))
    obtain ⟨b1, b2, b3, b4, b5⟩ := sm_all (ps := ps) fun q hq => h q (.tail _ hq)
    refine ⟨?_, by simp [PyData.shownAll, b2], by simp [PyData.showableAll, a2, b3], by simp [PyData.hasDictAll, a3, b4], by simp [PyData.depthAll, a4, b5]⟩
    intro t ht
    simp only [PyData.shownAll, List.mem_cons] at ht
    rcases ht with rfl | ht
    · exact a1
    · exact b1 t ht
theorem repr_sm {xs : List D} {ps : List PyData} (e : toPyL xs = some ps) (h : ∀ p ∈ ps, Sm p) (hl : ps.length ≤ 1000) : ∃ z, reprD [.lst xs] = some (.str z) := by
  obtain ⟨b1, b2, b3, b4, b5⟩ := sm_all h
  have c1 : (PyData.shown (.list ps)).length ≤ big := by
    have e1 : Str.length "[" = 1 := by decide +kernel
    have e2 : Str.length "]" = 1 := by decide +kernel
    have := textFrom_le 1921 (PyData.shownAll ps) 0 "[" b1
    simp only [PyData.shown, listText, Str.length_append, e2]
    have hb : ps.length * 1923 ≤ 1000 * 1923 := Nat.mul_le_mul_right _ hl
    rw [b2, e1] at this
    show _ ≤ 16777216
    omega
  refine ⟨PyData.shown (.list ps), ?_⟩
  show ((toPyL xs).bind fun ps => if PyData.showable (.list ps) ∧ PyData.hasDict (.list ps) = false ∧ PyData.depth (.list ps) ≤ 60 ∧ (PyData.shown (.list ps)).length ≤ big then some (D.str (PyData.shown (.list ps))) else none) = _
  rw [e, Option.bind_some, if_pos ⟨by simpa [PyData.showable] using b3, by simpa [PyData.hasDict] using b4, by simp [PyData.depth, b5], c1⟩]
theorem digits_lt : ∀ (cs : List Nat), AllDigits cs → digitsVal cs < 10 ^ cs.length := by
  have gen : ∀ (cs : List Nat) (a : Nat), AllDigits cs → cs.foldl (fun acc c => acc * 10 + (c - 48)) a < (a + 1) * 10 ^ cs.length := by
    intro cs
    induction cs with
    | nil => intro a _; simp
    | cons c cs ih =>
      intro a h
      have hc := h c (.head _)
      have := ih (a * 10 + (c - 48)) fun d hd => h d (.tail _ hd)
      rw [List.foldl_cons]
      refine Nat.lt_of_lt_of_le this ?_
      rw [List.length_cons, Nat.pow_succ, Nat.mul_comm (10 ^ cs.length) 10, ← Nat.mul_assoc]
      exact Nat.mul_le_mul_right _ (by omega)
  intro cs h
  have := gen cs 0 h
  simpa [digitsVal] using this
theorem log_small {n : Int} {k : Nat} (h : n.natAbs < 10 ^ k) (hk : k ≤ 500) : n.natAbs.log2 < 1920 := by
  have h1 : n.natAbs < 10 ^ 500 := Nat.lt_of_lt_of_le h (Nat.pow_le_pow_right (by decide) hk)
  have h2 : 10 ^ 500 < 2 ^ 1920 := by decide +kernel
  by_cases h0 : n.natAbs = 0
  · rw [h0]; decide
  · exact (Nat.log2_lt h0).mpr (Nat.lt_trans h1 h2)
end VL

set_option Elab.async false
set_option linter.all false
set_option maxRecDepth 100000
set_option maxHeartbeats 4000000
/-! an own error whose __init__ says super().__init__(text), then stores its fields -/
namespace VL
open PySem PySem.Spec PyProof.Rows L2
open PySem.W (Frag)

/-- the context of such an __init__ -/
def cxS (P : Program) (w : World) (K : Frag) (mg : Str → Option Value) (base : Heap) (N : List Str) (qual : Str) (scope : Scope) (f : Addr) (cd : Value) (cc : Addr) (A : Around) (outer : List Env) (s : Shared) (H : Hp) : Cx where
  prog := P
  w := w
  K := K
  mg := mg
  base := base
  A := A.deeper (PySem.W.ksEnv qual scope s.heap.objs.size f cd cc)
  N := N
  s_0 := s
  H_0 := H
  env := PySem.W.ksEnv qual scope s.heap.objs.size f cd cc
  outer := outer
  stack := PySem.W.ksEnv qual scope s.heap.objs.size f cd cc :: outer
  ex := []
  fn := fun _ => false
  calm := true
  pn := []
  xe := fun _ _ => False

/-- what is asked of the scope -/
structure SuScope (N ps : List Str) (sc : Scope) : Prop where
  kind : sc.kind = .function
  co : sc.isCoroutine = false
  gen : sc.isGenerator = false
  nd : N.Nodup
  eq : N = ps
  par : ∀ x ∈ ps, sc.names.lookup x = some .local
  nocell : ∀ y ∈ sc.names, y.2 ≠ .cell
  free : ∀ y ∈ sc.names, y.2 = .free → y.1 = "__class__"
  su : sc.names.lookup ("super" : Str) = some .globalImplicit
  cl : sc.names.lookup ("__class__" : Str) = some .free


theorem lookup_nd {β : Type} {y : Str} {u : β} : ∀ {l : List (Str × β)}, (l.map (·.1)).Nodup → (y, u) ∈ l → l.lookup y = some u
  | [], _, h => by cases h
  | (z, v) :: l, nd, h => by
    rw [List.map_cons, List.nodup_cons] at nd
    rcases List.mem_cons.mp h with e | h
    · cases e; simp [List.lookup]
    · have h0 := h
      have ne : (y == z) = false := by
        rw [beq_eq_false_iff_ne]
        intro e
        subst e
        exact nd.1 (List.mem_map.mpr ⟨(y, u), h0, rfl⟩)
      rw [List.lookup, ne]
      exact lookup_nd nd.2 h
theorem lookup_zip {ps : List Str} {us : List Value} (nd : ps.Nodup) (hl : ps.length = us.length) {i : Nat} {y : Str} {u : Value} (h1 : ps[i]? = some y) (h2 : us[i]? = some u) : (ps.zip us).reverse.lookup y = some u := by
  refine lookup_nd ?_ (List.mem_reverse.mpr ?_)
  · rw [List.map_reverse]
    refine List.pairwise_reverse.mpr (List.Pairwise.imp (R := fun a b => a ≠ b) (fun h => Ne.symm h) ?_)
    have : (ps.zip us).map (·.1) = ps := List.map_fst_zip (by omega)
    rw [this]
    exact nd
  · refine List.mem_of_getElem? (i := i) ?_
    rw [List.getElem?_zip_eq_some]
    exact ⟨h1, h2⟩
section
variable {P : Program} {w : World} {K : Frag} {mg : Str → Option Value} {base : Heap} {N ps : List Str} {qual : Str} {scope : Scope} {f cc cda C : Addr} {A : Around} {outer : List Env} {s0 s1 : Shared} {H H1 : Hp} {us : List Value} {vs : List V}
theorem inv_startS (S : SuScope N ps scope) {cd : Value} (hcc : ∃ o, base.get? cc = some o) (hcell : ∃ v, s1.heap.IsCell cc v) (hd : A.handled = none) (e0 : Env0 P w K mg base A outer s0 H) (hl : vs.length = ps.length) (r : Vals vs us) {h1 : Heap} {tk : Nat} (hs1 : s1 = { s0 with heap := h1, toks := tk })
    (hns : h1.Ns s0.heap.objs.size (fun x => (ps.zip us).reverse.lookup x)) (hk : ∀ b o, s0.heap.get? b = some o → h1.get? b = some o) :
    Inv (cxS P w K mg base N qual scope f cd cc A outer s0 H) [] (vs.map some) H s1 := by
  subst hs1
  obtain ⟨oc, hoc⟩ := hcc
  have hcs := e0.bs _ _ hoc
  have noA : ∀ b : Addr, b ∉ (cxS P w K mg base N qual scope f cd cc A outer s0 H).ex := fun b z => absurd (show b ∈ ([] : List Addr) from z) (by simp)
  have lkc : ∀ {y : Str} {c : Addr}, ([(("__class__" : Str), cc)] : List (Str × Addr)).lookup y = some c → y = "__class__" ∧ c = cc := fun {y c} h => by
    simp only [List.lookup] at h
    split at h
    · rename_i e
      exact ⟨by simpa using e, (Option.some.inj h).symm⟩
    · cases h
  refine ⟨⟨e0.mod, S.kind, rfl, rfl, Nat.le_refl _, fun y z c h1 h2 => ?_, fun y hy => ?_, fun y c h _ => ?_, fun _ => hd, Around.frames_deeper e0.frames, .inr ⟨rfl, rfl⟩, fun b z => absurd z (noA b), e0.bs, e0.bsz, fun b _ _ => noA b, fun b z => absurd z (noA b), e0.funs, e0.frf⟩,
    rfl, e0.bare, Un.kept hk, ⟨_, hns, fun i y v h1 h2 h3 => ?_⟩, fun y c h => ?_, e0.hok.fresh (Nat.le_refl _), fun y c h => ?_, fun p hp => absurd (show p ∈ ([] : List (Addr × Obj)) from hp) (by simp), e0.hok.kept hk, ?_⟩
  · exact (lkc h1).1.trans (lkc h2).1.symm
  · have hy : scope.names.lookup y = some .cell ∨ scope.names.lookup y = some .free := hy
    rcases hy with hy | hy
    · exact absurd rfl (S.nocell _ (PySem.mem_of_lookup hy))
    · have e := S.free _ (PySem.mem_of_lookup hy) rfl
      have e' : y = "__class__" := e
      subst e'
      exact ⟨cc, rfl⟩
  · cases h
  · have hi : i < vs.length := by
      by_cases hi : i < vs.length
      · exact hi
      · rw [List.getElem?_eq_none (by simpa using hi)] at h2; cases h2
    have ha : vs[i]? = some v := by
      rw [List.getElem?_map] at h2
      cases e : vs[i]? with
      | none => rw [e] at h2; cases h2
      | some a => rw [e] at h2; cases h2; rfl
    obtain ⟨u, hu, rv⟩ := r.get ha
    have hp : ps[i]? = some y := by rw [← S.eq]; exact h1
    have ndP : ps.Nodup := by rw [← S.eq]; exact S.nd
    refine ⟨u, rv, .inl ⟨S.par y (List.mem_of_getElem? hp), ?_⟩⟩
    exact lookup_zip ndP (hl.symm.trans r.length) hp hu
  · obtain ⟨_, rfl⟩ := lkc h
    exact hcell
  · obtain ⟨_, rfl⟩ := lkc h
    exact hcs.2
  · show (vs.map some).length = N.length
    rw [List.length_map, hl, S.eq]

/-- the first statement -/
abbrev stSuper (txt : Str) (j : Nat) (p0 p1 p2 p3 p4 p5 : Pos) : Stmt := .Expr (.Call (.Attribute (.Call (.Name "super" p0) [] [] p1) "__init__" p2) [.Constant (.str txt) j p3] [] p4) p5
def EvSuper (txt : Str) (j : Nat) (p0 p1 p2 p3 p4 : Pos) (pl : Sem Bool) (env : Env) : Prop :=
  eval (.Call (.Attribute (.Call (.Name "super" p0) [] [] p1) "__init__" p2) [.Constant (.str txt) j p3] [] p4) env = (do
      let ov ← attributeBase (.Call (.Name "super" p0) [] [] p1) "__init__" env (eval (.Call (.Name "super" p0) [] [] p1) env)
      standAt p2.atName
      let (f, first) ← holding [ov] (getMethod ov "__init__" pl)
      callWith p4 f first (backTo p4 (starEach [.Constant (.str txt) j p3] env)) [])
theorem super_init {txt : Str} {j : Nat} {p0 p1 p2 p3 p4 p5 : Pos} {body : List Stmt} {σ : L2.St} {s : Shared} {a : Addr} {fd : FuncData} {oc ccl cl : Value} {od cdd cld : Option Addr} {osl ccs csl : Array (Option Value)} {vf : Array Value} {file : Str} {tf : Tok} {ar : Arg}
    {Q : Flow → Shared → Prop} {E : Value → Shared → Prop}
    (S : SuScope N ps scope) (T : OexC K C) (I : Inv (cxS P w K mg base N qual scope f (.ref cda) cc A outer s0 H) [] σ H1 s) (e : H1 a = some (exo a C none))
    (hf : K.lookup f = some ⟨oc, od, .func fd, osl⟩) (hp : (fd.params.posonlyargs ++ fd.params.args).head? = some ar) (har : N[0]? = some ar.arg) (hv : σ[0]? = some (some (.ref a)))
    (hcode : K.lookup cda = some ⟨ccl, cdd, .fields vf, ccs⟩) (hvs : vf[2]? = some (.str file tf)) (hfile : ((P.main.file : Str) == file) = true)
    (hcell : K.lookup cc = some ⟨cl, cld, .cell (some (.ref C)), csl⟩) (hsub : PySem.W.mroIn K C (.ref C) = some true) (hsuper : mg "super" = none)
    (htop : (P.main.scope.names.lookup ("super" : Str)).isSome = false) (ho : PySem.W.nsIn K cStatics "thirdparty.any" = some none) (hm : PySem.W.ks_superIn K C C "__init__" = some (some (.builtin "ValueError.__init__"))) (hB : PySem.W.subIn K (.ref C) (.type "ValueError") = some true)
    (hev : ∃ pl, EvSuper txt j p0 p1 p2 p3 p4 pl (PySem.W.ksEnv qual scope s0.heap.objs.size f (.ref cda) cc))
    (hsw : swapsWith (.Call (.Attribute (.Call (.Name "super" p0) [] [] p1) "__init__" p2) [.Constant (.str txt) j p3] [] p4) none p5.line (PySem.W.ksEnv qual scope s0.heap.objs.size f (.ref cda) cc) = pure false)
    (h : ∀ s', Inv (cxS P w K mg base N qual scope f (.ref cda) cc A outer s0 H) [] σ H1 s' → Q .next s') :
    _root_.PySem.wpAt (model P w) (cxS P w K mg base N qual scope f (.ref cda) cc A outer s0 H).A (.func body (PySem.W.ksEnv qual scope s0.heap.objs.size f (.ref cda) cc)) (exec (stSuper txt j p0 p1 p2 p3 p4 p5) (PySem.W.ksEnv qual scope s0.heap.objs.size f (.ref cda) cc)) Q E s := by
  have KI : K.In s.heap := I.kIn
  obtain ⟨t1, hoe⟩ := exo_at I.hok e
  obtain ⟨nm, q, NN, bs, bm, sn, sub, ab, col, dd, k0, k1, k2, k3, k5, hC, hbm⟩ := T.cls
  have hcl : PySem.W.clsIn K C = some { name := nm, bases := bs, mro := .ref C :: bm, ns := NN, qualname := q, hasDict := true, slotNames := sn, subclasses := sub, abstract := ab, collection := col, hasDel := false } := by unfold PySem.W.clsIn; rw [hC] <;> rfl
  obtain ⟨mb, hb1, hb2⟩ := I.mod.blt
  obtain ⟨m, hn, hl⟩ := I.loc
  obtain ⟨ua, hua, lk⟩ := hl 0 ar.arg (.ref a) har hv (.inl (S.par _ (by rw [← S.eq]; exact List.mem_of_getElem? har)))
  cases (show ua = .ref a from hua)
  have hka : scope.names.lookup ar.arg = some .local := S.par _ (by rw [← S.eq]; exact List.mem_of_getElem? har)
  have hma : m ar.arg = some (.ref a) := by
    rcases lk with ⟨_, h1⟩ | ⟨h1, _⟩
    · exact h1
    · have h1 : scope.names.lookup ar.arg = some .cell ∨ scope.names.lookup ar.arg = some .free := h1
      rw [hka] at h1
      rcases h1 with h1 | h1 <;> cases h1
  have IA : PySem.W.InstAt s.heap a ({ cls := .ref C, dict := none, data := .fields #[.ref t1, .none, .none, .none, .bool false, .none] } : Obj) C none := ⟨hoe, rfl, rfl, trivial⟩
  have X := KI
  obtain ⟨pl, hev⟩ := hev
  refine ks_wpAt_Expr_any (ks_wpAt_MethodCall (pl := pl) ?_ hev) (by have := S.kind; simp [interactive, this]) hsw
  refine ks_wpAt_super_base (env := PySem.W.ksEnv qual scope s0.heap.objs.size f (.ref cda) cc) S.su S.cl rfl rfl (X _ _ hf) rfl hp rfl (X _ _ hcode) rfl hvs hfile htop ?_
  refine PySem.W.ks_loadName_global S.kind S.su (PySem.Calls.loadGlobal_builtin (env := PySem.W.ksEnv qual scope s0.heap.objs.size f (.ref cda) cc) (I.mod.glob.keeps I.bk) hsuper (hb1.keeps I.bk) ((hb2 _ (by decide +kernel)).trans PyProof.Rows.Boot.«super») ⟨rfl, ?_⟩)
  refine wpAny_loadName_free S.kind S.cl rfl ⟨_, X _ _ hcell, rfl⟩ ?_
  refine wpAny_loadName_local S.kind hka hn hma ?_
  refine ks_wpAny_isType_cls (X _ _ hC) rfl ⟨rfl, ?_⟩
  obtain ⟨hh, g, d, tk, os⟩ := s
  refine ks_wpAny_call_super (X _ _ hC) rfl hoe rfl (fun c z => by cases z) (PySem.W.looks_mroIn X hsub) (fun h' eso k => ?_)
  have I2 := Inv.more (t' := tk) I k
  have X2 : K.In h' := I2.kIn
  have hI : PySem.W.Looks (model P w) h' (isInstance (.ref a) (.type "ValueError")) true := (PySem.W.InstAt.type (od := none) ⟨k _ _ hoe, rfl, rfl, trivial⟩).andThen (PySem.W.looks_subIn X2 hB)
  have hm' : PySem.W.alongIn K "__init__" (((Value.ref C :: bm).dropWhile (· != .ref C)).drop 1) = some (some (.builtin "ValueError.__init__")) := by
    unfold PySem.W.ks_superIn at hm
    rw [hcl] at hm
    exact hm
  refine PySem.W.kxs_getMethod PySem.W.kxs_ValueError eso (PySem.W.looks_opaque X2 ho) (l₀ := Value.ref C :: bm) ?_ rfl X2 hm' hI (PySem.W.ks_ne X IA hcl) (by decide) ?_
  · exact fun A Q E s k q => wpAny_bind ((PySem.W.looks_clsIn X2 hcl) A _ E s k (wpAny_pure q))
  have k3 : ∀ b o, h'.get? b = some o → (h'.push (PySem.W.kxs_mw "ValueError.__init__" a)).get? b = some o := fun b o z => Heap.get?_push_of_some _ z
  have I3 := Inv.more (t' := tk + 1) I2 k3
  have hu : (h'.push (PySem.W.kxs_mw "ValueError.__init__" a)).get? h'.objs.size = some (PySem.W.kxs_mw "ValueError.__init__" a) := Heap.get?_push_at rfl rfl
  show wpAny _ _ (callWith p4 (.ref h'.objs.size) [] (backTo p4 (starEach [.Constant (.str txt) j p3] (PySem.W.ksEnv qual scope s0.heap.objs.size f (.ref cda) cc))) []) _ _ _
  refine PySem.W.kxs_callWith (i := "ValueError.__init__") (x := a) rfl (PySem.Calls.evalArgs_plain ?_)
  refine PySem.Calls.spliced_cons ?_
  show wpAny _ _ (eval (.Constant (.str txt) j p3) (PySem.W.ksEnv qual scope s0.heap.objs.size f (.ref cda) cc)) _ _ _
  refine PySem.Calls.Constant_str (PySem.Calls.spliced_nil ⟨hu, ?_⟩)
  have I4 := I3.tok (tk + 2)
  have hC4 := I4.kIn _ _ hC
  have he4 : (h'.push (PySem.W.kxs_mw "ValueError.__init__" a)).get? a = some ({ cls := .ref C, dict := none, data := .fields #[.ref t1, .none, .none, .none, .bool false, .none] } : Obj) := k3 _ _ (k _ _ hoe)
  refine wpAny_call (codeAny_of_tree ?_)
  show wpAny _ _ (callAny (.ref h'.objs.size) ⟨[.str txt (tk + 1)], []⟩) _ _ _
  simp only [callAny]
  refine wpAny_bind (wpAny_load hu ?_)
  simp only [PySem.W.kxs_mw, show (Value.type "method-wrapper" == Value.type "method" || Value.type "method-wrapper" == Value.type "builtin_function_or_method" || Value.type "method-wrapper" == Value.type "method-wrapper") = true by decide, if_true]
  refine PySem.W.KFB.if_so (by decide) ?_
  refine wpAny_bind (PySem.W.check_bound_init F.excBase_ValueError.toExcCallFacts hC4 he4 rfl ?_)
  refine wpAny_bind (wpAny_pure (wpAny_pure ?_))
  refine ⟨plainId_quiet F.excBase_ValueError.init.plain _, codeAny_builtin F.excBase_ValueError.initEntry ?_⟩
  refine PySem.W.exc_init_tree (cls := .ref C) (t0 := t1) (dv := none) (c2 := .none) (c3 := .none) (b4 := .bool false) he4 (by rw [sizeLine_eq]; simp) fun h5 k5 e5 _ => ?_
  have J := I4.write (t' := tk + 2) (x := a) (e := a) (o := exo a C none) (by rw [e]; exact True.intro) (.inl rfl) k5 ⟨_, e5⟩ (exo_ok e5)
  have eu : upd H1 a (exo a C none) = H1 := by
    funext b
    by_cases hb : b = a
    · rw [hb, upd_same, e]
    · rw [upd_ne hb]
  rw [eu] at J
  exact h _ J
end
end VL

set_option Elab.async false
set_option linter.all false
set_option maxRecDepth 100000
set_option maxHeartbeats 4000000
namespace VL
open PySem PySem.Spec PyProof.Rows L2
open PySem.W (Frag)
section
variable {P : Program} {w : World} {K : Frag} {mg : Str → Option Value} {base : Heap} {N ps : List Str} {name qual : Str} {scope : Scope} {f cc cda C : Addr}
/-- what the top has left of an error class: its own __init__ at f with the code at cda and the cell cc -/
structure ErrC (P : Program) (K : Frag) (mg : Str → Option Value) (C f : Addr) (name qual : Str) (st : Stmt) (fd : FuncData) : Prop where
  oex : OexC K C
  exc : ExcC K C
  ini : PySem.W.findIn K (.ref C) "__init__" = some (some (.ref f))
  tyI : PySem.W.typeIn K (.ref f) = some (.type "function")
  at_ : ∃ (oc kV doc pm ct ccl cl : Value) (od an cdd cld : Option Addr) (osl ccs csl : Array (Option Value)) (cda cc : Addr) (vf : Array Value) (file : Str) (tf : Tok), fd = PySem.W.ksFn name qual (defArgs st) (defBody st) (defScope st) .none kV doc pm an (.ref cda) ct cc ∧
    K.lookup f = some ⟨oc, od, .func fd, osl⟩ ∧ PySem.W.codeIn K (.ref cda) qual = true ∧ K.lookup cda = some ⟨ccl, cdd, .fields vf, ccs⟩ ∧ vf[2]? = some (.str file tf) ∧ ((P.main.file : Str) == file) = true ∧ K.lookup cc = some ⟨cl, cld, .cell (some (.ref C)), csl⟩
  sub : PySem.W.mroIn K C (.ref C) = some true
  su : mg "super" = none
  top : (P.main.scope.names.lookup ("super" : Str)).isSome = false
  op : PySem.W.nsIn K cStatics "thirdparty.any" = some none
  im : PySem.W.ks_superIn K C C "__init__" = some (some (.builtin "ValueError.__init__"))
  ve : PySem.W.subIn K (.ref C) (.type "ValueError") = some true
/-- what such an __init__ promises: the fields are stored -/
def spX (C : Addr) (ns : List Str) : Sp := fun vs H Q _ => ∃ a ws, vs = .ref a :: ws ∧ ws.length = ns.length ∧ H a = some (exo a C none) ∧ ∀ d, H d = none → d ≠ a → Q .non (upd (upd H d (exd d (ns.zip ws).reverse)) a (exo a C (some d)))
theorem fn_err {CX : CXT} {k : Nat} {st : Stmt} {fd : FuncData} {txt : Str} {j : Nat} {p0 p1 p2 p3 p4 p5 : Pos} {rest : List Stmt} {ar : Arg} {ns : List Str} (T : ErrC P K mg C f name qual st fd) (S : SuScope N ps (defScope st)) (hb : defBody st = stSuper txt j p0 p1 p2 p3 p4 p5 :: rest)
    (hn : ps.length = ns.length + 1) (hp : ((defArgs st).posonlyargs ++ (defArgs st).args).head? = some ar) (har : N[0]? = some ar.arg)
    (hev : ∀ (L cda cc : Addr), ∃ pl, EvSuper txt j p0 p1 p2 p3 p4 pl (PySem.W.ksEnv qual (defScope st) L f (.ref cda) cc))
    (hsw : ∀ (L cda cc : Addr), swapsWith (.Call (.Attribute (.Call (.Name "super" p0) [] [] p1) "__init__" p2) [.Constant (.str txt) j p3] [] p4) none p5.line (PySem.W.ksEnv qual (defScope st) L f (.ref cda) cc) = pure false)
    (hr : ∀ (cda cc : Addr) (A : Around) (outer : List Env) (s : Shared) (H : Hp) (a : Addr) (ws : List V) (Q : VK), ws.length = ns.length → H a = some (exo a C none) → (∀ d, H d = none → d ≠ a → Q .non (upd (upd H d (exd d (ns.zip ws).reverse)) a (exo a C (some d)))) →
      ∃ t, PSs (cxS P w K mg base N qual (defScope st) f (.ref cda) cc A outer s H) rest t ∧ t { nx := fun _ H' => Q .non H', rt := Q } ((V.ref a :: ws).map some) H) :
    FnOk P w K mg base CX (k + 1) f fd ps (spX C ns) := by
  obtain ⟨oc, kV, doc, pm, ct, ccl, cl, od, an, cdd, cld, osl, ccs, csl, cda, cc, vf, file, tf, rfl, lk, hcd, hcode, hvs, hfile, hcell⟩ := T.at_
  refine ⟨fun vs H Q E ⟨a, ws, e, hl, _⟩ => ?_, fun A outer s H args us vs Q E hrm e0 hbd r hsp => ?_⟩
  · rw [e, List.length_cons, hl, hn]
  obtain ⟨a, ws, rfl, hl, he, hq⟩ := hsp
  have KX : K.In s.heap := e0.mod.kin.keeps fun b o e => (e0.bs b o e).1
  have lim : s.heap.NoLimit := e0.mod.nolimit.keeps fun b o e => (e0.bs b o e).1
  have hbin : ∀ x ∈ ps.zip us, (defScope st).names.lookup x.1 = some .local := fun ⟨n, v⟩ hy => S.par n (List.of_mem_zip hy).1
  refine ks_codeAny_call_defAt (fd := PySem.W.ksFn name qual (defArgs st) (defBody st) (defScope st) .none kV doc pm an (.ref cda) ct cc) (body := defBody st) (binds := ps.zip us) hrm.depth (KX _ _ lk) rfl lim (PySem.W.codeRec_of KX hcd) rfl hbd S.nocell hbin (fun h1 hns hk => ?_) S.co S.gen S.kind
  have cb : ∃ o, base.get? cc = some o := ⟨_, e0.mod.kin _ _ hcell⟩
  have I : Inv (cxS P w K mg base N qual (defScope st) f (.ref cda) cc A outer s H) [] ((V.ref a :: ws).map some) H { s with heap := h1, toks := s.toks + (ps.zip us).length } :=
    inv_startS S cb ⟨_, _, hk _ _ (KX _ _ hcell), rfl⟩ hrm.hd e0 (by rw [List.length_cons, hl, hn]) r rfl hns hk
  show _root_.PySem.wpAt (model P w) _ _ (execs (defBody st) (PySem.W.ksEnv qual (defScope st) s.heap.objs.size f (.ref cda) cc)) _ _ _
  rw [hb]
  refine ks_wpAt_execs_cons ?_
  refine super_init S T.oex I he lk hp har rfl hcode hvs hfile hcell T.sub T.su T.top T.op T.im T.ve (hev _ _ _) (hsw _ _ _) fun s' J => ?_
  obtain ⟨t, ht, hq'⟩ := hr cda cc A outer s H a ws Q hl he hq
  refine wpAt_of_wpAny (wpAny_mono (ht.run [] s' _ H _ J hq') (fun fl s'' hs => ?_) fun e s' hs => hs.elim)
  have fin : ∀ {σ' : L2.St} {H' : Hp} {v : V} {u : Value}, Inv (cxS P w K mg base N qual (defScope st) f (.ref cda) cc A outer s H) [] σ' H' s'' → RelV v u → Q v H' → CE outer P w H s Q u s'' :=
    fun {σ' H' v u} J rv q => ⟨v, H', J.os, J.bare, J.base, J.hok, rv, q⟩
  cases fl with
  | ret u =>
    obtain ⟨v, σ', H', J, rv, q⟩ := hs
    exact fin J rv q
  | next =>
    obtain ⟨σ', H', J, q⟩ := hs
    exact fin (v := V.non) (u := Value.none) J rfl q
  | brk =>
    obtain ⟨_, _, _, q⟩ := hs
    exact False.elim q
  | cont =>
    obtain ⟨_, _, _, q⟩ := hs
    exact False.elim q
end
end VL

set_option Elab.async false
set_option linter.all false
set_option maxRecDepth 100000
set_option maxHeartbeats 4000000
namespace VL
open PySem PySem.Spec PyProof.Rows L2
open PySem.W (Frag)
/-! ### the fields of an error, stored -/
section
variable {X : Cx} {C : Addr} {o1 o2 x1 x2 : Expr} {f1 f2 : Str} {p1 p2 q1 q2 : Pos}
theorem rest1 (T : OexC X.K C) (n1 : NoAttr X.K C f1) (e1 : PE X o1 (tVar 0)) (v1 : PE X x1 (tVar 1)) (s1 : swapsWith x1 (some (.Attribute o1 f1 p1)) q1.line X.env = pure false := by rfl) {H : Hp} {a : Addr} {ws : List V} {Q : VK} (hl : ws.length = [f1].length) (he : H a = some (exo a C none))
    (hq : ∀ d, H d = none → d ≠ a → Q .non (upd (upd H d (exd d ([f1].zip ws).reverse)) a (exo a C (some d)))) :
    ∃ t, PSs X [.Assign [.Attribute o1 f1 p1] x1 q1] t ∧ t { nx := fun _ H' => Q .non H', rt := Q } ((V.ref a :: ws).map some) H := by
  refine ⟨_, pss_one (ps_ost e1 v1 s1), ?_⟩
  obtain ⟨w1, rfl⟩ : ∃ w1, ws = [w1] := by
    match ws, hl with
    | [w1], _ => exact ⟨w1, rfl⟩
  exact ⟨w1, rfl, .ref a, rfl, a, C, rfl, T, n1, .inl ⟨he, fun dx h1 h2 => hq dx h1 h2⟩⟩
theorem rest2 (T : OexC X.K C) (n1 : NoAttr X.K C f1) (n2 : NoAttr X.K C f2) (e1 : PE X o1 (tVar 0)) (v1 : PE X x1 (tVar 1)) (e2 : PE X o2 (tVar 0)) (v2 : PE X x2 (tVar 2)) (s1 : swapsWith x1 (some (.Attribute o1 f1 p1)) q1.line X.env = pure false := by rfl)
    (s2 : swapsWith x2 (some (.Attribute o2 f2 p2)) q2.line X.env = pure false := by rfl) {H : Hp} {a : Addr} {ws : List V} {Q : VK} (hl : ws.length = [f1, f2].length) (he : H a = some (exo a C none))
    (hq : ∀ d, H d = none → d ≠ a → Q .non (upd (upd H d (exd d ([f1, f2].zip ws).reverse)) a (exo a C (some d)))) :
    ∃ t, PSs X [.Assign [.Attribute o1 f1 p1] x1 q1, .Assign [.Attribute o2 f2 p2] x2 q2] t ∧ t { nx := fun _ H' => Q .non H', rt := Q } ((V.ref a :: ws).map some) H := by
  refine ⟨_, pss_cons (ps_ost e1 v1 s1) (pss_one (ps_ost e2 v2 s2)), ?_⟩
  obtain ⟨w1, w2, rfl⟩ : ∃ w1 w2, ws = [w1, w2] := by
    match ws, hl with
    | [w1, w2], _ => exact ⟨w1, w2, rfl⟩
  refine ⟨w1, rfl, .ref a, rfl, a, C, rfl, T, n1, .inl ⟨he, fun dx h1 h2 => ?_⟩⟩
  refine ⟨w2, rfl, .ref a, rfl, a, C, rfl, T, n2, .inr ⟨dx, [(f1, w1)], upd_same, by rw [upd_ne h2]; exact upd_same, by simp, ?_⟩⟩
  have e : upd (upd (upd H dx (exd dx [(f1, w1)])) a (exo a C (some dx))) dx (exd dx [(f2, w2), (f1, w1)]) = upd (upd H dx (exd dx ([f1, f2].zip [w1, w2]).reverse)) a (exo a C (some dx)) := by
    funext b
    by_cases hb : b = dx
    · subst hb; rw [upd_same, upd_ne h2, upd_same]; rfl
    · rw [upd_ne hb]
      by_cases ha : b = a
      · subst ha; rw [upd_same, upd_same]
      · rw [upd_ne ha, upd_ne ha, upd_ne hb, upd_ne hb]
  show Q .non _
  rw [e]
  exact hq dx h1 h2
end
/-! ### raise C(..) -/
theorem zip_fst {α β : Type} : ∀ {ns : List α} {ws : List β}, ws.length = ns.length → (ns.zip ws).map (·.1) = ns
  | [], _, _ => rfl
  | n :: ns, w :: ws, h => by simp only [List.zip_cons_cons, List.map_cons]; rw [zip_fst (by simpa using h)]
theorem zip_snd {α β : Type} : ∀ {ns : List α} {ws : List β}, ws.length = ns.length → (ns.zip ws).map (·.2) = ws
  | [], [], _ => rfl
  | n :: ns, w :: ws, h => by simp only [List.zip_cons_cons, List.map_cons]; rw [zip_snd (by simpa using h)]
theorem RepL.rev {K : Frag} {F : Addr → Prop} {H : Hp} : ∀ {ds : List D} {vs : List V}, RepL K F H ds vs → RepL K F H ds.reverse vs.reverse
  | [], _, h => by cases h; rfl
  | d :: ds, _, ⟨v, r, e, h, t⟩ => by subst e; rw [List.reverse_cons, List.reverse_cons]; exact RepL.append (RepL.rev t) (RepL.one h)
def sRaise (C : Addr) (ns : List Str) (f : AF) : SF := fun st L => ofR (f st L) st fun us L1 => optS (fzUs L1 us) fun p => if p.1.length = ns.length then .ex C ns.reverse p.1.reverse st p.2 else .no
section
variable {X : Cx} {W : WX} {e : Expr} {es : List Expr} {fa : AF}
theorem xd_step {K : Frag} {F : Addr → Prop} {ρ : Nat → Addr} {H : Hp} {L : LS} (o : Ok K F ρ H L) {d : Addr} (hd : H d = none) {ns : List Str} {xs : List D} {vs : List V} (hl : vs.length = ns.length) (r : RepL K F H xs vs) :
    Step F ρ H L (F1 F d) ρ (upd H d (.xd (ns.zip vs).reverse)) L ∧ Ok K (F1 F d) ρ (upd H d (.xd (ns.zip vs).reverse)) L ∧ Thrown K (F1 F d) (upd H d (.xd (ns.zip vs).reverse)) ns.reverse xs.reverse (some d) := by
  obtain ⟨s1, o1⟩ := new_ok o hd (.xd (ns.zip vs).reverse)
  refine ⟨s1, o1, d, (ns.zip vs).reverse, rfl, .inr rfl, upd_same, ?_, ?_⟩
  · rw [List.map_reverse, zip_fst hl]
  · rw [List.map_reverse, zip_snd hl]
    exact RepL.rev (RepL.mono (new_k o hd _) xs r)
theorem ks_raise {x : Str} {C f : Addr} {k : Nat} {fd : FuncData} {ps ns : List Str} {name qual : Str} {stt : Stmt} {p p' pos : Pos} (tk : Takes X W) (T : ErrC X.prog X.K X.mg C f name qual stt fd) (G : FnOk X.prog X.w X.K X.mg X.base CX0 k f fd ps (spX C ns)) (hr : Room (k + 1) X.A) (hb : Binds X.K fd ps [])
    (hm : X.mg x = some (.ref C)) (ha : KA X W (e :: es) fa) (hn : ns.length ≤ 1000 := by decide) (hg : Gl X x := by rfl) (hc : X.calm = true := by rfl)
    (hdb : (x == ("__debug__" : Str)) = false := by decide) (he : starEach (e :: es) X.env = (false, eval e X.env) :: starEach es X.env := by rfl) (hpl : (backTo p' (starEach es X.env)).any (·.1) = false := by rfl) :
    KS X W (.Raise (some (.Call (.Name x p) (e :: es) [] p')) none pos) (sRaise C ns fa) := by
  refine ps_wk (ps_raise hc tk (pmk_oex T.oex T.ini T.tyI G hr hb .nil (fun _ _ _ _ _ _ _ h => h.elim) hg hm ha hdb he hpl)) fun D σ H ⟨F, ρ, L, st, o, r, h⟩ => ?_
  refine RS.one (P := RepUs) o r h fun vs H1 F1 ρ1 L1 us s1 o1 r1 p1 h1 => ?_
  obtain ⟨pp, e1, h1⟩ := h1.optS
  obtain ⟨F2, s2, o2, r2⟩ := fzUs_ok o1 p1 e1
  split at h1
  · rename_i hl
    have hlv : vs.length = ns.length := by rw [r2.length]; exact hl
    refine ⟨by rw [hlv]; exact hn, fun a ha => ⟨a, vs, by rw [List.append_nil], hlv, upd_same, fun d hd hne => ⟨rfl, d, (ns.zip vs).reverse, upd_same, by rw [upd_ne hne]; exact upd_same, ?_, ?_⟩⟩⟩
    · rw [upd_ne hne] at hd; exact hd
    · have hd' : H1 d = none := by rw [upd_ne hne] at hd; exact hd
      have eH : upd (del (upd (upd (upd H1 a (exo a C none)) d (exd d (ns.zip vs).reverse)) a (exo a C (some d))) a) d (.xd (ns.zip vs).reverse) = upd H1 d (.xd (ns.zip vs).reverse) := by
        funext b
        by_cases hbd : b = d
        · subst hbd; rw [upd_same, upd_same]
        · rw [upd_ne hbd, upd_ne hbd]
          by_cases hba : b = a
          · subst hba; rw [del_same, ha]
          · rw [del_ne hba, upd_ne hba, upd_ne hbd, upd_ne hba]
      rw [eH]
      obtain ⟨s3, o3, t3⟩ := xd_step o2 hd' (ns := ns) hlv r2
      exact h1 _ _ _ σ (some d) (s2.trans s3) o3 (r1.mono (s2.trans s3)) t3
  · exact h1.elim
end
end VL

set_option Elab.async false
set_option linter.all false
set_option maxRecDepth 100000
set_option maxHeartbeats 4000000
namespace VL
open PySem PySem.Spec PyProof.Rows L2
open PySem.W (Frag)
/-! ### try: body, except x as n: suite; the exception is kept as a value -/
section
variable {X : Cx} {pins : List (Addr × Obj)} {σ : L2.St} {H : Hp} {s sI : Shared}
theorem excO_ok {P : Program} {w : World} {H : Hp} {h : Heap} {a C d : Addr} {oe : Obj} {vs : Array Value} (e : h.get? a = some oe) (hz : Zc (.ref C) (some d) oe) (hd : oe.data = .fields vs) : ObjOk P w H h a (.ext (ExcO a C d)) :=
  ⟨⟨oe, vs, e, hz.1, hz.2, hd⟩, ⟨oe, e⟩, fun h1 h2 ⟨o, v, x, y⟩ k => ⟨o, v, k o x, y⟩⟩
/-- the caught exception comes to be one of the things that are told -/
theorem Inv.caught (J : Inv X pins σ H sI) (I : Inv X pins σ H s) {a C d : Addr} {oe : Obj} {vs : Array Value} (hx : X.ex = []) (ha : s.heap.get? a = some oe) (hz : Zc (.ref C) (some d) oe) (hd : oe.data = .fields vs) (na : H a = none) (nI : sI.heap.get? a = none) (nL : a ≠ X.env.locals) :
    Inv (X.suite a (X.pn ++ pins)) [] σ (upd H a (.ext (ExcO a C d))) s := by
  have n0 : ∀ b o, X.s_0.heap.get? b = some o → b ≠ a := fun b o e z => by
    obtain ⟨o', e'⟩ := J.base.there b o e (by rw [hx]; simp)
    rw [z, nI] at e'
    cases e'
  refine ⟨I.ok.suite _ _, I.os, I.bare, ⟨I.base.keep, I.base.slot, fun b o e n hb => ?_, I.base.there, fun b xs e => ?_, fun b o u e => ?_, fun b ps e => ?_⟩, I.loc, I.cell, ?_, fun y c e => ?_, fun p hp => ?_, fun b o e => ?_, I.len⟩
  · rw [upd_ne (n0 b o e)]; exact I.base.free b o e n hb
  · have q := I.base.tups b xs e
    rw [upd_ne (ne_of_none q na)]; exact q
  · have q := I.base.frzs b o u e
    rw [upd_ne (ne_of_none q na)]; exact q
  · obtain ⟨more, q⟩ := I.base.tbls b ps e
    exact ⟨more, by rw [upd_ne (ne_of_none q na)]; exact q⟩
  · show upd H a _ X.env.locals = none
    rw [upd_ne (Ne.symm nL)]; exact I.free
  · obtain ⟨v, ob, e1, e2⟩ := I.cell y c e
    have nc : c ≠ a := fun z => by
      rw [z, ha] at e1
      cases e1
      rw [hd] at e2
      cases e2
    rw [upd_ne nc]
    exact I.freeC y c e
  · have hp' : p ∈ X.pn ++ pins := by rw [List.append_nil] at hp; exact hp
    obtain ⟨e1, e2, e3⟩ := I.pin p hp'
    have ne : p.1 ≠ a := fun z => by
      have := (J.pin p hp').1
      rw [z, nI] at this
      cases this
    exact ⟨e1, by rw [upd_ne ne]; exact e2, e3⟩
  · by_cases hb : b = a
    · subst hb
      rw [upd_same] at e
      cases e
      exact excO_ok ha hz hd
    · rw [upd_ne hb] at e
      exact (I.hok b o e).stay (fun _ _ _ q => q) (fun c q => by rw [upd_ne (ne_of_none q na)]; exact q) fun c xs q => by rw [upd_ne (ne_of_none q na)]; exact q
theorem Inv.uncaught {a : Addr} {pn' : List (Addr × Obj)} (I : Inv (X.suite a (X.pn ++ pins)) pn' σ H s) (ok : X.Ok) : Inv X pins σ H s :=
  ⟨ok, I.os, I.bare, I.base, I.loc, I.cell, I.free, I.freeC, fun p hp => I.pin p (List.mem_append_left _ hp), I.hok, I.len⟩
end
/-- what the clause wishes of an exception of the body -/
def wKs (K : Frag) (c : Value) (i : Nat) (ts : TS) (Wout : WX) (D : Ends) : WX := fun cls d σ H =>
  ∃ b, PySem.W.exmOne K cls c = some b ∧ (b = true → ∃ C dd, cls = .ref C ∧ d = some dd ∧ ∀ a, H a = none → ts { nx := fun σ' H' => D.nx (σ'.set i none) H', rt := D.rt, bk := fun σ' H' => D.bk (σ'.set i none) H', ct := fun σ' H' => D.ct (σ'.set i none) H' } (σ.set i (some (.ref a))) (upd H a (.ext (ExcO a C dd)))) ∧
    (b = false → Wout cls d σ H)
section
variable {X : Cx} {x n : Str} {c : Value} {i : Nat} {body suite : List Stmt} {b₀ : Stmt} {np pos pos' : Pos} {tb : WX → TS} {ts : TS} {Wout : WX}
theorem ps_try_keep (hs : X.stack = X.env :: X.outer) (hx : X.ex = []) (hf : X.env.frame = some X.env.locals) (hN : X.N.Nodup) (hi : X.N[i]? = some n) (hln : X.env.kindOf n = some .local) (hc : Names X x c) (tk : Takes X Wout)
    (hb : ∀ (W : WX) (pn : List (Addr × Obj)) (xe : Value → Shared → Prop), Takes (X.tr pn xe) W → PassesOwn (model X.prog X.w) X.A X.env xe → PSs (X.tr pn xe) body (tb W))
    (hsu : ∀ (a : Addr) (pn : List (Addr × Obj)), PSs (X.suite a pn) (b₀ :: suite) ts) :
    PS X (.Try body [.ExceptHandler (some (.Name x np)) (some n) (b₀ :: suite) pos'] [] [] pos) (fun D σ H => tb (wKs X.K c i ts Wout D) D σ H) := by
  refine ⟨fun pins s σ H D I h => ?_⟩
  have ok := I.ok
  have hfr : X.A.frames = some (X.env :: X.outer) := by rw [ok.frames, hs]
  have hloc : Loc X.env.scope n := .inl hln
  refine wpAny_Try_except ?_
  refine wpAny_mono ((hb (wKs X.K c i ts Wout D) (X.pn ++ pins) (fun e s₁ => wpAny (model X.prog X.w) X.A (noteFrame e X.env) (fun _ s₂ => wpAny (model X.prog X.w) X.A (setFlight e none) (fun _ s₃ =>
    wpAny (model X.prog X.w) X.A (handleBy e X.env [.ExceptHandler (some (.Name x np)) (some n) (b₀ :: suite) pos']) (SP X pins D) X.xe s₃) X.xe s₂) X.xe s₁) (fun u s' xx => ?_) PassesOwn.looking).run [] s σ H D (I.toTry _) h) (fun f s1 hsp => ?_) (fun e s1 he => he)
  · -- the catch
    obtain ⟨a, B, sI, pins', σ', H', cls, d, rfl, J', nb, up, sky, na, os, ag, b, hb1, hyes, hno⟩ := xx
    have J : Inv X pins σ' H' sI := J'.ofTry ok
    have sky' : Sky B (X.env :: X.outer) a (Zc cls d) X.env.locals s'.heap := by rw [← hs]; exact sky
    show wpAny (model X.prog X.w) X.A (noteFrame (.ref a) X.env) _ _ _
    refine Sky.land Zc.steady hfr hf sky' fun h3 fl3 up3 => ?_
    have J3 : Inv X pins σ' H' { s' with heap := h3 } := J.landed nb fl3.1 (up.trans up3) os ag
    obtain ⟨oe3, vs3, he3, hz3, hd3⟩ := fl3.there
    have notFr : ∀ {h : Heap} {o : Obj} {vs : Array Value}, h.FunFrames B (X.env :: X.outer) → h.get? a = some o → o.data = .fields vs → a ∉ frs (X.env :: X.outer) := fun {h o vs} ff e dd hm => by
      obtain ⟨_, o', e', hnf⟩ := ff.mem hm
      rw [e] at e'; cases e'
      exact hnf _ dd
    have nfr := notFr fl3.2.2.1 he3 hd3
    have nL : a ≠ X.env.locals := fun z => nfr (List.mem_filterMap.mpr ⟨X.env, List.mem_cons_self, by rw [hf, z]⟩)
    have nF : a ∉ X.fs := fun hm => by
      obtain ⟨e, he, q⟩ := List.mem_filterMap.mp hm
      exact nfr (List.mem_filterMap.mpr ⟨e, List.mem_cons_of_mem _ he, q⟩)
    have nI : sI.heap.get? a = none := by
      cases z : sI.heap.get? a with
      | none => rfl
      | some o =>
        have := nb a o z (by rw [hs]; exact nfr)
        rw [fl3.2.1] at this
        cases this
    have S3 := J3.suite he3 hd3 na nL nF
    refine wpAny_handleBy_cons (codeAny_handlers_test ?_) (by intro q; cases q)
    have LT : PySem.W.Looks (model X.prog X.w) h3 (typeOf (.ref a)) cls := fun A Q E s k q => wpAny_typeOf_ref (k _ _ he3) (by rw [hz3.1]; exact q)
    have LM := PySem.W.exm_one (M := model X.prog X.w) (J3.kIn) LT hb1
    have test : ∀ {Q : Value → Shared → Prop} {E : Value → Shared → Prop}, Q c { s' with heap := h3 } → wpAny (model X.prog X.w) (X.A.mark (some (.ref a))) (eval (.Name x np) X.env) Q E { s' with heap := h3 } := fun {Q E} q => by
      obtain ⟨hg, hdbg, hm | ⟨hm, hv, hnn⟩⟩ := hc
      · exact ld_glob (X := X.suite a ((a, oe3) :: (X.pn ++ pins))) S3 hg hm q hdbg
      · exact ld_blt (X := X.suite a ((a, oe3) :: (X.pn ++ pins))) S3 hg hm hv q hnn hdbg
    refine test (LM.here ?_)
    cases b with
    | true =>
      refine codeAny_handlers_suite_as ?_
      refine HandSPX.lands_againZ fl3 fun h4 fl4 up4 => ?_
      have J4 : Inv X pins σ' H' { s' with heap := h4 } := J.landed nb fl4.1 ((up.trans up3).trans up4) os ag
      obtain ⟨oe4, vs4, he4, hz4, hd4⟩ := fl4.there
      obtain ⟨C, dd, rfl, rfl, hyes2⟩ := hyes rfl
      have S4 := Inv.caught J J4 hx he4 hz4 hd4 na nI nL
      refine store_ok (X := X.suite a (X.pn ++ pins)) (v := .ref a) S4 hN hi hloc rfl (fun s5 S5 => ?_) (.inr hln)
      refine wpAny_mono ((hsu a (X.pn ++ pins)).run [] s5 _ _ _ S5 (hyes2 a na)) (fun f s6 hsp => ?_) (fun _ _ z => False.elim z)
      have end_ : ∀ {σ6 : L2.St} {H6 : Hp} {Q : Shared → Prop}, Inv (X.suite a (X.pn ++ pins)) [] σ6 H6 s6 → (∀ s7, Inv X pins (σ6.set i none) H6 s7 → Q s7) →
          wpAny (model X.prog X.w) X.A (do bindName X.env n .none; unbindBehindTheSuite X.env n pos') (fun _ s7 => Q s7) X.xe s6 := fun {σ6 H6 Q} S6 hq => gone_ok (Inv.uncaught S6 ok) hN hi hln hq
      cases f with
      | next =>
        obtain ⟨σ6, H6, S6, q6⟩ := hsp
        exact end_ S6 fun s7 J7 => ⟨_, _, J7, q6⟩
      | brk =>
        obtain ⟨σ6, H6, S6, q6⟩ := hsp
        exact end_ S6 fun s7 J7 => ⟨_, _, J7, q6⟩
      | cont =>
        obtain ⟨σ6, H6, S6, q6⟩ := hsp
        exact end_ S6 fun s7 J7 => ⟨_, _, J7, q6⟩
      | ret u =>
        obtain ⟨v6, σ6, H6, S6, r6, q6⟩ := hsp
        exact end_ S6 fun s7 J7 => ⟨_, _, _, J7, r6, q6⟩
    | false =>
      show wpAny _ X.A (handleBy (.ref a) X.env []) _ _ _
      refine wpAny_handleBy_nil ?_
      obtain ⟨k1, k2, k3, oe, vs, T, oT, ts', he, hz, hd, h1, hr⟩ := id fl3
      unfold PySem.passOn
      refine wpAny_bind (wpAny_field he hd h1 ?_)
      rw [if_neg (show ¬ ((Value.ref T == Value.none) = true) from by simp)]
      have fin : wpAny (model X.prog X.w) X.A (setFlight (.ref a) X.env.frame) (fun _ s4 => wpAny (model X.prog X.w) X.A (throw (.ref a) : Sem Flow) (SP X pins D) X.xe s4) X.xe { s' with heap := h3 } := by
        rw [hf]
        refine HandSPX.setFlight_upZ fl3 fun h4 hh4 up4 => wpAny_throw (tk _ _ ?_)
        exact ⟨a, B, sI, pins, σ', H', cls, d, rfl, J, nb, (up.trans up3).trans up4, .inr (.inr (by rw [hs]; exact hh4)), na, os, ag, hno rfl⟩
      first
        | exact wpAny_bind (wpAny_pure (wpAny_bind fin))
        | exact wpAny_bind fin
  · cases f with
    | next =>
      obtain ⟨σ', H', J', q⟩ := hsp
      exact wpAny_execs_nil ⟨σ', H', J'.ofTry ok, q⟩
    | brk =>
      obtain ⟨σ', H', J', q⟩ := hsp
      exact ⟨σ', H', J'.ofTry ok, q⟩
    | cont =>
      obtain ⟨σ', H', J', q⟩ := hsp
      exact ⟨σ', H', J'.ofTry ok, q⟩
    | ret u =>
      obtain ⟨v, σ', H', J', r, q⟩ := hsp
      exact ⟨v, σ', H', J'.ofTry ok, r, q⟩
end
/-! ### the mirror -/
def Rt.clr (i : Nat) : Rt → Rt
  | .nx st L => .nx (st.set i none) L
  | .bk st L => .bk (st.set i none) L
  | .ct st L => .ct (st.set i none) L
  | .rt u L => .rt u L
  | _ => .no
/-- tbl: the classes that may come, and whether the clause takes them -/
def sTry (tbl : List (Addr × Bool)) (i : Nat) (body suite : SF) : SF := fun st L => match body st L with
  | .ex C ns xs st' L' => (match tbl.lookup C with
    | some true => (suite (st'.set i (some (.d (.exc C ns xs)))) L').clr i
    | some false => .ex C ns xs st' L'
    | none => .no)
  | r => r
def TakeT (K : Frag) (c : Addr) (tbl : List (Addr × Bool)) : Prop := ∀ C b, (C, b) ∈ tbl → PySem.W.exmOne K (.ref C) (.ref c) = some b ∧ ExcC K C
theorem RepSt.unset {K : Frag} {F : Addr → Prop} {ρ : Nat → Addr} {H : Hp} {L : LS} {σ : L2.St} {st : SS} (h : RepSt K F ρ H L σ st) (i : Nat) : RepSt K F ρ H L (σ.set i none) (st.set i none) := by
  refine ⟨by simp [h.len], fun j w e => ?_⟩
  by_cases q : j = i
  · subst q
    by_cases hl : j < st.length
    · rw [List.getElem?_set_self hl] at e; cases e
    · rw [List.getElem?_eq_none (by simpa using hl)] at e; cases e
  · rw [List.getElem?_set_ne (Ne.symm q)] at e ⊢
    exact h.at_ j w e
theorem ks_try {X : Cx} {W : WX} {x n : Str} {c : Addr} {tbl : List (Addr × Bool)} (i : Nat) {body suite : List Stmt} {b₀ : Stmt} {np pos pos' : Pos} {fb fs : SF} (T : TakeT X.K c tbl) (hN : X.N.Nodup) (tk : Takes X W) (hm : X.mg x = some (.ref c))
    (hb : ∀ (W : WX) (pn : List (Addr × Obj)) (xe : Value → Shared → Prop), Takes (X.tr pn xe) W → PassesOwn (model X.prog X.w) X.A X.env xe → KSs (X.tr pn xe) W body fb)
    (hsu : ∀ (a : Addr) (pn : List (Addr × Obj)), KSs (X.suite a pn) Wn (b₀ :: suite) fs)
    (hs : X.stack = X.env :: X.outer := by rfl) (hx : X.ex = [] := by rfl) (hf : X.env.frame = some X.env.locals := by rfl) (hi : X.N[i]? = some n := by rfl) (hln : X.env.kindOf n = some .local := by rfl) (hg : Gl X x := by rfl) (hdb : (x == ("__debug__" : Str)) = false := by decide) :
    KS X W (.Try body [.ExceptHandler (some (.Name x np)) (some n) (b₀ :: suite) pos'] [] [] pos) (sTry tbl i fb fs) := by
  refine ps_wk (ps_try_keep (c := .ref c) (ts := RS X.K Wn fs) (tb := fun W => RS X.K W fb) (Wout := W) hs hx hf hN hi hln ⟨hg, hdb, .inl hm⟩ tk (fun W pn xe t p => hb W pn xe t p) (fun a pn => hsu a pn)) fun D σ H ⟨F, ρ, L, st, o, r, h⟩ => ?_
  refine ⟨F, ρ, L, st, o, r, ?_⟩
  unfold sTry at h
  cases e : fb st L with
  | ex C ns xs st' L' =>
    rw [e] at h
    simp only at h
    intro F1 ρ1 H1 σ1 d s1 o1 r1 t1
    cases hl : tbl.lookup C with
    | none => rw [hl] at h; exact h.elim
    | some b =>
      rw [hl] at h
      obtain ⟨hex, hec⟩ := T C b (mem_of_lookup hl)
      refine ⟨b, hex, fun hb => ?_, fun hb => ?_⟩
      · subst hb
        obtain ⟨dd, fs', rfl, f1, f2, f3, f4⟩ := t1
        refine ⟨C, dd, rfl, rfl, fun a na => ?_⟩
        obtain ⟨s2, o2⟩ := new_ok o1 na (.ext (ExcO a C dd))
        have k2 := new_k o1 na (.ext (ExcO a C dd))
        have hd : dd ≠ a := fun z => by rw [z, na] at f2; cases f2
        have rx : Rep X.K (VL.F1 F1 a) (upd H1 a (.ext (ExcO a C dd))) (.exc C ns xs) (.ref a) := ⟨a, dd, fs', rfl, .inr rfl, .inl f1, upd_same, by rw [upd_ne hd]; exact f2, hec, f3, RepL.mono k2 xs f4⟩
        refine ⟨_, ρ1, L', st'.set i (some (.d (.exc C ns xs))), o2, (r1.mono s2).set i (u := .d (.exc C ns xs)) rx, ?_⟩
        have h2 := GS.on (s1.trans s2) h
        simp only at h2
        cases e2 : fs (st'.set i (some (.d (.exc C ns xs)))) L' with
        | nx st2 L2 => rw [e2] at h2; exact fun F3 ρ3 H3 σ3 s3 o3 r3 => h2 F3 ρ3 H3 _ s3 o3 (r3.unset i)
        | bk st2 L2 => rw [e2] at h2; exact fun F3 ρ3 H3 σ3 s3 o3 r3 => h2 F3 ρ3 H3 _ s3 o3 (r3.unset i)
        | ct st2 L2 => rw [e2] at h2; exact fun F3 ρ3 H3 σ3 s3 o3 r3 => h2 F3 ρ3 H3 _ s3 o3 (r3.unset i)
        | rt u L2 => rw [e2] at h2; exact h2
        | ex C2 ns2 xs2 st2 L2 => rw [e2] at h2; exact h2.elim
        | no => rw [e2] at h2; exact h2.elim
      · subst hb
        exact h F1 ρ1 H1 σ1 d s1 o1 r1 t1
  | nx st2 L2 => rw [e] at h; exact h
  | bk st2 L2 => rw [e] at h; exact h
  | ct st2 L2 => rw [e] at h; exact h
  | rt u L2 => rw [e] at h; exact h
  | no => rw [e] at h; exact h
end VL

set_option Elab.async false
set_option linter.all false
set_option maxRecDepth 100000
set_option maxHeartbeats 4000000
namespace VL
open PySem PySem.Spec PyProof.Rows L2
open PySem.W (Frag)
/-! ### operators by own defs -/
/-- an operator on two things, which may raise -/
def Op2U (X : Cx) (W : WX) (f : Value → Value → Sem Value) (g : U → U → LS → Rs U) : Prop := ∀ (pins : List (Addr × Obj)) (s : Shared) (σ : L2.St) (H : Hp) (x y : V) (v u : Value) (Q : VK) (F : Addr → Prop) (ρ : Nat → Addr) (L : LS) (ux uy : U),
  Inv X pins σ H s → Ok X.K F ρ H L → RepU X.K F ρ H L ux x → RepU X.K F ρ H L uy y → RelV x v → RelV y u → GE RepU X.K W σ F ρ H L Q (g ux uy L) → wpAny (model X.prog X.w) X.A (f v u) (EP X pins σ Q) X.xe s
def eBinU (g : U → U → LS → Rs U) (fa fb : EF) : EF := fun st L => (fa st L).bind fun x L1 => (fb st L1).bind fun y L2 => g x y L2
def bTest (r : Rs U) : Rs Bool := r.bind fun u L => match u with
  | .d (.bl b) => .ok b L
  | _ => .no
def bBinU (g : U → U → LS → Rs U) (fa fb : EF) : TF := fun st L => bTest (eBinU g fa fb st L)
section
variable {X : Cx} {W : WX} {a b o e : Expr} {fa fb : EF} {pos : Pos} {g : U → U → LS → Rs U}
theorem two_run {f : Value → Value → Sem Value} (ho : Op2U X W f g) (ha : KE X W a fa) (hb : KE X W b fb) {pins : List (Addr × Obj)} {s : Shared} {σ : L2.St} {H : Hp} {Q : VK} (I : Inv X pins σ H s) (h : RG RepU X.K W (eBinU g fa fb) σ H Q) :
    wpAny (model X.prog X.w) X.A (eval a X.env) (fun v s₁ => wpAny (model X.prog X.w) X.A (eval b X.env) (fun u s₂ => wpAny (model X.prog X.w) X.A (f v u) (EP X pins σ Q) X.xe s₂) X.xe s₁) X.xe s := by
  obtain ⟨F, ρ, L, st, o, r, h⟩ := h
  refine thn (PE.run ha pins s σ H (fun x H1 => ∃ F1 ρ1 L1 ux, Ok X.K F1 ρ1 H1 L1 ∧ RepSt X.K F1 ρ1 H1 L1 σ st ∧ RepU X.K F1 ρ1 H1 L1 ux x ∧ GE RepU X.K W σ F1 ρ1 H1 L1 Q ((fb st L1).bind fun y L2 => g ux y L2)) I (RG.one o r h fun x H1 F1 ρ1 L1 u s1 o1 r1 p1 h1 => ⟨F1, ρ1, L1, u, o1, r1, p1, h1⟩)) fun v s1 ⟨x, H1, I1, rx, F1, ρ1, L1, ux, o1, r1, p1, h1⟩ => ?_
  refine thn (PE.run hb pins s1 σ H1 (fun y H2 => ∃ F2 ρ2 L2 uy, Ok X.K F2 ρ2 H2 L2 ∧ RepU X.K F2 ρ2 H2 L2 ux x ∧ RepU X.K F2 ρ2 H2 L2 uy y ∧ GE RepU X.K W σ F2 ρ2 H2 L2 Q (g ux uy L2)) I1 (RG.one o1 r1 h1 fun y H2 F2 ρ2 L2 u s2 o2 r2 p2 h2 => ⟨F2, ρ2, L2, u, o2, p1.mono s2, p2, h2⟩)) fun u s2 ⟨y, H2, I2, ry, F2, ρ2, L2, uy, o2, p2, q2, h2⟩ => ?_
  exact ho pins s2 σ H2 x y v u Q F2 ρ2 L2 ux uy I2 o2 p2 q2 rx ry h2
theorem ke_binU {op : Operator} (ho : Op2U X W (binaryOp op) g) (ha : KE X W a fa) (hb : KE X W b fb) : KE X W (.BinOp a op b pos) (eBinU g fa fb) :=
  ⟨fun pins s σ H Q I h => wpAny_BinOp (two_run ho ha hb I h)⟩
theorem ke_cmpU {op : CmpOp} (ho : Op2U X W (compareOp op) g) (ha : KE X W a fa) (hb : KE X W b fb) (hm : behindInMarks op b = false) : KE X W (.Compare a [op] [b] pos) (eBinU g fa fb) :=
  ⟨fun pins s σ H Q I h => wpAny_Compare1 (two_run ho ha hb I h) hm⟩
theorem ge_test {K : Frag} {σ : L2.St} {F : Addr → Prop} {ρ : Nat → Addr} {H : Hp} {L : LS} {r : Rs U} {Q : Bool → Hp → Prop} (h : GE PB K W σ F ρ H L Q (bTest r)) : GE RepU K W σ F ρ H L (fun z H' => ∃ k, z = .bl k ∧ Q k H') r := by
  cases r with
  | ok u L1 =>
    unfold bTest at h
    simp only [Rs.bind] at h
    split at h
    · rename_i b
      exact fun F2 ρ2 H2 z s2 o2 p2 => ⟨b, p2, h F2 ρ2 H2 b s2 o2 rfl⟩
    · exact h.elim
  | ex C ns xs L1 => exact h
  | no => exact h
theorem kb_cmpU {op : CmpOp} (ho : Op2U X W (compareOp op) g) (ha : KE X W a fa) (hb : KE X W b fb) (hm : behindInMarks op b = false) : KB X W (.Compare a [op] [b] pos) (bBinU g fa fb) := by
  refine ⟨fun pins s σ H Q I ⟨F, ρ, L, st, o, r, h⟩ => ?_⟩
  refine wpAny_isTrue_Compare1 (wpAny_mono (two_run ho ha hb I ⟨F, ρ, L, st, o, r, ge_test h⟩) (fun v s1 h1 => wpAny_mono h1 (fun u s2 h2 => wpAny_mono h2 (fun c s3 ⟨z, H3, I3, r3, k, e, q3⟩ => ?_) fun _ _ z => z) fun _ _ z => z) fun _ _ z => z) hm
  subst e
  cases r3
  exact wpAny_truthy_bool ⟨H3, I3, q3⟩
end
/-! ### an own def of the class C under a name -/
structure KM (P : Program) (w : World) (K : Frag) (mg : Str → Option Value) (base : Heap) (k : Nat) (C : Addr) (name : Str) (n : Nat) (m : FF) : Prop where
  ex : ∃ f fd ps src m', Meth K C name f ∧ KFn P w K mg base k f fd ps m' ∧ Bk K fd ps n [] src ∧ m = fun us L => opt (arrU us [] src) fun xs => m' xs L
def own2 (C : Addr) (m : FF) (x y : U) (L : LS) : Rs U := opt (rdU L x) fun d => match d with
  | .ins C' _ _ => if C' = C then m [x, y] L else .no
  | _ => .no
theorem own2_of {K : Frag} {W : WX} {σ : L2.St} {F : Addr → Prop} {ρ : Nat → Addr} {H : Hp} {L : LS} {C : Addr} {m : FF} {x y : U} {v : V} {Q : VK} (o : Ok K F ρ H L) (p : RepU K F ρ H L x v) (h : GE RepU K W σ F ρ H L Q (own2 C m x y L)) :
    ∃ a dx fs, v = .ref a ∧ H a = some (.ins C dx fs) ∧ OwnC K C ∧ GE RepU K W σ F ρ H L Q (m [x, y] L) := by
  unfold own2 at h
  obtain ⟨d, e, h1⟩ := h.opt
  replace h := h1
  clear h1
  split at h
  · rename_i C' ns xs
    split at h
    · rename_i hC
      subst hC
      obtain ⟨a, dx, fs, rfl, ha, oc, _⟩ := (show ∃ a dx fs, v = .ref a ∧ H a = some (.ins C' dx fs) ∧ OwnC K C' ∧ fs.map (·.1) = ns ∧ RepL K F H xs (fs.map (·.2)) from rdr_of o p e)
      exact ⟨a, dx, fs, rfl, ha, oc, h⟩
    · exact h.elim
  · exact h.elim
section
variable {X : Cx} {W : WX} {k : Nat} {C : Addr} {m : FF}
/-- the own def runs -/
theorem KM.go {A : Around} {name : Str} {n : Nat} {pins : List (Addr × Obj)} {σ : L2.St} {H : Hp} {s : Shared} {Q : VK} {F : Addr → Prop} {ρ : Nat → Addr} {L : LS} {us : List U} {vs : List V} {uv : List Value} (M : KM X.prog X.w X.K X.mg X.base k C name n m) (hr : Rm k A) (e0 : Env0 X.prog X.w X.K X.mg X.base A X.stack s H)
    (tk : Takes X W) (I : Inv X pins σ H s) (o : Ok X.K F ρ H L) (r : RepUs X.K F ρ H L us vs) (rv : Vals vs uv) (hn : us.length = n) (h : GE RepU X.K W σ F ρ H L Q (m us L)) :
    ∃ f, Meth X.K C name f ∧ wpAny (model X.prog X.w) A (call (.ref f) uv) (EP X pins σ Q) X.xe s := by
  obtain ⟨f, fd, ps, src, m', Me, G, B, rfl⟩ := M.ex
  exact ⟨f, Me, run_ka (ws := []) (zs := []) (wv := []) (ks := []) G hr e0 B tk I o r rfl rv .nil hn rfl h⟩
theorem back_ni {pins : List (Addr × Obj)} {σ : L2.St} {Q : VK} {v : Value} {s' : Shared} (h : EP X pins σ Q v s') : PySem.W.CmpBack (EP X pins σ Q) v s' := by
  obtain ⟨z, H', I, r, q⟩ := id h
  cases v <;> first | exact h | (cases z <;> first | (cases r; done) | (obtain ⟨_, r⟩ := r; cases r))
theorem type_of_D {pins : List (Addr × Obj)} {σ : L2.St} {H : Hp} {s : Shared} {F : Addr → Prop} {d : D} {x : V} {u t : Value} (I : Inv X pins σ H s) (rx : RelV x u) (r : Rdr X.K F H d x) (e : tyD d = some t) : PySem.W.Looks (model X.prog X.w) s.heap (typeOf u) t := by
  obtain ⟨P, Z, p, _⟩ := kit_D I rx r e
  exact Z.ty _ _ I.kIn p
theorem op_ownB {op : Operator} (M : KM X.prog X.w X.K X.mg X.base k C (PySem.dunder op.info.2) 2 m) (hr : Rm k X.A) (tk : Takes X W) (hc : PySem.W.selfFirst X.K C = true) : Op2U X W (binaryOp op) (fun x y L => opt (rdU L y) fun d => match d with
    | .ins C' _ _ => if C' = C then own2 C m x y L else .no
    | _ => .no) := by
  intro pins s σ H x y v u Q F ρ L ux uy I o px py rx ry h
  obtain ⟨d, e, h1⟩ := h.opt
  replace h := h1
  clear h1
  split at h
  · rename_i C' ns xs
    split at h
    · rename_i hC
      subst hC
      obtain ⟨b, dy, gs, rfl, hb, ob, _⟩ := (show ∃ a dx fs, y = .ref a ∧ H a = some (.ins C' dx fs) ∧ OwnC X.K C' ∧ fs.map (·.1) = ns ∧ RepL X.K F H xs (fs.map (·.2)) from rdr_of o py e)
      obtain ⟨a, dx, fs, rfl, ha, oc, h⟩ := own2_of o px h
      cases rx; cases ry
      obtain ⟨od, J⟩ := inst_ins I ha
      obtain ⟨od', J'⟩ := inst_ins I hb
      obtain ⟨f, Me, run⟩ := M.go hr I.env0 tk I o (us := [ux, uy]) (vs := [.ref a, .ref b]) (uv := [.ref a, .ref b]) ⟨_, _, rfl, px, _, _, rfl, py, rfl⟩ (.cons rfl (.cons rfl .nil)) rfl h
      obtain ⟨mm, hF⟩ := I.fr
      exact PySem.W.binop_K hF I.ok.mod.kin J J'.type hc Me.at_ Me.fn (wpAny_mono run (fun _ _ z => back_ni z) fun _ _ z => z)
    · exact h.elim
  · exact h.elim

/-! comparisons: what stands to the right is of any class that is told -/
theorem op_ownC {op : CmpOp} (M : KM X.prog X.w X.K X.mg X.base k C (cmpInfo op).2.1 2 m) (hr : Rm k X.A) (tk : Takes X W) (ts : List Value) (hc : ∀ t ∈ ts, PySem.W.notFirst X.K C t = true) (hop : ∀ a b : Value, compareOp op a b = richCompare op a b := by intro _ _; rfl) :
    Op2U X W (compareOp op) (fun x y L => opt (rdU L y) fun d => opt (tyD d) fun t => if t ∈ ts then own2 C m x y L else .no) := by
  intro pins s σ H x y v u Q F ρ L ux uy I o px py rx ry h
  obtain ⟨d, e, h1⟩ := h.opt
  obtain ⟨t, e2, h2⟩ := h1.opt
  clear h h1
  split at h2
  · rename_i ht
    obtain ⟨a, dx, fs, rfl, ha, oc, h⟩ := own2_of o px h2
    cases rx
    obtain ⟨od, J⟩ := inst_ins I ha
    have lt := type_of_D I ry (rdr_of o py e) e2
    obtain ⟨f, Me, run⟩ := M.go hr I.env0 tk I o (us := [ux, uy]) (vs := [.ref a, y]) (uv := [.ref a, u]) ⟨_, _, rfl, px, _, _, rfl, py, rfl⟩ (.cons rfl (.cons ry .nil)) rfl h
    obtain ⟨mm, hF⟩ := I.fr
    have hu : X.A.units < cLine := by have := hr.rm.units; omega
    rw [hop]
    exact PySem.W.cmp_K hu hF I.ok.mod.kin J lt (hc t ht) Me.at_ Me.fn (wpAny_mono run (fun _ _ z => back_ni z) fun _ _ z => z)
  · exact h2.elim
/-! x != y by an own == -/
theorem ne_K {prog : Program} {w : World} {A : Around} {E : Value → Shared → Prop} {s : Shared} {K : Frag} {x f : Addr} {ox : Obj} {od : Option Obj} {b tb : Value} {Q : Value → Shared → Prop} (hu : A.units + 1 < cLine) (KX : K.In s.heap) (I : PySem.W.InstAt s.heap x ox C od) (hb : PySem.W.Looks (model prog w) s.heap (typeOf b) tb)
    (hn : PySem.W.notFirst K C tb = true) (hs : PySem.W.findIn K (.ref C) "__eq__" = some (some (.ref f))) (hf : PySem.W.isFn K (.ref f) = true) (hne : PySem.W.findIn K (.ref C) "__ne__" = some (some (.builtin "object.__ne__"))) (hm : PySem.W.mroIn K C (.type "object") = some true)
    (h : wpAny (model prog w) A.in1 (call (.ref f) [.ref x, b]) (fun v s' => ∃ k, v = .bool k ∧ Q (.bool (!k)) s') E s) : wpAny (model prog w) A (richCompare .NotEq (.ref x) b) Q E s := by
  have one : wpAny (model prog w) A (tryCompare (.ref x) (cmpInfo .NotEq).2.1 b) (fun r s' => ∃ v, r = some v ∧ Q v s') E s := by
    unfold tryCompare
    have sub : PySem.W.Looks (model prog w) s.heap (isInstance (.ref x) (.type "object")) true := I.type.andThen (PySem.W.looks_mroIn KX hm)
    have fin : wpAny (model prog w) A (call (.builtin "object.__ne__") [.ref x, b]) (fun v s' => ∃ k, v = .bool k ∧ Q (.bool k) s') E s := by
      obtain ⟨hh, gg, dd, tt, oo⟩ := s
      refine wpAny_call (codeAny_call_builtin F.cmp_object.ne.plain F.cmpEntry_ne (@PySem.W.check_slot (model prog w) _ _ ⟨hh, gg, dd, tt, oo⟩ "object.__ne__" "object" "__ne__" (.ref x) [b] [] _ F.cmpKind_ne F.cmpSplit_ne sub (F.cmpArgs_ne _ _) ?_))
      unfold Builtin.«object.__ne__»
      refine wpAny_bind (wpAny_of_eq (a := (.ref x, [b])) (by first | rfl | kernel_rfl) ?_)
      refine wpAny_bind (wpAny_cRoomFor hu ?_)
      refine wpAny_bind (PySem.W.ifBound_K KX I hs hf (wpAny_mono h (fun v s' hv => ?_) fun _ _ z => z))
      obtain ⟨k, rfl, hq⟩ := hv
      exact wpAny_bind (wpAny_truthy_bool (wpAny_pure ⟨_, rfl, hq⟩))
    refine wpAny_bind ?_
    simp only [callSpecialIfBound?, bindSpecialIfBound?]
    refine wpAny_holding (wpAny_bind (wpAny_bind (wpAny_bind (I.type.here ((PySem.W.looks_findIn KX hne).here ?_)))))
    simp only [F.cmp_object.ne.bind]
    refine wpAny_bind (wpAny_askSetting (wpAny_ite ?_))
    have fin2 : wpAny (model prog w) A (call (.builtin "object.__ne__") ([.ref x] ++ [b]) >>= fun v => pure (some v)) (fun a s' => wpAny (model prog w) A (match a with | some .notImplemented => pure none | none => pure none | some v => pure (some v)) (fun r s' => ∃ v, r = some v ∧ Q v s') E s') E s :=
      wpAny_bind (wpAny_mono fin (fun v s' h' => by
        obtain ⟨k, rfl, hq⟩ := h'
        exact wpAny_pure (wpAny_pure ⟨_, rfl, hq⟩)) fun _ _ h' => h')
    split
    · exact wpAny_bind (wpAny_pure (wpAny_pure fin2))
    · exact wpAny_tryCatch (wpAny_bind (wpAny_pure (wpAny_pure fin2)))
  unfold richCompare
  simp only [oneThing_ref]
  refine wpAny_holding (wpAny_bind (wpAny_cRoomFor (Nat.lt_of_succ_lt hu) ?_))
  refine wpAny_bind (I.type.here (wpAny_bind (hb.here ?_)))
  split
  · rename_i q
    have e : PySem.W.subIn K tb (.ref C) = some false := by
      rcases Bool.or_eq_true_iff.mp hn with e | e
      · rw [beq_iff_eq.mp e] at q; simp at q
      · exact beq_iff_eq.mp e
    refine wpAny_bind ((PySem.W.looks_subIn KX e).here ?_)
    simp only [Bool.false_eq_true, if_false]
    refine wpAny_bind (wpAny_mono one (fun r s' z => ?_) fun _ _ e => e)
    obtain ⟨v, rfl, hq⟩ := z
    exact wpAny_pure hq
  · refine wpAny_bind (wpAny_pure ?_)
    simp only [Bool.false_eq_true, if_false]
    refine wpAny_bind (wpAny_mono one (fun r s' z => ?_) fun _ _ e => e)
    obtain ⟨v, rfl, hq⟩ := z
    exact wpAny_pure hq
end
end VL

set_option Elab.async false
set_option linter.all false
set_option maxRecDepth 100000
set_option maxHeartbeats 4000000
namespace VL
open PySem PySem.Spec PyProof.Rows L2
open PySem.W (Frag)
section
variable {X : Cx} {W : WX} {k : Nat} {C : Addr} {m : FF} {a b o e : Expr} {fa fb fo : EF} {pos : Pos}
/-- x != y by an own == -/
def notU (r : Rs U) : Rs U := r.bind fun u L => match u with
  | .d (.bl b) => .ok (.d (.bl (!b))) L
  | _ => .no
theorem ge_not {K : Frag} {σ : L2.St} {F : Addr → Prop} {ρ : Nat → Addr} {H : Hp} {L : LS} {r : Rs U} {Q : VK} (h : GE RepU K W σ F ρ H L Q (notU r)) : GE RepU K W σ F ρ H L (fun z H' => ∃ k, z = .bl k ∧ Q (.bl (!k)) H') r := by
  cases r with
  | ok u L1 =>
    unfold notU at h
    simp only [Rs.bind] at h
    split at h
    · rename_i b
      exact fun F2 ρ2 H2 z s2 o2 p2 => ⟨b, p2, h F2 ρ2 H2 (.bl (!b)) s2 o2 rfl⟩
    · exact h.elim
  | ex C ns xs L1 => exact h
  | no => exact h
theorem notU_own2 {C : Addr} {m : FF} {x y : U} {L : LS} : notU (own2 C m x y L) = own2 C (fun us L => notU (m us L)) x y L := by
  unfold own2
  cases rdU L x with
  | none => rfl
  | some d =>
    cases d <;> simp only [opt] <;> first | rfl | (split <;> rfl)
theorem op_ownN (M : KM X.prog X.w X.K X.mg X.base k C "__eq__" 2 m) (hr : Rm (k + 1) X.A) (tk : Takes X W) (ts : List Value) (hc : ∀ t ∈ ts, PySem.W.notFirst X.K C t = true) (hne : PySem.W.findIn X.K (.ref C) "__ne__" = some (some (.builtin "object.__ne__"))) :
    Op2U X W (compareOp .NotEq) (fun x y L => opt (rdU L y) fun d => opt (tyD d) fun t => if t ∈ ts then notU (own2 C m x y L) else .no) := by
  intro pins s σ H x y v u Q F ρ L ux uy I o px py rx ry h
  obtain ⟨d, e, h1⟩ := h.opt
  obtain ⟨t, e2, h2⟩ := h1.opt
  clear h h1
  split at h2
  · rename_i ht
    rw [notU_own2] at h2
    obtain ⟨a, dx, fs, rfl, ha, oc, h⟩ := own2_of o px h2
    cases rx
    obtain ⟨od, J⟩ := inst_ins I ha
    have lt := type_of_D I ry (rdr_of o py e) e2
    obtain ⟨f, Me, run⟩ := M.go hr.in1 I.env0.in1 tk I o (us := [ux, uy]) (vs := [.ref a, y]) (uv := [.ref a, u]) ⟨_, _, rfl, px, _, _, rfl, py, rfl⟩ (.cons rfl (.cons ry .nil)) rfl (ge_not h)
    have hu : X.A.units + 1 < cLine := by have := hr.rm.units; omega
    refine ne_K hu I.kIn J lt (hc t ht) Me.at_ Me.fn hne oc.hm (wpAny_mono run (fun v s' z => ?_) fun _ _ z => z)
    obtain ⟨z, H', I', rz, b, rfl, q⟩ := z
    exact ⟨b, rz, .bl (!b), H', I', rfl, q⟩
  · exact h2.elim
/-! ### len(o), o[i], x in o by own defs -/
def own1 (C : Addr) (m : FF) (x : U) (L : LS) : Rs U := opt (rdU L x) fun d => match d with
  | .ins C' _ _ => if C' = C then m [x] L else .no
  | _ => .no
theorem own1_of {K : Frag} {σ : L2.St} {F : Addr → Prop} {ρ : Nat → Addr} {H : Hp} {L : LS} {x : U} {v : V} {Q : VK} (o : Ok K F ρ H L) (p : RepU K F ρ H L x v) (h : GE RepU K W σ F ρ H L Q (own1 C m x L)) :
    ∃ a dx fs, v = .ref a ∧ H a = some (.ins C dx fs) ∧ OwnC K C ∧ GE RepU K W σ F ρ H L Q (m [x] L) := by
  unfold own1 at h
  obtain ⟨d, e, h1⟩ := h.opt
  replace h := h1
  clear h1
  split at h
  · rename_i C' ns xs
    split at h
    · rename_i hC
      subst hC
      obtain ⟨a, dx, fs, rfl, ha, oc, _⟩ := (show ∃ a dx fs, v = .ref a ∧ H a = some (.ins C' dx fs) ∧ OwnC K C' ∧ fs.map (·.1) = ns ∧ RepL K F H xs (fs.map (·.2)) from rdr_of o p e)
      exact ⟨a, dx, fs, rfl, ha, oc, h⟩
    · exact h.elim
  · exact h.elim
/-- an int result below 2^62 -/
def lenU (r : Rs U) : Rs U := r.bind fun u L => match u with
  | .d (.int n) => if 0 ≤ n ∧ n < 2 ^ 62 then .ok (.d (.int n)) L else .no
  | _ => .no
def ownLen (C : Addr) (m : FF) : List U → LS → Rs U
  | [x], L => own1 C (fun us L => lenU (m us L)) x L
  | _, _ => .no
theorem ge_len {K : Frag} {σ : L2.St} {F : Addr → Prop} {ρ : Nat → Addr} {H : Hp} {L : LS} {r : Rs U} {Q : VK} (h : GE RepU K W σ F ρ H L Q (lenU r)) : GE RepU K W σ F ρ H L (fun z H' => ∃ n, z = .int n ∧ (0 ≤ n ∧ n < 2 ^ 62) ∧ Q (.int n) H') r := by
  cases r with
  | ok u L1 =>
    unfold lenU at h
    simp only [Rs.bind] at h
    split at h
    · rename_i n
      split at h
      · rename_i hn
        exact fun F2 ρ2 H2 z s2 o2 p2 => ⟨n, p2, hn, h F2 ρ2 H2 (.int n) s2 o2 rfl⟩
      · exact h.elim
    · exact h.elim
  | ex C ns xs L1 => exact h
  | no => exact h
theorem cu_len (M : KM X.prog X.w X.K X.mg X.base k C "__len__" 1 m) (hr : Rm (k + 1) X.A) (tk : Takes X W) : CallU X W (.builtin "len") (ownLen C m) := by
  intro pins s σ H vs us Q F ρ L uu I o r rv h
  match uu, r, h with
  | [u], r, h =>
    obtain ⟨v, t, rfl, p, q⟩ := r
    cases q
    obtain ⟨z, rfl, rz⟩ := vals1 rv
    have h : GE RepU X.K W σ F ρ H L Q (own1 C (fun us L => lenU (m us L)) u L) := h
    obtain ⟨a, dx, fs, rfl, ha, oc, h⟩ := own1_of o p h
    cases rz
    obtain ⟨od, J⟩ := inst_ins I ha
    obtain ⟨f, Me, run⟩ := M.go hr.in1 I.env0.in1 tk I o (us := [u]) (vs := [.ref a]) (uv := [.ref a]) ⟨_, _, rfl, p, rfl⟩ (.cons rfl .nil) rfl (ge_len h)
    obtain ⟨mm, hF⟩ := I.fr
    refine PySem.W.len_K hF I.ok.mod.kin J Me.at_ Me.fn (wpAny_mono run (fun v s' z => ?_) fun _ _ z => z)
    obtain ⟨z, H', I', rz, n, rfl, hn, q⟩ := z
    obtain ⟨t, rfl⟩ := rz
    exact ⟨⟨hn.1, by have := hn.2; omega⟩, .int n, H', I'.tok _, ⟨_, rfl⟩, q⟩
theorem ke_callBU {x : Str} {id : String} {p pos : Pos} {g : List U → LS → Rs U} {e : Expr} {es : List Expr} {f : AF} (hc : CallU X W (.builtin id) g) (hm : X.mg x = none) (hv : bootBuiltins x = some (.builtin id)) (ha : KA X W (e :: es) f) (hg : Gl X x := by rfl) (hn : x ≠ "__name__" := by decide) (hdb : (x == ("__debug__" : Str)) = false := by decide)
    (he : starEach (e :: es) X.env = (false, eval e X.env) :: starEach es X.env := by rfl) (hpl : (backTo pos (starEach es X.env)).any (·.1) = false := by rfl) : KE X W (.Call (.Name x p) (e :: es) [] pos) (eFnU g f) := by
  refine ⟨fun pins s σ H Q I ⟨F, ρ, L, st, o, r, h⟩ => ?_⟩
  refine wpAny_Call_Name_kw (ld_blt I hg hm hv ?_ hn hdb)
  refine PyProof.Rows.callWith_builtin1 (thn (PA.run ha pos pins s σ H (fun vs H1 => ∃ F1 ρ1 L1 us, Ok X.K F1 ρ1 H1 L1 ∧ RepUs X.K F1 ρ1 H1 L1 us vs ∧ GE RepU X.K W σ F1 ρ1 H1 L1 Q (g us L1)) I (RG.one (P := RepUs) o r h fun vs H1 F1 ρ1 L1 us s1 o1 r1 p1 h1 => ⟨F1, ρ1, L1, us, o1, p1, h1⟩)) fun us s1 ⟨vs, H1, I1, rv, F1, ρ1, L1, uu, o1, p1, h1⟩ => ?_) he hpl
  exact hc pins s1 σ H1 vs us Q F1 ρ1 L1 uu I1 o1 p1 rv h1
/-- o[i] -/
theorem ke_item {slice : Expr} (M : KM X.prog X.w X.K X.mg X.base k C "__getitem__" 2 m) (hr : Rm (k + 1) X.A) (tk : Takes X W) (fnI : ∀ f, Meth X.K C "__getitem__" f → PySem.W.fnIn X.K f = true) (ha : KE X W a fa) (hb : KE X W slice fb)
    (hp : ∀ x i, subscripted slice true x i = runValue (.builtin "lifetime.subscript" ⟨[x, i], []⟩) := by intro _ _; with_unfolding_all rfl) : KE X W (.Subscript a slice pos) (eBinU (own2 C m) fa fb) := by
  refine ⟨fun pins s σ H Q I h => Subscript_ (two_run (f := fun v u => subscriptTail a slice v u) ?_ ha hb I h)⟩
  intro pins s σ H x y v u Q F ρ L ux uy I o px py rx ry h
  obtain ⟨a, dx, fs, rfl, ha, oc, h⟩ := own2_of o px h
  cases rx
  obtain ⟨od, J⟩ := inst_ins I ha
  obtain ⟨f, Me, run⟩ := M.go hr.in1 I.env0.in1 tk I o (us := [ux, uy]) (vs := [.ref a, y]) (uv := [.ref a, u]) ⟨_, _, rfl, px, _, _, rfl, py, rfl⟩ (.cons rfl (.cons ry .nil)) rfl h
  obtain ⟨mm, hF⟩ := I.fr
  exact PySem.W.sub_K hF I.ok.mod.kin J Me.at_ (fnI f Me) Me.fn run (hp _ _)
/-- x in o, x not in o -/
def truU (r : Rs U) (neg : Bool) : Rs U := r.bind fun u L => match u with
  | .d (.bl b) => .ok (.d (.bl (neg != b))) L
  | _ => .no
theorem ge_tru {K : Frag} {σ : L2.St} {F : Addr → Prop} {ρ : Nat → Addr} {H : Hp} {L : LS} {r : Rs U} {neg : Bool} {Q : VK} (h : GE RepU K W σ F ρ H L Q (truU r neg)) : GE RepU K W σ F ρ H L (fun z H' => ∃ k, z = .bl k ∧ Q (.bl (neg != k)) H') r := by
  cases r with
  | ok u L1 =>
    unfold truU at h
    simp only [Rs.bind] at h
    split at h
    · rename_i b
      exact fun F2 ρ2 H2 z s2 o2 p2 => ⟨b, p2, h F2 ρ2 H2 (.bl (neg != b)) s2 o2 rfl⟩
    · exact h.elim
  | ex C ns xs L1 => exact h
  | no => exact h
theorem op_ownIn (M : KM X.prog X.w X.K X.mg X.base k C "__contains__" 2 m) (hr : Rm k X.A) (tk : Takes X W) : Op2U X W (compareOp .In) (fun x y L => own2 C (fun us L => truU (m us L) false) y x L) := by
  intro pins s σ H x y v u Q F ρ L ux uy I o px py rx ry h
  obtain ⟨a, dx, fs, rfl, ha, oc, h⟩ := own2_of o py h
  cases ry
  obtain ⟨od, J⟩ := inst_ins I ha
  obtain ⟨f, Me, run⟩ := M.go hr I.env0 tk I o (us := [uy, ux]) (vs := [.ref a, x]) (uv := [.ref a, v]) ⟨_, _, rfl, py, _, _, rfl, px, rfl⟩ (.cons rfl (.cons rx .nil)) rfl (ge_tru h)
  obtain ⟨mm, hF⟩ := I.fr
  refine PySem.W.in_K hF I.ok.mod.kin J Me.at_ Me.fn (wpAny_mono run (fun v s' z => ?_) fun _ _ z => z)
  obtain ⟨z, H', I', rz, b, rfl, q⟩ := z
  cases rz
  exact wpAny_truthy_bool ⟨.bl b, H', I', rfl, by simpa using q⟩
theorem op_ownNotIn (M : KM X.prog X.w X.K X.mg X.base k C "__contains__" 2 m) (hr : Rm k X.A) (tk : Takes X W) : Op2U X W (compareOp .NotIn) (fun x y L => own2 C (fun us L => truU (m us L) true) y x L) := by
  intro pins s σ H x y v u Q F ρ L ux uy I o px py rx ry h
  obtain ⟨a, dx, fs, rfl, ha, oc, h⟩ := own2_of o py h
  cases ry
  obtain ⟨od, J⟩ := inst_ins I ha
  obtain ⟨f, Me, run⟩ := M.go hr I.env0 tk I o (us := [uy, ux]) (vs := [.ref a, x]) (uv := [.ref a, v]) ⟨_, _, rfl, py, _, _, rfl, px, rfl⟩ (.cons rfl (.cons rx .nil)) rfl (ge_tru h)
  obtain ⟨mm, hF⟩ := I.fr
  refine PySem.W.notIn_K hF I.ok.mod.kin J Me.at_ Me.fn (wpAny_mono run (fun v s' z => ?_) fun _ _ z => z)
  obtain ⟨z, H', I', rz, b, rfl, q⟩ := z
  cases rz
  exact wpAny_truthy_bool ⟨.bl (!b), H', I', rfl, by cases b <;> exact q⟩
/-! ### o.m(..) -/
/-- an own method of the class C, its values and keywords -/
structure KMk (P : Program) (w : World) (K : Frag) (mg : Str → Option Value) (base : Heap) (k : Nat) (C : Addr) (name : Str) (n : Nat) (ks : List Str) (m : List U → List U → LS → Rs U) : Prop where
  ex : ∃ f fd ps src m', Meth K C name f ∧ KFn P w K mg base k f fd ps m' ∧ Bk K fd ps (n + 1) ks src ∧ m = fun us ws L => opt (arrU us ws src) fun xs => m' xs L
def eMeth (C : Addr) (nm : Str) (m : List U → List U → LS → Rs U) (n l : Nat) (fo : EF) (fa : CF) : EF := fun st L => (fo st L).bind fun u L1 => opt (rdU L1 u) fun d => match d with
  | .ins C' ns _ => if C' = C ∧ nm ∉ ns then (fa st L1).bind fun p L2 => (if p.1.length = n ∧ p.2.length = l then m (u :: p.1) p.2 L2 else .no) else .no
  | _ => .no
theorem lookup_notin {β : Type} {nm : Str} : ∀ {fs : List (Str × β)}, nm ∉ fs.map (·.1) → fs.lookup nm = none
  | [], _ => rfl
  | (n, v) :: fs, h => by
    rw [List.map_cons, List.mem_cons, not_or] at h
    rw [List.lookup_cons, beq_eq_false_iff_ne.mpr h.1]
    exact lookup_notin h.2
theorem ke_meth {name : Str} {n l : Nat} {ks : List Str} {mm : List U → List U → LS → Rs U} {args : List Expr} {kws : List Keyword} {fc : CF} {apos : Pos} {pl : Sem Bool} (M : KMk X.prog X.w X.K X.mg X.base k C name n ks mm) (hr : Rm k X.A) (tk : Takes X W) (ho : KE X W o fo) (ha : KC X W args kws ks fc) (hl : ks.length = l := by rfl)
    (ht : eval (.Call (.Attribute o name apos) args kws pos) X.env = (do
      let ov ← eval o X.env
      standAt apos.atName
      let (f, first) ← holding [ov] (getMethod ov name pl)
      callWith pos f first (backTo pos (starEach args X.env)) (backToKw pos (keywordEach kws X.env))) := by rfl) :
    KE X W (.Call (.Attribute o name apos) args kws pos) (eMeth C name mm n l fo fc) := by
  subst hl
  obtain ⟨f, fd, ps, src, m', Me, G, B, rfl⟩ := M.ex
  refine ⟨fun pins s σ H Q I ⟨F, ρ, L, st, o, r, h⟩ => ?_⟩
  refine PySem.W.methodCall_KW (pl := pl) (thn (PE.run ho pins s σ H (fun x H1 => ∃ F1 ρ1 L1 u, Ok X.K F1 ρ1 H1 L1 ∧ RepSt X.K F1 ρ1 H1 L1 σ st ∧ RepU X.K F1 ρ1 H1 L1 u x ∧ GE RepU X.K W σ F1 ρ1 H1 L1 Q _) I (RG.one o r h fun x H1 F1 ρ1 L1 u s1 o1 r1 p1 h1 => ⟨F1, ρ1, L1, u, o1, r1, p1, h1⟩)) fun v s1 ⟨x, H1, I1, rx, F1, ρ1, L1, u, o1, r1, p1, h1⟩ => ?_) ht
  obtain ⟨d, e, h2⟩ := h1.opt
  clear h1
  split at h2
  · rename_i C' ns xs
    split at h2
    · rename_i hC
      obtain ⟨rfl, hnm⟩ := hC
      obtain ⟨a, dx, fs, rfl, ha1, oc, hns, _⟩ := (show ∃ a dx fs, x = .ref a ∧ H1 a = some (.ins C' dx fs) ∧ OwnC X.K C' ∧ fs.map (·.1) = ns ∧ RepL X.K F1 H1 xs (fs.map (·.2)) from rdr_of o1 p1 e)
      obtain rfl : v = Value.ref a := rx
      refine getmeth_ok I1 ha1 oc.cl Me (lookup_notin (by rw [hns]; exact hnm)) ?_
      refine ha pos (.ref f) [.ref a] pins s1 σ H1 _ Me.kp I1 (RG.one (P := PUU) o1 r1 h2 fun b H2 F2 ρ2 L2 p s2 o2 r2 p2 h3 s3 us ws I3 v1 v2 => ?_)
      obtain ⟨hc, h3⟩ := ge_if h3
      exact run_k (us := u :: p.1) (vs := .ref a :: b.1) (uv := .ref a :: us) G hr B tk I3 o2 ⟨_, _, rfl, p1.mono s2, p2.1⟩ p2.2 (.cons rfl v1) v2 (by rw [List.length_cons, hc.1]) hc.2 h3
    · exact h2.elim
  · exact h2.elim
end
end VL

set_option Elab.async false
set_option linter.all false
set_option maxRecDepth 100000
set_option maxHeartbeats 4000000
namespace VL
open PySem PySem.HandSPX
open PySem.W (Frag)
/-! ### C(.., k = v), C an own error -/
section
variable {prog : Program} {w : World} {M : Model} {A : Around} {E : Value → Shared → Prop} {R : Result → Shared → Prop} {h : Heap} {g : Array GenState} {d : Drawn} {t : Nat} {os : OsState}
variable {nm q : Str} {C N : Addr} {bs bm bmB : List Value} {hdct : Bool} {sn : List Str} {sub : List Value} {ab : Bool} {col : Option Bool} {dd : Option Addr} {k0 k1 k2 k3 k5 : Option Value} {B newId initId : String} {kw : List (Str × Value)}
theorem check_new_kw (F : ExcBaseFacts B newId initId bmB) (hT : ∀ X : String, bm.contains (.type X) = bmB.contains (.type X)) {rest : List Value} {Q : Unit → Shared → Prop}
    (hC : h.get? C = some (excClassObj nm q C N bs bm hdct sn sub ab col dd k0 k1 k2 k3 k5 newId)) (hq : Q () ⟨h, g, d, t, os⟩) : wpAny M A (checkBuiltinCall newId ⟨.ref C :: rest, kw⟩) Q E ⟨h, g, d, t, os⟩ := by
  have hcont : (Value.ref C :: bm).contains (.type B) = true := by rw [List.contains_cons, hT, F.hasB, Bool.or_true]
  have hstar := F.noStar
  simp only [checkBuiltinCall, F.newKind, F.newSplit, F.newRow]
  repeat (first | refine wpAny_loadPart_at hC ?_ | (refine wpAny_isSubtype_exc hC ?_; rw [hcont]) | refine wpAny_staticBase_exc hC ?_ | refine wpAny_madeBy_exc hC ?_ | simp only [bne_self_eq_false, Bool.false_eq_true, if_false] | wp_step)
  exact hq
theorem new_kw (F : ExcBaseFacts B newId initId bmB) (hT : ∀ X : String, bm.contains (.type X) = bmB.contains (.type X)) {rest : List Value}
    (hC : h.get? C = some (excClassObj nm q C N bs bm hdct sn sub ab col dd k0 k1 k2 k3 k5 newId))
    (hq : R (.ok (.ret (.ref (h.objs.size + 1)))) ⟨(h.push { cls := .type "tuple", data := .seq rest.toArray }).push
      { cls := .ref C, data := .fields #[.ref h.objs.size, .none, .none, .none, .bool false, .none] }, g, d, t, os⟩) (hrest : rest.length ≤ sizeLine) :
    codeAny (model prog w) A (.builtin newId ⟨.ref C :: rest, kw⟩) R ⟨h, g, d, t, os⟩ := by
  have hends := F.ends
  have hcB : (Value.ref C :: bm).contains (.type B) = true := by rw [List.contains_cons, hT, F.hasB, Bool.or_true]
  have hcA : (Value.ref C :: bm).contains (.type "AttributeError") = false := by rw [List.contains_cons, hT, F.noAttr]; rfl
  have hcN : (Value.ref C :: bm).contains (.type "NameError") = false := by rw [List.contains_cons, hT, F.noName]; rfl
  refine codeAny_builtinAt F.entry ?_
  unfold Builtin.«BaseException.__new__»
  refine wpAt_bind ?_
  show wpAt _ _ _ (stack >>= _) _ _ _
  refine wpAt_bind (wpAt_stack fun p below => wpAt_of_wpAny ?_)
  wp_walk
  refine wpAt_of_wpAny ?_
  rw [F.owner]
  repeat (first | with_reducible refine wpAny_madeHere_exc F.canon hC ?_ | with_reducible refine wpAny_loadPart_at hC ?_ | (with_reducible refine wpAny_isSubtype_exc hC ?_; first | rw [hcB] | rw [hcA] | rw [hcN]) | wp_step)
  show R _ _
  rw [Heap.size_push]
  exact hq
theorem type_call_kw (F : ExcBaseFacts B newId initId bmB) (hT : ∀ X : String, bm.contains (.type X) = bmB.contains (.type X)) {rest : List Value} {fI : Addr} {Q : Fin → Shared → Prop}
    (hC : h.get? C = some (excClassObj nm q C N bs bm hdct sn sub ab col dd k0 k1 k2 k3 k5 newId))
    (hi : W.Looks (model prog w) h (typeLookup (.ref C) "__init__") (some (.ref fI))) (hb : ∀ self, W.Looks (model prog w) h (bindSpecial (.ref fI) self) (.ref fI, [self])) (hrest : rest.length ≤ sizeLine)
    (hq : codeAny (model prog w) A (.call (.ref fI) ⟨.ref (h.objs.size + 1) :: rest, kw⟩)
      (fun r s' => match r with | .ok (.ret v) => v = .none ∧ Q (.done (.ret (.ref (h.objs.size + 1)))) s' | .ok _ => False | .error e => E e s')
      ⟨(h.push (W.kdv_tup rest)).push (excO C h.objs.size), g, d, t, os⟩) :
    wpAny (model prog w) A (Builtin.«type.__call__» ⟨.ref C :: rest, kw⟩) Q E ⟨h, g, d, t, os⟩ := by
  repeat (first | with_reducible refine wpAny_loadPart_at hC ?_ | with_reducible refine wpAny_madeBy_exc hC ?_ | wp_step)
  refine codeAny_call_builtin_code (Code.quiet_builtin _ F.quiet) (check_new_kw F hT hC ?_)
  refine new_kw F hT hC ?_ hrest
  show wpAny _ _ _ _ _ _
  have k : ∀ b o, h.get? b = some o → ((h.push (W.kdv_tup rest)).push (excO C h.objs.size)).get? b = some o := fun b o e => Heap.get?_push_of_some _ (Heap.get?_push_of_some _ e)
  have hC₁ := k _ _ hC
  have hget : ((h.push (W.kdv_tup rest)).push (excO C h.objs.size)).get? (h.objs.size + 1) = some (excO C h.objs.size) := by heap_get
  have hcC : (Value.ref C :: bm).contains (.ref C) = true := by simp
  have i1 := hi.keeps k
  have b1 := (hb (.ref (h.objs.size + 1))).keeps k
  unfold isInstance
  repeat (first | with_reducible refine wpAny_loadPart_at hget ?_ | (with_reducible refine wpAny_isSubtype_exc hC₁ ?_; rw [hcC]) | wp_step)
  show wpAny _ _ (typeLookup (.ref C) _) _ _ _
  refine i1.at ?_
  refine wpAny_holding (wpAny_bind (b1.at ?_))
  refine wpAny_bind (wpAny_call (codeAny_mono hq fun r s' z => ?_))
  rcases r with e | (v | _ | _ | _) <;> first | exact z | exact z.elim | skip
  obtain ⟨rfl, z⟩ := z
  first
    | exact wpAny_pure (wpAny_pure z)
    | (wp_walk; exact z)
theorem call_kw (F : ExcBaseFacts B newId initId bmB) (hT : ∀ X : String, bm.contains (.type X) = bmB.contains (.type X)) {rest : List Value} {fI : Addr}
    (hC : h.get? C = some (excClassObj nm q C N bs bm hdct sn sub ab col dd k0 k1 k2 k3 k5 newId))
    (hi : W.Looks (model prog w) h (typeLookup (.ref C) "__init__") (some (.ref fI))) (hb : ∀ self, W.Looks (model prog w) h (bindSpecial (.ref fI) self) (.ref fI, [self])) (hrest : rest.length ≤ sizeLine)
    (hq : codeAny (model prog w) (A.under (.builtin "type.__call__" ⟨.ref C :: rest, kw⟩)) (.call (.ref fI) ⟨.ref (h.objs.size + 1) :: rest, kw⟩) (W.InitBack (h.objs.size + 1) R)
      ⟨(h.push (W.kdv_tup rest)).push (excO C h.objs.size), g, d, t, os⟩) :
    codeAny (model prog w) A (.call (.ref C) ⟨rest, kw⟩) R ⟨h, g, d, t, os⟩ := by
  have f1 := tc_lookup
  have f2 := tc_bind (.ref C)
  have hTy : (⟨h, g, d, t, os⟩ : Shared).TypeIs (.ref C) "type" := ⟨_, hC, rfl⟩
  refine codeAny_of_tree ?_
  show wpAny _ _ (callAny (.ref C) _) _ _ _
  repeat (any_goals (first | assumption | with_reducible refine wpAny_loadPart_at hC ?_ | wp_step))
  refine ⟨rfl, ?_⟩
  refine codeAny_call_builtin_at (Code.quiet_builtin _ (by decide +kernel)) entry_typeCall (wpAny_check_type_call_sub hC (type_call_kw F hT hC hi hb hrest ?_))
  refine codeAny_mono hq fun r s' z => ?_
  rcases r with e | (v | _ | _ | _) <;> exact z
end
end VL

set_option Elab.async false
set_option linter.all false
set_option maxRecDepth 100000
set_option maxHeartbeats 4000000
namespace VL
open PySem PySem.Spec PyProof.Rows L2
open PySem.W (Frag)
/-- other words for what is told, of the same things -/
theorem Inv.retype {X : Cx} {pins : List (Addr × Obj)} {σ : L2.St} {H H' : Hp} {s : Shared} (I : Inv X pins σ H s) (hn : ∀ b, H b = none → H' b = none) (ht : ∀ b xs, H b = some (.tup xs) → H' b = some (.tup xs)) (hf : ∀ b o u, H b = some (.frz o u) → H' b = some (.frz o u))
    (hb : ∀ b ps, H b = some (.tbl ps) → H' b = some (.tbl ps)) (hok : HOk X.prog X.w H' s.heap) : Inv X pins σ H' s :=
  ⟨I.ok, I.os, I.bare, ⟨I.base.keep, I.base.slot, fun b o e n hx => hn b (I.base.free b o e n hx), I.base.there, fun b xs e => ht b xs (I.base.tups b xs e), fun b o u e => hf b o u (I.base.frzs b o u e), fun b ps e => let ⟨m, q⟩ := I.base.tbls b ps e; ⟨m, hb _ _ q⟩⟩,
    I.loc, I.cell, hn _ I.free, fun y c e => hn _ (I.freeC y c e), fun p hp => let ⟨e1, e2, e3⟩ := I.pin p hp; ⟨e1, hn _ e2, e3⟩, hok, I.len⟩
/-- no source is the object itself -/
def Sr.not0 : Sr → Bool
  | .p 0 => false
  | _ => true
theorem arrU_not0 {u v : U} {us ws : List U} : ∀ {src : List Sr}, src.all Sr.not0 = true → arrU (u :: us) ws src = arrU (v :: us) ws src
  | [], _ => rfl
  | s :: r, h => by
    rw [List.all_cons, Bool.and_eq_true] at h
    unfold arrU
    rw [arrU_not0 (u := u) (v := v) h.2]
    have : Sr.get (u :: us) ws s = Sr.get (v :: us) ws s := by
      cases s with
      | p i => cases i with
        | zero => exact absurd h.1 (by simp [Sr.not0])
        | succ i => rfl
      | k j => rfl
      | c d => rfl
    rw [this]
def eExc (C : Addr) (ns : List Str) (src : List Sr) (n l : Nat) (fc : CF) : EF := fun st L => (fc st L).bind fun p L1 => if p.1.length = n ∧ p.2.length = l then opt (arrU (.d .non :: p.1) p.2 src) fun xs => opt (fzUs L1 xs) fun q => (if q.1.length = ns.length then .ok (.d (.exc C ns.reverse q.1.reverse)) q.2 else .no) else .no
section
variable {X : Cx} {W : WX} {args : List Expr} {kws : List Keyword} {fc : CF}
theorem ke_exc {x : Str} {C f : Addr} {k : Nat} {fd : FuncData} {ps ns ks : List Str} {name qual : Str} {stt : Stmt} {src : List Sr} {n l : Nat} {p pos : Pos} (T : ErrC X.prog X.K X.mg C f name qual stt fd) (G : FnOk X.prog X.w X.K X.mg X.base CX0 k f fd ps (spX C ns)) (hr : Room (k + 1) X.A) (hb : Bk X.K fd ps (n + 1) ks (.p 0 :: src))
    (hm : X.mg x = some (.ref C)) (ha : KC X W args kws ks fc) (hz : n ≤ 1000) (h0 : src.all Sr.not0 = true := by rfl) (hl : ks.length = l := by rfl) (hg : Gl X x := by rfl) (hdb : (x == ("__debug__" : Str)) = false := by decide) : KE X W (.Call (.Name x p) args kws pos) (eExc C ns src n l fc) := by
  subst hl
  obtain ⟨nm, q, NN, bs, bm, sn, sub, ab, col, dd, k0, k1, k2, k3, k5, hC, hbm⟩ := T.oex.cls
  refine ⟨fun pins s σ H Q I ⟨F, ρ, L, st, o, r, h⟩ => ?_⟩
  refine wpAny_Call_Name_kw (ld_glob I hg hm ?_ hdb)
  refine ha pos (.ref C) [] pins s σ H _ T.oex.kC I (RG.one (P := PUU) o r h fun b H1 F1 ρ1 L1 a s1 o1 r1 p1 h1 s2 us ws I1 v1 v2 => ?_)
  obtain ⟨hc, h1⟩ := ge_if h1
  obtain ⟨xs, e1, h1⟩ := h1.opt
  obtain ⟨qq, e2, h1⟩ := h1.opt
  obtain ⟨hlen, h1⟩ := ge_if h1
  show wpAny _ _ (call (.ref C) us (ks.zip ws)) _ _ _
  obtain ⟨hp, g, dr, tk, os⟩ := s2
  let e : Addr := hp.objs.size + 1
  have hsz : hp.objs.size ≤ hp.objs.size + 1 := Nat.le_succ _
  have hn : H1 (hp.objs.size + 1) = none := I1.hok.fresh hsz
  have kk : ∀ b o, hp.get? b = some o → ((hp.push (PySem.W.kdv_tup us)).push (PySem.HandSPX.excO C hp.objs.size)).get? b = some o := fun b o e => Heap.get?_push_of_some _ (Heap.get?_push_of_some _ e)
  have hget : ((hp.push (PySem.W.kdv_tup us)).push (PySem.HandSPX.excO C hp.objs.size)).get? (hp.objs.size + 1) = some (PySem.HandSPX.excO C hp.objs.size) := by heap_get
  have I2 : Inv X pins σ (upd H1 (hp.objs.size + 1) (exo (hp.objs.size + 1) C none)) ⟨(hp.push (PySem.W.kdv_tup us)).push (PySem.HandSPX.excO C hp.objs.size), g, dr, tk, os⟩ :=
    I1.laid (t' := tk) (a := hp.objs.size + 1) (o := exo (hp.objs.size + 1) C none) (h' := (hp.push (PySem.W.kdv_tup us)).push (PySem.HandSPX.excO C hp.objs.size)) kk hsz (exo_ok hget)
  have hlu : us.length = n := by rw [← v1.length, p1.1.length]; exact hc.1
  have hlw : ws.length = ks.length := by rw [← v2.length, p1.2.length]; exact hc.2
  have hus : us.length ≤ sizeLine := by rw [hlu, sizeLine_eq]; omega
  obtain ⟨out, bd, pr⟩ := hb.bind _ (.ref (hp.objs.size + 1) :: us) ws I2.kIn (by rw [List.length_cons, hlu]) hlw
  obtain ⟨ys, q1, q2⟩ := arr_ok (us := .d (.obj (hp.objs.size + 1)) :: a.1) (vs := .ref (hp.objs.size + 1) :: b.1) (K := X.K) (F := F1) (ρ := ρ1) (H := H1) (L := L1) ⟨_, _, rfl, rfl, p1.1⟩ p1.2 (.cons rfl v1) v2 (xs := .d (.obj (hp.objs.size + 1)) :: xs) pr (by
    show arrU _ _ (.p 0 :: src) = _
    unfold arrU
    rw [arrU_not0 (v := .d .non) h0, e1]
    rfl)
  obtain ⟨y0, yr, rfl, hy0, q1⟩ := q1
  obtain rfl : y0 = .ref (hp.objs.size + 1) := hy0
  obtain ⟨F2, s2', o2, r2⟩ := fzUs_ok o1 q1 e2
  have hyl : yr.length = ns.length := by rw [r2.length]; exact hlen
  have hsp : spX C ns (.ref (hp.objs.size + 1) :: yr) (upd H1 (hp.objs.size + 1) (exo (hp.objs.size + 1) C none)) (fun v H2 => v = .non ∧ ∃ d, H1 d = none ∧ d ≠ hp.objs.size + 1 ∧ H2 = upd (upd (upd H1 (hp.objs.size + 1) (exo (hp.objs.size + 1) C none)) d (exd d (ns.zip yr).reverse)) (hp.objs.size + 1) (exo (hp.objs.size + 1) C (some d))) (fun _ _ _ => False) :=
    ⟨hp.objs.size + 1, yr, rfl, hyl, upd_same, fun d hd hne => ⟨rfl, d, by rw [upd_ne hne] at hd; exact hd, hne, rfl⟩⟩
  refine wpAny_call (call_kw PySem.F.excBase_ValueError (fun Y => PySem.HandSPX.refsVE_contains Y bm hbm) (I1.kIn _ _ hC) (PySem.W.looks_findIn I1.kIn T.ini) (fun self => PySem.W.bind_fn I1.kIn self T.tyI) hus
    (codeAny_mono (G.run _ X.stack _ _ ⟨Value.ref (hp.objs.size + 1) :: us, ks.zip ws⟩ out _ _ (fun _ _ _ => False) (hr.make C us (ks.zip ws)) (I2.env0.make C us (ks.zip ws)) bd q2 hsp) fun r s' hq' => ?_))
  cases r with
  | error er => exact hq'.elim
  | ok fl =>
    cases fl with
    | ret u =>
      obtain ⟨v, H2, os2, bare2, un2, hok2, rv, rfl, d, hd1, hne, rfl⟩ := hq'
      obtain ⟨h2, g2, d2, t2, os'⟩ := s'
      refine ⟨rv, ?_⟩
      have I3 : Inv X pins σ _ ⟨h2, g2, d2, t2, os'⟩ := I2.call' (ch := []) os2 un2 hok2 bare2 (fun b z => absurd z (by simp))
      have ea : (upd (upd (upd H1 (hp.objs.size + 1) (exo (hp.objs.size + 1) C none)) d (exd d (ns.zip yr).reverse)) (hp.objs.size + 1) (exo (hp.objs.size + 1) C (some d))) (hp.objs.size + 1) = some (exo (hp.objs.size + 1) C (some d)) := upd_same
      have ed : (upd (upd (upd H1 (hp.objs.size + 1) (exo (hp.objs.size + 1) C none)) d (exd d (ns.zip yr).reverse)) (hp.objs.size + 1) (exo (hp.objs.size + 1) C (some d))) d = some (exd d (ns.zip yr).reverse) := by rw [upd_ne hne]; exact upd_same
      obtain ⟨t0, hoe⟩ := exo_at hok2 ea
      obtain ⟨mA, hns, rel⟩ := exd_at hok2 ed
      have eq : ∀ b, b ≠ hp.objs.size + 1 → b ≠ d → (upd (upd (upd H1 (hp.objs.size + 1) (exo (hp.objs.size + 1) C none)) d (exd d (ns.zip yr).reverse)) (hp.objs.size + 1) (exo (hp.objs.size + 1) C (some d))) b = (upd (upd H1 d (.xd (ns.zip yr).reverse)) (hp.objs.size + 1) (.ext (ExcO (hp.objs.size + 1) C d))) b := fun b h1 h2 => by
        rw [upd_ne h1, upd_ne h1, upd_ne h2, upd_ne h2, upd_ne h1]
      have two : ∀ {b : Addr} {w : Option HO}, (upd (upd (upd H1 (hp.objs.size + 1) (exo (hp.objs.size + 1) C none)) d (exd d (ns.zip yr).reverse)) (hp.objs.size + 1) (exo (hp.objs.size + 1) C (some d))) b = w → (∀ φ, w ≠ some (.ext φ)) → (upd (upd H1 d (.xd (ns.zip yr).reverse)) (hp.objs.size + 1) (.ext (ExcO (hp.objs.size + 1) C d))) b = w := fun {b w} hb hw => by
        by_cases h1 : b = hp.objs.size + 1
        · rw [h1, ea] at hb; exact absurd hb.symm (hw _)
        · by_cases h2 : b = d
          · rw [h2, ed] at hb; exact absurd hb.symm (hw _)
          · rw [← eq b h1 h2]; exact hb
      have hokn : HOk X.prog X.w (upd (upd H1 d (.xd (ns.zip yr).reverse)) (hp.objs.size + 1) (.ext (ExcO (hp.objs.size + 1) C d))) h2 := fun b ob z => by
        by_cases h1 : b = hp.objs.size + 1
        · subst h1
          rw [upd_same] at z
          cases z
          exact excO_ok hoe ⟨rfl, rfl⟩ rfl
        · by_cases h3 : b = d
          · subst h3
            rw [upd_ne h1, upd_same] at z
            cases z
            exact ⟨mA, hns, rel⟩
          · rw [← eq b h1 h3] at z
            exact (hok2 b ob z).stay (fun _ _ _ q => q) (fun c q => two q (fun φ => by simp)) fun c xs q => two q (fun φ => by simp)
      have I4 := Inv.retype I3 (fun b z => two z (fun φ => by simp)) (fun b xs z => two z (fun φ => by simp)) (fun b o u z => two z (fun φ => by simp)) (fun b ps z => two z (fun φ => by simp)) hokn
      refine ⟨.ref (hp.objs.size + 1), _, I4, rfl, ?_⟩
      obtain ⟨s5, o5⟩ := new_ok o2 hd1 (.xd (ns.zip yr).reverse)
      have hn5 : upd H1 d (.xd (ns.zip yr).reverse) (hp.objs.size + 1) = none := by rw [upd_ne (Ne.symm hne)]; exact hn
      obtain ⟨s6, o6⟩ := new_ok o5 hn5 (.ext (ExcO (hp.objs.size + 1) C d))
      refine h1 _ _ _ _ ((s2'.trans s5).trans s6) o6 ⟨hp.objs.size + 1, d, (ns.zip yr).reverse, rfl, .inr rfl, .inl (.inr rfl), upd_same, (upd_ne hne).trans upd_same, T.exc, ?_, ?_⟩
      · rw [List.map_reverse, zip_fst hyl]
      · rw [List.map_reverse, zip_snd hyl]
        exact RepL.mono (new_k o5 hn5 _) _ (RepL.mono (new_k o2 hd1 _) _ (RepL.rev r2))
    | next => exact False.elim hq'
    | brk => exact False.elim hq'
    | cont => exact False.elim hq'
end
end VL

set_option Elab.async false
set_option linter.all false
set_option maxRecDepth 100000
set_option maxHeartbeats 4000000
namespace VL
open PySem PySem.Spec PyProof.Rows L2
open PySem.W (Frag)
theorem excO0_ok {P : Program} {w : World} {H : Hp} {h : Heap} {a : Addr} {c : Value} {oe : Obj} {vs : Array Value} (e : h.get? a = some oe) (hz : Zc c none oe) (hd : oe.data = .fields vs) : ObjOk P w H h a (.ext (ExcO0 a c)) :=
  ⟨⟨oe, vs, e, hz.1, hz.2, hd⟩, ⟨oe, e⟩, fun h1 h2 ⟨o, v, x, y⟩ k => ⟨o, v, k o x, y⟩⟩
/-- ValueError(e, ..) as a value -/
def eVE (f : AF) : EF := fun st L => (f st L).bind fun us L1 => if us.length ≤ 1000 then .ok (.d (.ex0 (.type "ValueError"))) L1 else .no
theorem bt_ValueError : bootBuiltins "ValueError" = some (.type "ValueError") := PyProof.Rows.Boot.«ValueError»
section
variable {X : Cx} {W : WX} {e : Expr} {es : List Expr} {f : AF} {p pos : Pos}
theorem ke_ve (hm : X.mg "ValueError" = none) (ha : KA X W (e :: es) f) (hg : Gl X "ValueError" := by rfl) (he : starEach (e :: es) X.env = (false, eval e X.env) :: starEach es X.env := by rfl) (hpl : (backTo pos (starEach es X.env)).any (·.1) = false := by rfl) : KE X W (.Call (.Name "ValueError" p) (e :: es) [] pos) (eVE f) := by
  refine ⟨fun pins s σ H Q I ⟨F, ρ, L, st, o, r, h⟩ => ?_⟩
  refine wpAny_Call_Name_kw (ld_blt I hg hm bt_ValueError ?_ (by decide) (by decide))
  refine PyProof.Rows.callWith_type1 (thn (PA.run ha pos pins s σ H (fun vs H1 => ∃ F1 ρ1 L1 us, Ok X.K F1 ρ1 H1 L1 ∧ RepUs X.K F1 ρ1 H1 L1 us vs ∧ GE RepU X.K W σ F1 ρ1 H1 L1 Q (if us.length ≤ 1000 then .ok (.d (.ex0 (.type "ValueError"))) L1 else .no)) I (RG.one (P := RepUs) o r h fun vs H1 F1 ρ1 L1 us s1 o1 r1 p1 h1 => ⟨F1, ρ1, L1, us, o1, p1, h1⟩)) fun us s1 ⟨vs, H1, I1, rv, F1, ρ1, L1, uu, o1, p1, h1⟩ => ?_) he hpl
  obtain ⟨hz, h1⟩ := ge_if h1
  obtain ⟨hp1, g1, d1, tk1, os1⟩ := s1
  have hl : us.length ≤ sizeLine := by rw [← rv.length, p1.length, sizeLine_eq]; omega
  refine wpAny_call_exc exb_ValueError.call (fun h' a mk => ?_) hl
  have mk := PySem.Heap.MadeExc.of mk
  obtain ⟨t, hoe, _, _⟩ := mk.there
  have na : H1 a = none := I1.hok.gone mk.new
  have I2 := Inv.laidN (t' := tk1) (o := .ext (ExcO0 a (.type "ValueError"))) I1 mk.keeps mk.new na (excO0_ok hoe ⟨rfl, rfl⟩ rfl)
  obtain ⟨s2, o2⟩ := new_ok o1 na (.ext (ExcO0 a (.type "ValueError")))
  exact ⟨.ref a, _, I2, rfl, h1 _ _ _ _ s2 o2 ⟨a, rfl, .inr rfl, upd_same, rfl⟩⟩
end
/-! an error without fields -/
def spX0 (C : Addr) : Sp := fun vs H Q _ => ∃ a, vs = [.ref a] ∧ H a = some (exo a C none) ∧ Q .non H
section
variable {P : Program} {w : World} {K : Frag} {mg : Str → Option Value} {base : Heap} {N ps : List Str} {name qual : Str} {scope : Scope} {f cc cda C : Addr}
theorem fn_err0 {CX : CXT} {k : Nat} {st : Stmt} {fd : FuncData} {txt : Str} {j : Nat} {p0 p1 p2 p3 p4 p5 : Pos} {ar : Arg} (T : ErrC P K mg C f name qual st fd) (S : SuScope N ps (defScope st)) (hb : defBody st = [stSuper txt j p0 p1 p2 p3 p4 p5])
    (hn : ps.length = 1) (hp : ((defArgs st).posonlyargs ++ (defArgs st).args).head? = some ar) (har : N[0]? = some ar.arg)
    (hev : ∀ (L cda cc : Addr), ∃ pl, EvSuper txt j p0 p1 p2 p3 p4 pl (PySem.W.ksEnv qual (defScope st) L f (.ref cda) cc))
    (hsw : ∀ (L cda cc : Addr), swapsWith (.Call (.Attribute (.Call (.Name "super" p0) [] [] p1) "__init__" p2) [.Constant (.str txt) j p3] [] p4) none p5.line (PySem.W.ksEnv qual (defScope st) L f (.ref cda) cc) = pure false) :
    FnOk P w K mg base CX (k + 1) f fd ps (spX0 C) := by
  obtain ⟨oc, kV, doc, pm, ct, ccl, cl, od, an, cdd, cld, osl, ccs, csl, cda, cc, vf, file, tf, rfl, lk, hcd, hcode, hvs, hfile, hcell⟩ := T.at_
  refine ⟨fun vs H Q E ⟨a, e, _⟩ => ?_, fun A outer s H args us vs Q E hrm e0 hbd r hsp => ?_⟩
  · rw [e, hn]; rfl
  obtain ⟨a, rfl, he, hq⟩ := hsp
  have KX : K.In s.heap := e0.mod.kin.keeps fun b o e => (e0.bs b o e).1
  have lim : s.heap.NoLimit := e0.mod.nolimit.keeps fun b o e => (e0.bs b o e).1
  have hbin : ∀ x ∈ ps.zip us, (defScope st).names.lookup x.1 = some .local := fun ⟨n, v⟩ hy => S.par n (List.of_mem_zip hy).1
  refine ks_codeAny_call_defAt (fd := PySem.W.ksFn name qual (defArgs st) (defBody st) (defScope st) .none kV doc pm an (.ref cda) ct cc) (body := defBody st) (binds := ps.zip us) hrm.depth (KX _ _ lk) rfl lim (PySem.W.codeRec_of KX hcd) rfl hbd S.nocell hbin (fun h1 hns hk => ?_) S.co S.gen S.kind
  have cb : ∃ o, base.get? cc = some o := ⟨_, e0.mod.kin _ _ hcell⟩
  have I : Inv (cxS P w K mg base N qual (defScope st) f (.ref cda) cc A outer s H) [] ([V.ref a].map some) H { s with heap := h1, toks := s.toks + (ps.zip us).length } :=
    inv_startS S cb ⟨_, _, hk _ _ (KX _ _ hcell), rfl⟩ hrm.hd e0 (by rw [hn]; rfl) r rfl hns hk
  show _root_.PySem.wpAt (model P w) _ _ (execs (defBody st) (PySem.W.ksEnv qual (defScope st) s.heap.objs.size f (.ref cda) cc)) _ _ _
  rw [hb]
  refine ks_wpAt_execs_cons ?_
  refine super_init S T.oex I he lk hp har rfl hcode hvs hfile hcell T.sub T.su T.top T.op T.im T.ve (hev _ _ _) (hsw _ _ _) fun s' J => ?_
  refine PySem.wpAt_of_wpAny (wpAny_execs_nil ?_)
  exact ⟨.non, H, J.os, J.bare, J.base, J.hok, rfl, hq⟩
end
def eExc0 (C : Addr) : EF := fun _ L => .ok (.d (.ex0 (.ref C))) L
theorem ke_exc0 {X : Cx} {W : WX} {x : Str} {C f : Addr} {k : Nat} {fd : FuncData} {ps : List Str} {name qual : Str} {stt : Stmt} {p pos : Pos} (T : ErrC X.prog X.K X.mg C f name qual stt fd) (G : FnOk X.prog X.w X.K X.mg X.base CX0 k f fd ps (spX0 C)) (hr : Room (k + 1) X.A) (hb : Binds X.K fd ps [])
    (hm : X.mg x = some (.ref C)) (hg : Gl X x := by rfl) (hdb : (x == ("__debug__" : Str)) = false := by decide) : KE X W (.Call (.Name x p) [] [] pos) (eExc0 C) := by
  obtain ⟨nm, q, NN, bs, bm, sn, sub, ab, col, dd, k0, k1, k2, k3, k5, hC, hbm⟩ := T.oex.cls
  refine ⟨fun pins s σ H Q I ⟨F, ρ, L, st, o, r, h⟩ => ?_⟩
  refine wpAny_Call_Name_kw (ld_glob I hg hm ?_ hdb)
  refine PySem.W.callWith_K0 I.kIn T.oex.kC ?_
  obtain ⟨hp, g, dr, tk, os⟩ := s
  have hsz : hp.objs.size ≤ hp.objs.size + 1 := Nat.le_succ _
  have hn : H (hp.objs.size + 1) = none := I.hok.fresh hsz
  have kk : ∀ b o, hp.get? b = some o → ((hp.push (PySem.W.kdv_tup [])).push (PySem.HandSPX.excO C hp.objs.size)).get? b = some o := fun b o e => Heap.get?_push_of_some _ (Heap.get?_push_of_some _ e)
  have hget : ((hp.push (PySem.W.kdv_tup [])).push (PySem.HandSPX.excO C hp.objs.size)).get? (hp.objs.size + 1) = some (PySem.HandSPX.excO C hp.objs.size) := by heap_get
  have I2 : Inv X pins σ (upd H (hp.objs.size + 1) (exo (hp.objs.size + 1) C none)) ⟨(hp.push (PySem.W.kdv_tup [])).push (PySem.HandSPX.excO C hp.objs.size), g, dr, tk, os⟩ :=
    I.laid (t' := tk) (a := hp.objs.size + 1) (o := exo (hp.objs.size + 1) C none) (h' := (hp.push (PySem.W.kdv_tup [])).push (PySem.HandSPX.excO C hp.objs.size)) kk hsz (exo_ok hget)
  have hsp : spX0 C [.ref (hp.objs.size + 1)] (upd H (hp.objs.size + 1) (exo (hp.objs.size + 1) C none)) (fun v H2 => v = .non ∧ H2 = upd H (hp.objs.size + 1) (exo (hp.objs.size + 1) C none)) (fun _ _ _ => False) := ⟨_, rfl, upd_same, rfl, rfl⟩
  refine wpAny_call (call_kw PySem.F.excBase_ValueError (fun Y => PySem.HandSPX.refsVE_contains Y bm hbm) (I.kIn _ _ hC) (PySem.W.looks_findIn I.kIn T.ini) (fun self => PySem.W.bind_fn I.kIn self T.tyI) (Nat.zero_le _)
    (codeAny_mono (G.run _ X.stack _ _ ⟨[Value.ref (hp.objs.size + 1)], []⟩ [Value.ref (hp.objs.size + 1)] [V.ref (hp.objs.size + 1)] _ (fun _ _ _ => False) (hr.make C [] []) (I2.env0.make C [] []) (hb _ [Value.ref (hp.objs.size + 1)] I2.kIn (G.len _ _ _ _ hsp)) (.cons rfl .nil) hsp) fun r s' hq' => ?_))
  cases r with
  | error er => exact hq'.elim
  | ok fl =>
    cases fl with
    | ret u =>
      obtain ⟨v, H2, os2, bare2, un2, hok2, rv, rfl, rfl⟩ := hq'
      obtain ⟨h2, g2, d2, t2, os'⟩ := s'
      refine ⟨rv, ?_⟩
      have I3 : Inv X pins σ _ ⟨h2, g2, d2, t2, os'⟩ := I2.call' (ch := []) os2 un2 hok2 bare2 (fun b z => absurd z (by simp))
      obtain ⟨t0, hoe⟩ := exo_at hok2 (upd_same (H := H) (a := hp.objs.size + 1))
      have two : ∀ {b : Addr} {w : Option HO}, upd H (hp.objs.size + 1) (exo (hp.objs.size + 1) C none) b = w → (∀ φ, w ≠ some (.ext φ)) → upd H (hp.objs.size + 1) (.ext (ExcO0 (hp.objs.size + 1) (.ref C))) b = w := fun {b w} hb hw => by
        by_cases h1 : b = hp.objs.size + 1
        · rw [h1, upd_same] at hb; exact absurd hb.symm (hw _)
        · rw [upd_ne h1] at hb ⊢; exact hb
      have hokn : HOk X.prog X.w (upd H (hp.objs.size + 1) (.ext (ExcO0 (hp.objs.size + 1) (.ref C)))) h2 := fun b ob z => by
        by_cases h1 : b = hp.objs.size + 1
        · subst h1
          rw [upd_same] at z
          cases z
          exact excO0_ok hoe ⟨rfl, rfl⟩ rfl
        · rw [upd_ne h1] at z
          exact (hok2 b ob (by rw [upd_ne h1]; exact z)).stay (fun _ _ _ q => q) (fun c q => two q (fun φ => by simp)) fun c xs q => two q (fun φ => by simp)
      have I4 := Inv.retype I3 (fun b z => two z (fun φ => by simp)) (fun b xs z => two z (fun φ => by simp)) (fun b o u z => two z (fun φ => by simp)) (fun b ps z => two z (fun φ => by simp)) hokn
      obtain ⟨s2, o2⟩ := new_ok o hn (.ext (ExcO0 (hp.objs.size + 1) (.ref C)))
      exact ⟨.ref (hp.objs.size + 1), _, I4, rfl, h _ _ _ _ s2 o2 ⟨_, rfl, .inr rfl, upd_same, T.exc⟩⟩
    | next => exact False.elim hq'
    | brk => exact False.elim hq'
    | cont => exact False.elim hq'
end VL

set_option Elab.async false
set_option linter.all false
set_option maxRecDepth 100000
set_option maxHeartbeats 4000000
namespace VL
open PySem PySem.Spec PyProof.Rows L2
open PySem.W (Frag)
/-! ### repr of data of any kind -/
def keyP : Key → PyData
  | .inl i => .int i
  | .inr x => .str x
mutual
def toPyR : D → Option PyData
  | .non => some .none
  | .bl b => some (.bool b)
  | .int i => some (.int i)
  | .str x => some (.str x)
  | .lst xs => (toPyRL xs).map .list
  | .tup xs => (toPyRL xs).map .tuple
  | .dic ks xs => (toPyRL xs).map fun ps => .dict ((ks.map keyP).zip ps)
  | _ => none
def toPyRL : List D → Option (List PyData)
  | [] => some []
  | d :: ds => (toPyR d).bind fun p => (toPyRL ds).map (p :: ·)
end
theorem toPyRL_length : ∀ {ds : List D} {ps : List PyData}, toPyRL ds = some ps → ps.length = ds.length
  | [], _, e => by simp only [toPyRL] at e; cases e; rfl
  | d :: ds, _, e => by
    simp only [toPyRL, Option.bind_eq_some_iff, Option.map_eq_some_iff] at e
    obtain ⟨p, _, ps, e2, rfl⟩ := e
    simp [toPyRL_length e2]
section
variable {X : Cx} {pins : List (Addr × Obj)} {σ : L2.St} {H : Hp} {s : Shared} {F : Addr → Prop}
theorem keys_read : ∀ {es : List DictEntry} {kvs : List (Key × Value)}, Pairs (mixKind X.prog X.w) es kvs → ReadsAll s.heap (es.map (·.key)) (kvs.map fun kv => keyP kv.1) [] ∧ es.map (·.val) = kvs.map (·.2)
  | _, _, .nil => ⟨.nil, rfl⟩
  | _, _, .cons (e := e) (kv := kv) h1 h2 t => by
    obtain ⟨r, q⟩ := keys_read t
    refine ⟨?_, by simp [h2, q]⟩
    rcases keyIs_shape h1 with ⟨i, tk, e1, e2⟩ | ⟨x, tk, e1, e2⟩
    · simp only [List.map_cons]
      rw [e2]
      have : keyP kv.1 = .int i := by rw [e1]; rfl
      rw [this]
      exact ReadsAll.cons (.int i tk) r
    · simp only [List.map_cons]
      rw [e2]
      have : keyP kv.1 = .str x := by rw [e1]; rfl
      rw [this]
      exact ReadsAll.cons (.str x tk) r
theorem kv_split : ∀ {kvs : List (Key × V)} {vs : List (Key × Value)}, KV kvs vs → Vals (kvs.map (·.2)) (vs.map (·.2)) ∧ kvs.map (·.1) = vs.map (·.1)
  | _, _, .nil => ⟨.nil, rfl⟩
  | _, _, .cons q t => let ih := kv_split t; ⟨.cons q.2 ih.1, by simp [q.1, ih.2]⟩
mutual
theorem reads_D (I : Inv X pins σ H s) : ∀ (d : D) {v : V} {u : Value} {p : PyData}, Rdr X.K F H d v → RelV v u → toPyR d = some p → p.showable = true → p.shown.length ≤ sizeLine → (∃ as, Reads s.heap u p as) ∧ ∃ bs, ReadAtMost s.heap p.depth bs ∧ ReprK X.prog X.w bs s.heap p.depth u p.shown
  | .non, _, _, _, h, r, e, _, _ => by cases h; cases r; simp only [toPyR] at e; cases e; exact ⟨⟨_, .none⟩, [], (fun _ h => nomatch h), by simp only [PyData.shown]; exact .of_is ReprIs.none _ _ _⟩
  | .bl b, _, _, _, h, r, e, _, _ => by cases h; cases r; simp only [toPyR] at e; cases e; exact ⟨⟨_, .bool b⟩, [], (fun _ h => nomatch h), by simp only [PyData.shown]; exact .of_is (ReprIs.bool b) _ _ _⟩
  | .int b, _, _, _, h, r, e, hs, _ => by cases h; obtain ⟨t, rfl⟩ := r; simp only [toPyR] at e; cases e; exact ⟨⟨_, .int b t⟩, [], (fun _ h => nomatch h), by simp only [PyData.shown]; exact .of_is (ReprIs.int t (by simpa [PyData.showable] using hs)) _ _ _⟩
  | .str b, _, _, _, h, r, e, _, hz => by cases h; obtain ⟨t, rfl⟩ := r; simp only [toPyR] at e; cases e; exact ⟨⟨_, .str b t⟩, [], (fun _ h => nomatch h), by simp only [PyData.shown]; exact .of_is (ReprIs.str b t (by simpa only [PyData.shown] using hz)) _ _ _⟩
  | .lst xs, _, _, _, ⟨a, vs, e1, h, r⟩, ru, e, hs, hz => by
    subst e1
    simp only [toPyR, Option.map_eq_some_iff] at e
    obtain ⟨ps, e2, rfl⟩ := e
    cases ru
    obtain ⟨its, rv, ⟨o, n, ho, hc, _, hd⟩, _⟩ := I.list (.inl (.inl h))
    have hz' : (listText (PyData.shownAll ps)).length ≤ sizeLine := by simpa only [PyData.shown] using hz
    obtain ⟨⟨as, hr⟩, bs, hb, hk⟩ := reads_DL I xs r rv e2 (by simpa [PyData.showable] using hs) (fun t ht => Nat.le_trans (listText_mem_le ht) hz')
    have rd : Reads s.heap (.ref a) (.list ps) _ := .list ho hc hd hr
    refine ⟨⟨_, rd⟩, a :: bs, ReadAtMost.cons rd (by simp only [PyData.depth]; omega) hb, ?_⟩
    have hna : a ∉ bs := not_mem_of_deeper rd (by simp only [PyData.depth]; omega) hb
    simp only [PyData.depth, PyData.shown]
    cases its with
    | nil =>
      cases hr
      simp only [PyData.shownAll, listText_nil]
      exact ReprK.listEmpty ho hc hd
    | cons x l => exact ReprK.list ho hc hd hna (by simpa using hk.length_eq) (fun i y e => hk.item i y (by simpa using e))
  | .tup xs, _, _, _, ⟨a, vs, e1, h, r⟩, ru, e, hs, hz => by
    subst e1
    simp only [toPyR, Option.map_eq_some_iff] at e
    obtain ⟨ps, e2, rfl⟩ := e
    cases ru
    obtain ⟨its, rv, ⟨o, ho, hc, n, hd⟩, _⟩ := I.tuple h
    have hz' : (tupleText (PyData.shownAll ps)).length ≤ sizeLine := by simpa only [PyData.shown] using hz
    obtain ⟨⟨as, hr⟩, bs, hb, hk⟩ := reads_DL I xs r rv e2 (by simpa [PyData.showable] using hs) (fun t ht => Nat.le_trans (tupleText_mem_le ht) hz')
    have rd : Reads s.heap (.ref a) (.tuple ps) _ := .tuple ho hc hd hr
    refine ⟨⟨_, rd⟩, a :: bs, ReadAtMost.cons rd (by simp only [PyData.depth]; omega) hb, ?_⟩
    have hna : a ∉ bs := not_mem_of_deeper rd (by simp only [PyData.depth]; omega) hb
    simp only [PyData.depth, PyData.shown]
    exact ReprK.tuple ho hc hd hna hk
  | .dic ks xs, _, _, _, ⟨a, kvs, e1, h, hk, r⟩, ru, e, hs, hz => by
    subst e1
    simp only [toPyR, Option.map_eq_some_iff] at e
    obtain ⟨ps, e2, rfl⟩ := e
    cases ru
    obtain ⟨_, hsys, vs, kv, o, es, ep, ho, hx, hd, _, hp, _⟩ := I.hok a _ h
    obtain ⟨r1, r2⟩ := keys_read (s := s) hp
    have hv := kv_split kv
    have hl : ps.length = ks.length := by
      rw [toPyRL_length e2, ← r.length, ← hk]; simp
    have k1 : ((ks.map keyP).zip ps).map (·.1) = vs.map fun kv => keyP kv.1 := by
      rw [zip_fst (by simpa using hl), ← hk, hv.2]; simp
    have k2 : ((ks.map keyP).zip ps).map (·.2) = ps := zip_snd (by simpa using hl)
    have hz' : (dictText (PyData.shownKv ((ks.map keyP).zip ps))).length ≤ sizeLine := by simpa only [PyData.shown] using hz
    obtain ⟨hs1, hs2⟩ := PyData.showableKv_split _ (by simpa [PyData.showable] using hs)
    have l1 : ∀ t ∈ PyData.shownAll (((ks.map keyP).zip ps).map (·.1)), t.length ≤ sizeLine := fun t ht => let ⟨p, hp, hl⟩ := PyData.shownKv_key_le _ t ht; Nat.le_trans hl (Nat.le_trans (dictText_mem_le hp) hz')
    have l2 : ∀ t ∈ PyData.shownAll (((ks.map keyP).zip ps).map (·.2)), t.length ≤ sizeLine := fun t ht => let ⟨p, hp, hl⟩ := PyData.shownKv_val_le _ t ht; Nat.le_trans hl (Nat.le_trans (dictText_mem_le hp) hz')
    rw [k2] at hs2 l2
    obtain ⟨⟨as, hr⟩, b2, hb2, q2⟩ := reads_DL I xs r hv.1 e2 hs2 l2
    have r1' : ReadsAll s.heap (es.toList.map (·.key)) (((ks.map keyP).zip ps).map (·.1)) [] := by rw [k1]; exact r1
    obtain ⟨b1, hb1, q1⟩ := ReprAllK.of_readsAll (prog := X.prog) (w := X.w) r1' hs1 (fun _ z => by cases z) l1
    have rd : Reads s.heap (.ref a) (.dict ((ks.map keyP).zip ps)) _ := Reads.dict ho hx.1 hd r1' (by rw [k2, r2]; exact hr)
    have d2 : PyData.depthAll ps ≤ PyData.depthKv ((ks.map keyP).zip ps) := by
      have := PyData.depthAll_vals_le ((ks.map keyP).zip ps)
      rwa [k2] at this
    have hb : ReadAtMost s.heap (PyData.depthKv ((ks.map keyP).zip ps)) (b1 ++ b2) := (hb1.mono (PyData.depthAll_keys_le _)).append (hb2.mono d2)
    have hna : a ∉ b1 ++ b2 := not_mem_of_deeper rd (by simp only [PyData.depth]; omega) hb
    refine ⟨⟨_, rd⟩, a :: (b1 ++ b2), ReadAtMost.cons rd (by simp only [PyData.depth]; omega) hb, ?_⟩
    simp only [PyData.depth, PyData.shown, PyData.shownKv_eq]
    rw [k2]
    exact ReprK.dict ho hx.1 hd hsys hna (ReprEntriesK.of_two es.toList _ _ (q1.more_le (fun b hb => List.mem_append_left _ hb) (PyData.depthAll_keys_le _)) (by rw [r2]; exact q2.more_le (fun b hb => List.mem_append_right _ hb) d2))
  | .dit _ _, _, _, _, _, _, e, _, _ => by simp [toPyR] at e
  | .ins _ _ _, _, _, _, _, _, e, _, _ => by simp [toPyR] at e
  | .exc _ _ _, _, _, _, _, _, e, _, _ => by simp [toPyR] at e
  | .ex0 _, _, _, _, _, _, e, _, _ => by simp [toPyR] at e
  | .obj _, _, _, _, _, _, e, _, _ => by simp [toPyR] at e
  | .ty _, _, _, _, _, _, e, _, _ => by simp [toPyR] at e
  | .scr _, _, _, _, _, _, e, _, _ => by simp [toPyR] at e
theorem reads_DL (I : Inv X pins σ H s) : ∀ (ds : List D) {vs : List V} {us : List Value} {ps : List PyData}, RepL X.K F H ds vs → Vals vs us → toPyRL ds = some ps → PyData.showableAll ps = true → (∀ t ∈ PyData.shownAll ps, t.length ≤ sizeLine) → (∃ as, ReadsAll s.heap us ps as) ∧ ∃ bs, ReadAtMost s.heap (PyData.depthAll ps) bs ∧ ReprAllK X.prog X.w bs s.heap (PyData.depthAll ps) us (PyData.shownAll ps)
  | [], _, _, _, h, r, e, _, _ => by cases h; cases r; simp only [toPyRL] at e; cases e; exact ⟨⟨_, .nil⟩, [], (fun _ h => nomatch h), by simp only [PyData.shownAll]; exact .nil⟩
  | d :: ds, _, _, _, ⟨v, r, e1, h, t⟩, ru, e, hs, hz => by
    subst e1
    simp only [toPyRL, Option.bind_eq_some_iff, Option.map_eq_some_iff] at e
    obtain ⟨p, e2, ps, e3, rfl⟩ := e
    have hs' : p.showable = true ∧ PyData.showableAll ps = true := by simpa [PyData.showableAll] using hs
    cases ru with
    | cons r1 r2 =>
      obtain ⟨⟨as, q1⟩, b1, hb1, k1⟩ := reads_D I d (Rep.rdr h) r1 e2 hs'.1 (hz _ (by simp only [PyData.shownAll]; exact List.mem_cons_self ..))
      obtain ⟨⟨bs, q2⟩, b2, hb2, k2⟩ := reads_DL I ds t r2 e3 hs'.2 (fun t ht => hz t (by simp only [PyData.shownAll]; exact List.mem_cons_of_mem _ ht))
      refine ⟨⟨_, .cons q1 q2⟩, b1 ++ b2, fun b hm => ?_, ?_⟩
      · simp only [PyData.depthAll]
        rcases List.mem_append.mp hm with hm | hm
        · obtain ⟨d', as', r', hd'⟩ := hb1 b hm
          exact ⟨d', as', r', Nat.le_trans hd' (Nat.le_max_left _ _)⟩
        · obtain ⟨d', as', r', hd'⟩ := hb2 b hm
          exact ⟨d', as', r', Nat.le_trans hd' (Nat.le_max_right _ _)⟩
      · simp only [PyData.depthAll, PyData.shownAll]
        exact .cons ((k1.more fun b hb => List.mem_append_left _ hb).level_le (Nat.le_max_left _ _)) (k2.more_le (fun b hb => List.mem_append_right _ hb) (Nat.le_max_right _ _))
end
/-- what shows a list, a tuple, a dict -/
theorem shows_D (I : Inv X pins σ H s) : ∀ (d : D) {v : V} {a : Addr} {p : PyData}, Rdr X.K F H d v → RelV v (.ref a) → toPyR d = some p → p.showable = true → p.shown.length ≤ sizeLine → ∃ T idr, ShowsBy X.prog X.w s.heap a p T idr
  | .non, _, _, _, h, r, _, _, _ => by cases h; cases r
  | .bl b, _, _, _, h, r, _, _, _ => by cases h; cases r
  | .int b, _, _, _, h, r, _, _, _ => by cases h; obtain ⟨t, z⟩ := r; cases z
  | .str b, _, _, _, h, r, _, _, _ => by cases h; obtain ⟨t, z⟩ := r; cases z
  | .lst xs, _, b, _, ⟨a, vs, e1, h, r⟩, ru, e, hs, hz => by
    subst e1
    have hba : b = a := by cases ru; rfl
    rw [hba]
    clear ru hba
    simp only [toPyR, Option.map_eq_some_iff] at e
    obtain ⟨ps, e2, rfl⟩ := e
    obtain ⟨its, rv, ⟨o, n, ho, hc, _, hd⟩, _⟩ := I.list (.inl (.inl h))
    have hz' : (listText (PyData.shownAll ps)).length ≤ sizeLine := by simpa only [PyData.shown] using hz
    obtain ⟨⟨as, hr⟩, bs, hb, hk⟩ := reads_DL I xs r rv e2 (by simpa [PyData.showable] using hs) (fun t ht => Nat.le_trans (listText_mem_le ht) hz')
    have hna : a ∉ bs := not_mem_of_deeper (.list ho hc hd hr) (by simp only [PyData.depth]; omega) hb
    refine ⟨"list", "list.__repr__", PySem.F.slot_list_repr.toG, PySem.F.slot_list_str, PySem.F.slot_list_format, fun s hk0 => ⟨o, hk0 _ _ ho, hc⟩, fun A E s' Q hg hu hk0 hQ => ?_⟩
    simp only [PyData.depth] at hu
    simp only [PyData.shown] at hQ
    cases its with
    | nil =>
      cases hr
      simp only [PyData.shownAll, listText_nil] at hQ
      exact call_list_repr_empty ⟨o, hk0 _ _ ho, hc⟩ (hk0 _ _ ho) hd (hQ s'.heap _ _ fun _ _ e => e)
    | cons x l => exact call_list_reprK ho hc hd hna (by simpa using hk.length_eq) (fun i y e => hk.item i y (by simpa using e)) hg (fun b _ => Clear.nil b) hu hk0 hQ hz'
  | .tup xs, _, b, _, ⟨a, vs, e1, h, r⟩, ru, e, hs, hz => by
    subst e1
    have hba : b = a := by cases ru; rfl
    rw [hba]
    clear ru hba
    simp only [toPyR, Option.map_eq_some_iff] at e
    obtain ⟨ps, e2, rfl⟩ := e
    obtain ⟨its, rv, ⟨o, ho, hc, n, hd⟩, _⟩ := I.tuple h
    have hz' : (tupleText (PyData.shownAll ps)).length ≤ sizeLine := by simpa only [PyData.shown] using hz
    obtain ⟨⟨as, hr⟩, bs, hb, hk⟩ := reads_DL I xs r rv e2 (by simpa [PyData.showable] using hs) (fun t ht => Nat.le_trans (tupleText_mem_le ht) hz')
    have hna : a ∉ bs := not_mem_of_deeper (.tuple ho hc hd hr) (by simp only [PyData.depth]; omega) hb
    refine ⟨"tuple", "tuple.__repr__", PySem.F.slot_tuple_repr, PySem.F.slot_tuple_str, PySem.F.slot_tuple_format, fun s hk0 => ⟨o, hk0 _ _ ho, hc⟩, fun A E s' Q hg hu hk0 hQ => ?_⟩
    simp only [PyData.depth] at hu
    simp only [PyData.shown] at hQ
    exact call_tuple_reprK ho hc hd hna hk hg (fun b _ => Clear.nil b) hu hk0 hQ hz'
  | .dic ks xs, _, b, _, ⟨a, kvs, e1, h, hk, r⟩, ru, e, hs, hz => by
    subst e1
    have hba : b = a := by cases ru; rfl
    rw [hba]
    clear ru hba
    simp only [toPyR, Option.map_eq_some_iff] at e
    obtain ⟨ps, e2, rfl⟩ := e
    obtain ⟨_, hsys, vs, kv, o, es, ep, ho, hx, hd, _, hp, _⟩ := I.hok a _ h
    obtain ⟨r1, r2⟩ := keys_read (s := s) hp
    have hv := kv_split kv
    have hl : ps.length = ks.length := by
      rw [toPyRL_length e2, ← r.length, ← hk]; simp
    have k1 : ((ks.map keyP).zip ps).map (·.1) = vs.map fun kv => keyP kv.1 := by
      rw [zip_fst (by simpa using hl), ← hk, hv.2]; simp
    have k2 : ((ks.map keyP).zip ps).map (·.2) = ps := zip_snd (by simpa using hl)
    have hz' : (dictText (PyData.shownKv ((ks.map keyP).zip ps))).length ≤ sizeLine := by simpa only [PyData.shown] using hz
    obtain ⟨hs1, hs2⟩ := PyData.showableKv_split _ (by simpa [PyData.showable] using hs)
    have l1 : ∀ t ∈ PyData.shownAll (((ks.map keyP).zip ps).map (·.1)), t.length ≤ sizeLine := fun t ht => let ⟨p, hp, hl⟩ := PyData.shownKv_key_le _ t ht; Nat.le_trans hl (Nat.le_trans (dictText_mem_le hp) hz')
    have l2 : ∀ t ∈ PyData.shownAll (((ks.map keyP).zip ps).map (·.2)), t.length ≤ sizeLine := fun t ht => let ⟨p, hp, hl⟩ := PyData.shownKv_val_le _ t ht; Nat.le_trans hl (Nat.le_trans (dictText_mem_le hp) hz')
    rw [k2] at hs2 l2
    obtain ⟨⟨as, hr⟩, b2, hb2, q2⟩ := reads_DL I xs r hv.1 e2 hs2 l2
    have r1' : ReadsAll s.heap (es.toList.map (·.key)) (((ks.map keyP).zip ps).map (·.1)) [] := by rw [k1]; exact r1
    obtain ⟨b1, hb1, q1⟩ := ReprAllK.of_readsAll (prog := X.prog) (w := X.w) r1' hs1 (fun _ z => by cases z) l1
    have rd : Reads s.heap (.ref a) (.dict ((ks.map keyP).zip ps)) _ := Reads.dict ho hx.1 hd r1' (by rw [k2, r2]; exact hr)
    have d2 : PyData.depthAll ps ≤ PyData.depthKv ((ks.map keyP).zip ps) := by
      have := PyData.depthAll_vals_le ((ks.map keyP).zip ps)
      rwa [k2] at this
    have hb : ReadAtMost s.heap (PyData.depthKv ((ks.map keyP).zip ps)) (b1 ++ b2) := (hb1.mono (PyData.depthAll_keys_le _)).append (hb2.mono d2)
    have hna : a ∉ b1 ++ b2 := not_mem_of_deeper rd (by simp only [PyData.depth]; omega) hb
    refine ⟨"dict", "dict.__repr__", PySem.F.slot_dict_repr, PySem.F.slot_dict_str, PySem.F.slot_dict_format, fun s hk0 => ⟨o, hk0 _ _ ho, hx.1⟩, fun A E s' Q hg hu hk0 hQ => ?_⟩
    simp only [PyData.depth] at hu
    simp only [PyData.shown, PyData.shownKv_eq, k2] at hQ
    have q2' : ReprAllK X.prog X.w (b1 ++ b2) s.heap (PyData.depthKv ((ks.map keyP).zip ps)) (es.toList.map (·.val)) (PyData.shownAll ps) := by rw [r2]; exact q2.more_le (fun b hb => List.mem_append_right _ hb) d2
    exact call_dict_reprK ho hx.1 hd hsys hna (ReprEntriesK.of_two es.toList _ _ (q1.more_le (fun b hb => List.mem_append_left _ hb) (PyData.depthAll_keys_le _)) q2') hg (fun b _ => Clear.nil b) hu hk0 hQ (by rw [PyData.shownKv_eq, k2] at hz'; exact hz')
  | .dit _ _, _, _, _, _, _, e, _, _ => by simp [toPyR] at e
  | .ins _ _ _, _, _, _, _, _, e, _, _ => by simp [toPyR] at e
  | .exc _ _ _, _, _, _, _, _, e, _, _ => by simp [toPyR] at e
  | .ex0 _, _, _, _, _, _, e, _, _ => by simp [toPyR] at e
  | .obj _, _, _, _, _, _, e, _, _ => by simp [toPyR] at e
  | .ty _, _, _, _, _, _, e, _, _ => by simp [toPyR] at e
  | .scr _, _, _, _, _, _, e, _, _ => by simp [toPyR] at e
end
def reprR : List D → Option D
  | [d] => (toPyR d).bind fun p => if p.showable ∧ p.depth ≤ 60 ∧ p.shown.length ≤ big then some (.str p.shown) else none
  | _ => none
theorem cd_reprR {X : Cx} {j : Nat} (hr : Rm j X.A) : CallR X (.builtin "repr") (rDn X.K reprR) := by
  intro pins s σ H xs us Q I rs ⟨F, ρ, L, ds, d, o, r, e, k⟩
  have hu := hr.u
  unfold reprR at e
  split at e
  · rename_i x
    obtain ⟨v, rfl, h⟩ := one_of r
    obtain ⟨p, e1, e2⟩ := Option.bind_eq_some_iff.mp e
    split at e2
    · rename_i hz
      cases e2
      obtain ⟨u, rfl, ru⟩ := vals1 rs
      have hs : p.shown.length ≤ sizeLine := by rw [big_eq]; exact hz.2.2
      obtain ⟨⟨as, R⟩, _⟩ := reads_D I x h ru e1 hz.1 hs
      have fin : ∀ {h' : Heap} {t : Tok} {tk : Nat}, (∀ b o, s.heap.get? b = some o → h'.get? b = some o) → EP X pins σ Q (.str p.shown t) { s with heap := h', toks := tk } := fun hk => ⟨.str _, H, Inv.more I hk, ⟨_, rfl⟩, k F H _ Step.refl o rfl⟩
      have byS : ∀ {a : Addr}, u = .ref a → wpAny (model X.prog X.w) X.A (call (.builtin "repr") [u]) (EP X pins σ Q) X.xe s := fun {a} eu => by
        subst eu
        obtain ⟨T, idr, S⟩ := shows_D I x h ru e1 hz.1 hs
        exact call_repr_slot (by omega) (S.typeIs s fun _ _ z => z) S.slotRepr (S.call X.A.in1 X.xe s _ hr.gd (by have := hz.2.1; show X.A.units + 1 + p.depth < cLine; omega) (fun _ _ z => z) fun h' u tk hk => ⟨_, _, rfl, fin hk⟩)
      cases R with
      | none => exact PySem.P.repr_of_none (fin fun _ _ z => z)
      | bool b => exact PySem.P.repr_of_bool (fin fun _ _ z => z)
      | int i t => exact PySem.P.repr_of_int (by simpa [PyData.showable] using hz.1) (fin fun _ _ z => z)
      | str y t => exact PySem.P.repr_of_str (fin fun _ _ z => z) hs
      | list h1 h2 h3 h4 => exact byS rfl
      | tuple h1 h2 h3 h4 => exact byS rfl
      | dict h1 h2 h3 h4 h5 => exact byS rfl
    · cases e2
  · cases e
end VL

set_option Elab.async false
set_option linter.all false
set_option maxRecDepth 100000
set_option maxHeartbeats 4000000
namespace VL
open PySem PySem.Spec PyProof.Rows L2
open PySem.W (Frag)
section
variable {X : Cx} {W : WX} {a b c e o : Expr} {fa fb fe fo : EF} {pos : Pos} {es : List Expr} {f : AF}
/-! ### lists that change: append, extend -/
def apnd (n : Nat) (vu : U) (L2 : LS) : Rs U := opt (fzU L2 vu) fun p => match p.2[n]? with
  | some (.l xs) => if xs.length < big then .ok (.d .non) (p.2.set n (.l (xs ++ [p.1]))) else .no
  | _ => .no
def eAppend (fo fe : EF) : EF := fun st L => (fo st L).bind fun ou L1 => match ou with
  | .l n => (match L1[n]? with
    | some (.l _) => (fe st L1).bind fun vu L2 => apnd n vu L2
    | _ => .no)
  | _ => .no
theorem ke_append {apos : Pos} (ho : KE X W o fo) (he : KE X W e fe) (hbase : attributeBase o "append" X.env (eval o X.env) = eval o X.env := by rfl)
    (hline : (apos.endLine == pos.line) = true := by rfl) (hs : starEach [e] X.env = (false, eval e X.env) :: starEach [] X.env := by rfl) : KE X W (.Call (.Attribute o "append" apos) [e] [] pos) (eAppend fo fe) := by
  refine pe_wk (pe_bm PySem.F.plainAttrs_list PySem.F.slot_list_append PySem.F.type_list_append mt_append ho (pa_cons he pa_nil hs) hbase (by rw [hs]; rfl) hline hs (by rfl)) fun σ H Q ⟨F, ρ, L, st, o, r, h⟩ => ?_
  refine RG.one o r h fun x H1 F1 ρ1 L1 u s1 o1 r1 p1 h1 => ?_
  cases u with
  | d y => exact h1.elim
  | l n =>
    dsimp only at h1
    split at h1
    · rename_i ys hy
      obtain ⟨hn, rfl⟩ := p1
      obtain ⟨_, vs, g1, g2⟩ := o1.at_ n _ hy
      refine ⟨.inl ⟨rfl, vs, .inl (.inl g1)⟩, RG.one o1 r1 h1 fun y H2 F2 ρ2 L2 u2 s2 o2 r2 p2 h2 => ?_⟩
      obtain ⟨⟨d, L3⟩, e3, h2⟩ := h2.opt
      obtain ⟨F3, s3, o3, q3⟩ := fzU_ok o2 p2 e3
      dsimp only at h2
      split at h2
      · rename_i zs hz
        obtain ⟨hl, h2⟩ := ge_if h2
        obtain ⟨_, ws, g3, g4⟩ := o3.at_ n _ hz
        have e1 : ρ2 n = ρ1 n := s2.same n hn
        refine ⟨ρ1 n, ws, y, rfl, rfl, by rw [← e1]; exact g3, by rw [big_eq, g4.length]; exact hl, ?_⟩
        obtain ⟨s4, o4⟩ := put_live (u := .lst (ws ++ [y])) (lo' := .l (zs ++ [d])) o3 hz rfl rfl fun kk nf => ⟨nf, _, upd_same, RepL.mono kk _ (g4.append (RepL.one q3))⟩
        rw [← e1]
        exact h2 F3 ρ2 _ .non (s3.trans s4) o4 rfl
      · exact h2.elim
    · exact h1.elim
/-! ### new lists that may still change -/
/-- a rule whose result is a new list -/
def rNewL (K : Frag) (g : List D → Option (List D)) : List V → Hp → VK → Prop := fun xs H Q => ∃ F ρ L ds ys, Ok K F ρ H L ∧ RdrL K F H ds xs ∧ g ds = some ys ∧ ∀ p vs, H p = none → RepL K F H ys vs → Q (.ref p) (upd H p (.lst vs))
def newL (g : List D → Option (List D)) (us : List U) (L : LS) : Rs U := opt (rdUs L us) fun ds => opt (g ds) fun ys => .ok (.l L.length) (L ++ [.l ys])
theorem newL_ok {g : List D → Option (List D)} {K : Frag} {σ : L2.St} {F : Addr → Prop} {ρ : Nat → Addr} {H : Hp} {L : LS} {us : List U} {vs : List V} {Q : VK} (o : Ok K F ρ H L) (px : RepUs K F ρ H L us vs) (h : GE RepU K W σ F ρ H L Q (newL g us L)) : rNewL K g vs H Q := by
  obtain ⟨ds, e1, h⟩ := h.opt
  obtain ⟨ys, e3, h⟩ := h.opt
  refine ⟨F, ρ, L, ds, ys, o, rdrs_of o px e1, e3, fun p ws hp q => ?_⟩
  have k : ∀ a, F a → F a ∧ upd H p (.lst ws) a = H a := fun a f => ⟨f, upd_ne fun z => o.stands a f (z ▸ hp)⟩
  obtain ⟨s3, o3⟩ := live_ok o hp (u := .lst ws) (lo := .l ys) rfl ⟨nF o hp, ws, upd_same, RepL.mono k ys q⟩
  refine h _ _ _ _ s3 o3 ⟨by simp, ?_⟩
  show V.ref p = V.ref (if L.length = L.length then p else _)
  rw [if_pos rfl]
def listL : List D → Option (List D)
  | [.lst xs] => some xs
  | [.tup xs] => some xs
  | _ => none
theorem cu_listL : CallU X W (.type "list") (newL listL) := by
  intro pins s σ H vs us Q F ρ L uu I o r rv h
  obtain ⟨F1, ρ1, L1, ds, ys, o1, r1, e1, h1⟩ := newL_ok o r h
  refine call_list_of pins s σ H vs us Q I rv ?_
  unfold listL at e1
  split at e1
  · cases e1
    obtain ⟨v, rfl, p, ws, rfl, g1, g2⟩ := one_of r1
    exact ⟨p, ws, rfl, .inl (.inl (.inl g1)), fun l hl => h1 l ws hl g2⟩
  · cases e1
    obtain ⟨v, rfl, p, ws, rfl, g1, g2⟩ := one_of r1
    exact ⟨p, ws, rfl, .inr g1, fun l hl => h1 l ws hl g2⟩
  · cases e1
/-- xs + ys, a new list that may change -/
def catL (x y : U) (L : LS) : Rs U := opt (rdU L x) fun dx => opt (rdU L y) fun dy => match dx, dy with
  | .lst xs, .lst ys => if xs.length + ys.length ≤ big then .ok (.l L.length) (L ++ [.l (xs ++ ys)]) else .no
  | _, _ => .no
theorem op_catL : Op2U X W (binaryOp .Add) catL := by
  intro pins s σ H x y v u Q F ρ L ux uy I o px py rx ry h
  obtain ⟨dx, e1, h1⟩ := h.opt
  obtain ⟨dy, e2, h2⟩ := h1.opt
  clear h h1
  split at h2
  · rename_i xs ys
    obtain ⟨hz, h2⟩ := ge_if h2
    obtain ⟨p, vs, rfl, g1, q1⟩ := (show ∃ a vs, x = .ref a ∧ H a = some (.lst vs) ∧ RepL X.K F H xs vs from rdr_of o px e1)
    obtain ⟨p2, vs2, rfl, g2, q2⟩ := (show ∃ a vs, y = .ref a ∧ H a = some (.lst vs) ∧ RepL X.K F H ys vs from rdr_of o py e2)
    refine op_cat pins s σ H _ _ v u Q I rx ry ⟨_, _, _, _, rfl, rfl, g1, g2, by rw [big_eq, q1.length, q2.length]; exact hz, fun t ht => ?_⟩
    have k : ∀ a, F a → F a ∧ upd H t (.lst (vs ++ vs2)) a = H a := fun a f => ⟨f, upd_ne fun z => o.stands a f (z ▸ ht)⟩
    obtain ⟨s3, o3⟩ := live_ok o ht (u := .lst (vs ++ vs2)) (lo := .l (xs ++ ys)) rfl ⟨nF o ht, _, upd_same, RepL.mono k _ (q1.append q2)⟩
    refine h2 _ _ _ _ s3 o3 ⟨by simp, ?_⟩
    show V.ref t = V.ref (if L.length = L.length then t else _)
    rw [if_pos rfl]
  · exact h2.elim
end
end VL

set_option Elab.async false
set_option linter.all false
set_option maxRecDepth 100000
set_option maxHeartbeats 4000000
namespace VL
open PySem PySem.Spec PyProof.Rows L2
open PySem.W (Frag)
/-! ### an error class, looked at by one word -/
def oexIn (K : Frag) (C : Addr) : Bool := match K.lookup C with
  | some ⟨.type "type", _, .cls cd, sl⟩ => (match cd.mro, sl.toList with
    | .ref C' :: bm, [_, _, _, _, some (.builtin n), _] => C' == C && (n == "ValueError.__new__" && (!cd.hasDel && (cd.hasDict && PySem.HandSPX.refsVE bm)))
    | _, _ => false)
  | _ => false
theorem oexIn_of {K : Frag} {C : Addr} (q : oexIn K C = true) : ∃ nm q N bs bm sn sub ab col dd k0 k1 k2 k3 k5, K.lookup C = some (excClassObj nm q C N bs bm true sn sub ab col dd k0 k1 k2 k3 k5 "ValueError.__new__") ∧ PySem.HandSPX.refsVE bm = true := by
  unfold oexIn at q
  split at q
  · rename_i dd cd sl ho
    split at q
    · rename_i C' bm k0 k1 k2 k3 n k5 hm hs
      simp only [Bool.and_eq_true, beq_iff_eq, Bool.not_eq_true'] at q
      obtain ⟨rfl, rfl, hdel, hdct, ht⟩ := q
      obtain ⟨nm, bs, mro, ns, qn, hd, sn, sub, ab, col, del⟩ := cd
      dsimp only at hm hdel hdct
      subst hm hdel hdct
      have hsl : sl = #[k0, k1, k2, k3, some (.builtin "ValueError.__new__"), k5] := by
        obtain ⟨l⟩ := sl
        simp only at hs
        rw [hs]
      subst hsl
      exact ⟨nm, qn, ns, bs, bm, sn, sub, ab, col, dd, k0, k1, k2, k3, k5, ho, ht⟩
    · cases q
  · cases q
def fileIn (K : Frag) (file : Str) (cda : Addr) : Bool := match K.lookup cda with
  | some ⟨_, _, .fields vf, _⟩ => (match (vf[2]? : Option Value) with
    | some (Value.str f _) => file == f
    | _ => false)
  | _ => false
def cellIn (K : Frag) (C cc : Addr) : Bool := match K.lookup cc with
  | some ⟨_, _, .cell (some (.ref D)), _⟩ => D == C
  | _ => false
def errB (K : Frag) (file qual : Str) (C f cda cc : Addr) : Bool :=
  oexIn K C && (fileIn K file cda && (cellIn K C cc && (PySem.W.codeIn K (.ref cda) qual && (PySem.W.keepIn K (.ref C) && (PySem.W.hasDictIn K C &&
  (decide (PySem.W.findIn K (.ref C) "__setattr__" = some (some (.builtin "object.__setattr__"))) && (decide (PySem.W.subIn K (.ref C) (.type "BaseException") = some true) && (decide (PySem.W.typeIn K (.ref C) = some (.type "type")) &&
  (decide (PySem.W.findIn K (.ref C) "__getattribute__" = some (some (.builtin "BaseException.__getattribute__"))) && (decide (PySem.W.findIn K (.ref C) "__getattr__" = some none) && (decide (PySem.W.findIn K (.ref C) "__class__" = some (some (.builtin "object.__class__"))) &&
  (decide (PySem.W.specialIn K (.builtin "object.__class__") "__get__" = some (some (.builtin "getset_descriptor.__get__"))) && (decide (PySem.W.takesIn K (.builtin "object.__class__") = some true) && (decide (PySem.W.mroIn K C (.type "object") = some true) &&
  (decide (PySem.W.findIn K (.ref C) "__init__" = some (some (.ref f))) && (decide (PySem.W.typeIn K (.ref f) = some (.type "function")) && (decide (PySem.W.mroIn K C (.ref C) = some true) && (decide (PySem.W.nsIn K cStatics "thirdparty.any" = some none) &&
  (decide (PySem.W.ks_superIn K C C "__init__" = some (some (.builtin "ValueError.__init__"))) && decide (PySem.W.subIn K (.ref C) (.type "ValueError") = some true))))))))))))))))))))
theorem err_of {P : Program} {K : Frag} {mg : Str → Option Value} {C f cda cc : Addr} {qual : Str} {st : Stmt} {oc kV doc pm ct : Value} {od an : Option Addr} {osl : Array (Option Value)}
    (lk : K.lookup f = some ⟨oc, od, .func (PySem.W.ksFn "__init__" qual (defArgs st) (defBody st) (defScope st) .none kV doc pm an (.ref cda) ct cc), osl⟩)
    (hb : errB K P.main.file qual C f cda cc = true) (su : mg "super" = none) (top : (P.main.scope.names.lookup ("super" : Str)).isSome = false) :
    ErrC P K mg C f "__init__" qual st (PySem.W.ksFn "__init__" qual (defArgs st) (defBody st) (defScope st) .none kV doc pm an (.ref cda) ct cc) := by
  unfold errB at hb
  simp only [Bool.and_eq_true, decide_eq_true_eq] at hb
  obtain ⟨h1, h2, h3, h4, h5, h6, h7, h8, h9, h10, h11, h12, h13, h14, h15, h16, h17, h18, h19, h20, h21⟩ := hb
  have hf : ∃ (ccl : Value) (cdd : Option Addr) (vf : Array Value) (ccs : Array (Option Value)) (file : Str) (tf : Tok), K.lookup cda = some ⟨ccl, cdd, .fields vf, ccs⟩ ∧ vf[2]? = some (.str file tf) ∧ ((P.main.file : Str) == file) = true := by
    unfold fileIn at h2
    split at h2
    · rename_i e
      split at h2
      · rename_i e2
        exact ⟨_, _, _, _, _, _, e, e2, h2⟩
      · cases h2
    · cases h2
  have hc : ∃ (cl : Value) (cld : Option Addr) (csl : Array (Option Value)), K.lookup cc = some ⟨cl, cld, .cell (some (.ref C)), csl⟩ := by
    unfold cellIn at h3
    split at h3
    · rename_i e
      rw [beq_iff_eq] at h3
      subst h3
      exact ⟨_, _, _, e⟩
    · cases h3
  obtain ⟨ccl, cdd, vf, ccs, file, tf, e1, e2, e3⟩ := hf
  obtain ⟨cl, cld, csl, e4⟩ := hc
  exact ⟨⟨oexIn_of h1, h7, h8, h9, h5⟩, ⟨h10, h11, h8, h6, h12, h13, h14, h15⟩, h16, h17, ⟨oc, kV, doc, pm, ct, ccl, cl, od, an, cdd, cld, osl, ccs, csl, cda, cc, vf, file, tf, rfl, lk, h4, e1, e2, e3, e4⟩, h18, su, top, h19, h20, h21⟩
/-- how an error's values bind -/
theorem ebk_of {P : Program} {K : Frag} {mg : Str → Option Value} {C f : Addr} {qual : Str} {st : Stmt} {fd : FuncData} {ps ks : List Str} {n : Nat} {src : List Sr} (T : ErrC P K mg C f "__init__" qual st fd) (hl : src.length = ps.length)
    (hb : ∀ kV doc pm an cdv ct cc, ∀ us ws : List Value, us.length = n → ws.length = ks.length → ∃ zs, bindArgs (PySem.W.ksFn "__init__" qual (defArgs st) (defBody st) (defScope st) .none kV doc pm an cdv ct cc) ⟨us, ks.zip ws⟩ = pure (ps.zip zs) ∧ Paired (SrOk us ws) src zs) : Bk K fd ps n ks src := by
  obtain ⟨oc, kV, doc, pm, ct, ccl, cl, od, an, cdd, cld, osl, ccs, csl, cda, cc, vf, file, tf, rfl, _⟩ := T.at_
  refine ⟨fun s us ws _ h1 h2 => ?_, hl⟩
  obtain ⟨zs, e, q⟩ := hb kV doc pm an (.ref cda) ct cc us ws h1 h2
  exact ⟨zs, BindsTo.of_eq e, q⟩
theorem ebinds_of {P : Program} {K : Frag} {mg : Str → Option Value} {C f : Addr} {qual : Str} {st : Stmt} {fd : FuncData} {ps : List Str} (T : ErrC P K mg C f "__init__" qual st fd)
    (hb : ∀ kV doc pm an cdv ct cc, ∀ us : List Value, us.length = ps.length → bindArgs (PySem.W.ksFn "__init__" qual (defArgs st) (defBody st) (defScope st) .none kV doc pm an cdv ct cc) ⟨us, []⟩ = pure (ps.zip us)) : Binds K fd ps [] := by
  obtain ⟨oc, kV, doc, pm, ct, ccl, cl, od, an, cdd, cld, osl, ccs, csl, cda, cc, vf, file, tf, rfl, _⟩ := T.at_
  exact Binds.all (fun us h => hb kV doc pm an (.ref cda) ct cc us h)
end VL

set_option Elab.async false
set_option linter.all false
set_option maxRecDepth 100000
set_option maxHeartbeats 4000000
namespace VL
open PySem PySem.Spec PyProof.Rows L2
open PySem.W (Frag)
structure Bs (base : Heap) : Prop where
  nd : NoDig base
/-! ### fields, by the classes that have no such name themselves -/
def fldT (cs : List Addr) (f : Str) : D → Option D
  | .ins C ns xs => if cs.contains C then lookF ns xs f else none
  | .exc C ns xs => if cs.contains C then lookF ns xs f else none
  | _ => none
theorem fldT_D {K : Frag} {cs : List Addr} {f : Str} (h : ∀ C ∈ cs, NoAttr K C f) {d x : D} (e : fldT cs f d = some x) : fldD K f d = some x := by
  cases d with
  | ins C ns xs =>
    simp only [fldT] at e
    split at e
    · rename_i hc
      have n : PySem.W.findIn K (.ref C) f = some none := h C (by simpa using hc)
      simp only [fldD, n]
      exact e
    · cases e
  | exc C ns xs =>
    simp only [fldT] at e
    split at e
    · rename_i hc
      have n : PySem.W.findIn K (.ref C) f = some none := h C (by simpa using hc)
      simp only [fldD, n]
      exact e
    · cases e
  | _ => cases e
theorem ge_op1 {K : Frag} {W : WX} {σ : L2.St} {F : Addr → Prop} {ρ : Nat → Addr} {H : Hp} {L : LS} {Q : VK} {g g' : D → Option D} {u : U} (hg : ∀ d x, g d = some x → g' d = some x) (h : GE RepU K W σ F ρ H L Q (op1 g u L)) : GE RepU K W σ F ρ H L Q (op1 g' u L) := by
  unfold op1 at h ⊢
  cases e : rdU L u with
  | none => rw [e] at h; exact h.elim
  | some d =>
    rw [e] at h
    simp only [opt] at h ⊢
    cases e2 : g d with
    | none => rw [e2] at h; exact h.elim
    | some x =>
      rw [e2] at h
      rw [hg d x e2]
      exact h
section
variable {X : Cx} {W : WX} {a : Expr} {fa : EF} {pos : Pos}
theorem ke_un_wk {e : Expr} {g g' : D → Option D} (hg : ∀ d x, g d = some x → g' d = some x) (h : KE X W e (eUn g' fa)) : KE X W e (eUn g fa) := by
  refine pe_wk h fun σ H Q ⟨F, ρ, L, st, o, r, h⟩ => ⟨F, ρ, L, st, o, r, ?_⟩
  unfold eUn at h ⊢
  cases e : fa st L with
  | ok u L1 =>
    rw [e] at h
    simp only [Rs.bind] at h ⊢
    exact ge_op1' hg h
  | ex C ns xs L1 => rw [e] at h; exact h
  | no => rw [e] at h; exact h
where
  ge_op1' {K : Frag} {σ : L2.St} {F : Addr → Prop} {ρ : Nat → Addr} {H : Hp} {L L1 : LS} {Q : VK} {g g' : D → Option D} {u : U} (hg : ∀ d x, g d = some x → g' d = some x) (h : GE RepU K W σ F ρ H L Q (op1 g u L1)) : GE RepU K W σ F ρ H L Q (op1 g' u L1) := by
    unfold op1 at h ⊢
    cases e : rdU L1 u with
    | none => rw [e] at h; exact h.elim
    | some d =>
      rw [e] at h
      simp only [opt] at h ⊢
      cases e2 : g d with
      | none => rw [e2] at h; exact h.elim
      | some x =>
        rw [e2] at h
        rw [hg d x e2]
        exact h
theorem ke_fldT {cs : List Addr} {f : Str} (hc : ∀ C ∈ cs, NoAttr X.K C f) (ha : KE X W a fa) (hb : attributeBase a f X.env (eval a X.env) = eval a X.env := by rfl) : KE X W (.Attribute a f pos) (eUn (fldT cs f) fa) :=
  ke_un_wk (fun d x e => fldT_D hc e) (ke_fld ha hb)
end
/-! ### isinstance, by tables of the own classes -/
abbrev tyNames : List String := ["NoneType", "bool", "int", "str", "list", "tuple", "dict", "ValueError"]
def subB (s n : String) : Option Bool := if tyNames.contains s && tyNames.contains n then some (s == n || (s == "bool" && n == "int")) else none
theorem subB_kit : ∀ s ∈ tyNames, ∀ n ∈ tyNames, kitB s n = some (s == n || (s == "bool" && n == "int")) := by decide +kernel
structure Isi where
  rr : List ((Addr × Addr) × Bool)
  rt : List ((Addr × String) × Bool)
  es : List Addr
def isiOne (T : Isi) (t u : Value) : Option Bool := match t, u with
  | .type s, .type n => subB s n
  | .ref C, .ref E => T.rr.lookup (C, E)
  | .ref C, .type n => T.rt.lookup (C, n)
  | .type s, .ref E => if tyNames.contains s && T.es.contains E then some false else none
  | _, _ => none
def isiAny (T : Isi) (t : Value) : List D → Option Bool
  | [] => some false
  | c :: cs => (clsD c).bind fun u => (isiOne T t u).bind fun b => if b then some true else isiAny T t cs
/-- isinstance(x, one class or a tuple of classes) -/
def isiT (T : Isi) : List D → Option D
  | [x, .tup cs] => (tyD x).bind fun t => (isiAny T t cs).map .bl
  | [x, c] => (tyD x).bind fun t => (clsD c).bind fun u => (isiOne T t u).map .bl
  | _ => none
def isiB (K : Frag) (T : Isi) : Bool := T.rr.all (fun p => decide (PySem.W.kitOne K (.ref p.1.1) (.ref p.1.2) = some p.2)) && (T.rt.all (fun p => decide (PySem.W.kitOne K (.ref p.1.1) (.type p.1.2) = some p.2)) && T.es.all fun E => tyNames.all fun s => decide (PySem.W.kitOne K (.type s) (.ref E) = some false))
theorem lookup_mem {α β : Type} [BEq α] [LawfulBEq α] : ∀ {tb : List (α × β)} {C : α} {m : β}, tb.lookup C = some m → (C, m) ∈ tb
  | (D, b) :: tb, C, m, e => by
    by_cases h : (C == D) = true
    · rw [List.lookup_cons, h] at e
      cases e
      exact .head _ |> fun z => (beq_iff_eq.mp h) ▸ z
    · rw [List.lookup_cons, Bool.eq_false_iff.mpr h] at e
      exact .tail _ (lookup_mem e)
theorem isiOne_kit {K : Frag} {T : Isi} (h : isiB K T = true) {t u : Value} {b : Bool} (e : isiOne T t u = some b) : PySem.W.kitOne K t u = some b := by
  unfold isiB at h
  simp only [Bool.and_eq_true, List.all_eq_true, decide_eq_true_eq] at h
  obtain ⟨h1, h2, h3⟩ := h
  unfold isiOne at e
  split at e
  · unfold subB at e
    split at e
    · rename_i hc
      simp only [Bool.and_eq_true, List.contains_iff_mem] at hc
      cases e
      exact L2.kit_ty (subB_kit _ hc.1 _ hc.2)
    · cases e
  · exact h1 _ (lookup_mem e)
  · exact h2 _ (lookup_mem e)
  · split at e
    · rename_i hc
      simp only [Bool.and_eq_true, List.contains_iff_mem] at hc
      cases e
      exact h3 _ hc.2 _ hc.1
    · cases e
  · cases e
theorem isiAny_kit {X : Cx} {F : Addr → Prop} {H : Hp} {T : Isi} (h : isiB X.K T = true) {t : Value} : ∀ {cs : List D} {vs : List V} {us : List Value} {b : Bool}, RepL X.K F H cs vs → Vals vs us → isiAny T t cs = some b → PySem.W.kitAny X.K t us = some b
  | [], _, _, _, r, rv, e => by cases r; cases rv; cases e; rfl
  | c :: cs, _, _, b, ⟨v, r, e1, q, t'⟩, rv, e => by
    subst e1
    cases rv with
    | cons r1 r2 =>
      simp only [isiAny, Option.bind_eq_some_iff] at e
      obtain ⟨u, e2, k, e3, e4⟩ := e
      have hu := cls_D (X := X) r1 (Rep.rdr q) e2
      subst hu
      unfold PySem.W.kitAny
      rw [isiOne_kit h e3]
      cases k with
      | true => exact e4
      | false => exact isiAny_kit h t' r2 e4
theorem cd_isiT {X : Cx} {T : Isi} (h : isiB X.K T = true) : CallR X (.builtin "isinstance") (rDn X.K (isiT T)) := by
  intro pins s σ H xs us Q I rs ⟨F, ρ, L, ds, d, o, r, e, k⟩
  unfold isiT at e
  split at e
  · rename_i x cs
    obtain ⟨v, w, rfl, h1, h2⟩ := two_of r
    simp only [Option.bind_eq_some_iff, Option.map_eq_some_iff] at e
    obtain ⟨t, e1, b, e2, rfl⟩ := e
    obtain ⟨u1, u2, rfl, r1, r2⟩ := vals2 rs
    obtain ⟨a, vs, rfl, g1, g2⟩ := h2
    cases r2
    obtain ⟨its, rv, ⟨ob, ho, hc, n, hd⟩, _⟩ := I.tuple g1
    obtain ⟨P, Z, p, hx⟩ := kit_D I r1 h1 e1
    have htp : s.heap.get? a = some ⟨.type "tuple", ob.dict, .seq its.toArray n, ob.slots⟩ := by
      rw [ho]
      obtain ⟨c1, c2, c3, c4⟩ := ob
      dsimp only at hc hd
      subst hc hd
      rfl
    exact PySem.W.kia_tup Z I.kIn p htp (isiAny_kit h g2 rv e2) hx fun tk => ⟨.bl b, H, I.tok tk, rfl, k F H _ Step.refl o rfl⟩
  · rename_i x c _
    obtain ⟨v, w, rfl, h1, h2⟩ := two_of r
    simp only [Option.bind_eq_some_iff, Option.map_eq_some_iff] at e
    obtain ⟨t, e1, u, e2, b, e3, rfl⟩ := e
    obtain ⟨u1, u2, rfl, r1, r2⟩ := vals2 rs
    have e4 := cls_D (X := X) r2 h2 e2
    subst e4
    obtain ⟨P, Z, p, hx⟩ := kit_D I r1 h1 e1
    exact PySem.W.kia_one Z I.kIn p (isiOne_kit h e3) hx fun tk => ⟨.bl b, H, I.tok tk, rfl, k F H _ Step.refl o rfl⟩
  · cases e
end VL

set_option Elab.async false
set_option linter.all false
set_option maxRecDepth 100000
set_option maxHeartbeats 4000000
namespace VL
open PySem PySem.Spec PyProof.Rows L2
open PySem.W (Frag)
/-! ### what the top has left, looked at by words -/
def mgB (K : Frag) (l : List (Str × Addr)) : Bool := l.all fun p => decide (PySem.W.nsIn K mainGlobals p.1 = some (some (.ref p.2)))
def noB (K : Frag) (l : List Str) : Bool := l.all fun x => decide (PySem.W.nsIn K mainGlobals x = some none)
def fnsB (K : Frag) (l : List (Addr × Addr × Str)) : Bool := l.all fun p => PySem.W.codeIn K (.ref p.2.1) p.2.2 && PySem.W.keepIn K (.ref p.1)
def intB (K : Frag) (l : List (Str × Int)) : Bool := l.all fun p => match PySem.W.nsIn K mainGlobals p.1 with
  | some (some (.int j _)) => j == p.2
  | _ => false
def strB (K : Frag) (l : List (Str × Str)) : Bool := l.all fun p => match PySem.W.nsIn K mainGlobals p.1 with
  | some (some (.str j _)) => j == p.2
  | _ => false
def ownB (K : Frag) (C : Addr) : Bool := PySem.W.plainGet K C Str.empty && (PySem.W.hasDictIn K C && (PySem.W.plainOver K C && (decide (PySem.W.findIn K (.ref C) "__setattr__" = some (some (.builtin "object.__setattr__"))) && (decide (PySem.W.findIn K (.ref C) "__class__" = some (some (.builtin "object.__class__"))) &&
  (decide (PySem.W.specialIn K (.builtin "object.__class__") "__get__" = some (some (.builtin "getset_descriptor.__get__"))) && (decide (PySem.W.takesIn K (.builtin "object.__class__") = some true) && decide (PySem.W.mroIn K C (.type "object") = some true)))))))
def mkB (K : Frag) (C f : Addr) : Bool := PySem.W.makesIn K C && (decide (PySem.W.findIn K (.ref C) "__init__" = some (some (.ref f))) && (PySem.W.isFn K (.ref f) && PySem.W.keepIn K (.ref C)))
def methB (K : Frag) (l : List (Addr × Str × Addr)) : Bool := l.all fun p => decide (PySem.W.findIn K (.ref p.1) p.2.1 = some (some (.ref p.2.2))) && (PySem.W.isFn K (.ref p.2.2) && PySem.W.keepIn K (.ref p.2.2))
def naB (K : Frag) (cs : List Addr) (f : Str) : Bool := cs.all fun C => decide (PySem.W.findIn K (.ref C) f = some none)
theorem all_mem {α : Type} {l : List α} {p : α → Bool} (h : l.all p = true) {x : α} (hx : x ∈ l) : p x = true := List.all_eq_true.mp h x hx
theorem mgB_of {K : Frag} {h : Heap} {mg : Str → Option Value} (X : K.In h) (G : h.Ns mainGlobals mg) {l : List (Str × Addr)} (e : mgB K l = true) {x : Str} {a : Addr} (hx : (x, a) ∈ l) : mg x = some (.ref a) := PySem.W.mg_of X G (of_decide_eq_true (all_mem e hx))
theorem noB_of {K : Frag} {h : Heap} {mg : Str → Option Value} (X : K.In h) (G : h.Ns mainGlobals mg) {l : List Str} (e : noB K l = true) {x : Str} (hx : x ∈ l) : mg x = none := PySem.W.mg_none_of X G (of_decide_eq_true (all_mem e hx))
theorem fnsB_of {K : Frag} {l : List (Addr × Addr × Str)} (e : fnsB K l = true) {f c : Addr} {q : Str} (hx : (f, c, q) ∈ l) : PySem.W.codeIn K (.ref c) q = true ∧ PySem.W.keepIn K (.ref f) = true := by
  have := all_mem e hx
  simpa using this
theorem intB_of {K : Frag} {h : Heap} {mg : Str → Option Value} (X : K.In h) (G : h.Ns mainGlobals mg) {l : List (Str × Int)} (e : intB K l = true) {x : Str} {i : Int} (hx : (x, i) ∈ l) : ∃ t, mg x = some (.int i t) := by
  have := all_mem e hx
  dsimp only at this
  split at this
  · rename_i j t z
    rw [beq_iff_eq] at this
    subst this
    exact ⟨t, PySem.W.mg_of X G z⟩
  · cases this
theorem strB_of {K : Frag} {h : Heap} {mg : Str → Option Value} (X : K.In h) (G : h.Ns mainGlobals mg) {l : List (Str × Str)} (e : strB K l = true) {x i : Str} (hx : (x, i) ∈ l) : ∃ t, mg x = some (.str i t) := by
  have := all_mem e hx
  dsimp only at this
  split at this
  · rename_i j t z
    rw [beq_iff_eq] at this
    subst this
    exact ⟨t, PySem.W.mg_of X G z⟩
  · cases this
theorem ownB_of {K : Frag} {C : Addr} (e : ownB K C = true) : OwnC K C := by
  unfold ownB at e
  simp only [Bool.and_eq_true, decide_eq_true_eq] at e
  obtain ⟨h1, h2, h3, h4, h5, h6, h7, h8⟩ := e
  exact ⟨⟨h1, h2, h3, h4⟩, h5, h6, h7, h8⟩
theorem mkB_of {K : Frag} {C f : Addr} (e : mkB K C f = true) : Mk K C f := by
  unfold mkB at e
  simp only [Bool.and_eq_true, decide_eq_true_eq] at e
  obtain ⟨h1, h2, h3, h4⟩ := e
  exact ⟨h1, h2, h3, h4⟩
theorem methB_of {K : Frag} {l : List (Addr × Str × Addr)} (e : methB K l = true) {C f : Addr} {m : Str} (hx : (C, m, f) ∈ l) : Meth K C m f := by
  have := all_mem e hx
  simp only [Bool.and_eq_true, decide_eq_true_eq] at this
  exact ⟨this.1, this.2.1, this.2.2⟩
theorem naB_of {K : Frag} {cs : List Addr} {f : Str} (e : naB K cs f = true) : ∀ C ∈ cs, NoAttr K C f := fun C h => (of_decide_eq_true (all_mem e h) : PySem.W.findIn K (.ref C) f = some none)
def takeB (K : Frag) (c : Addr) (tbl : List (Addr × Bool)) : Bool := tbl.all fun p => decide (PySem.W.exmOne K (.ref p.1) (.ref c) = some p.2)
theorem takeB_of {K : Frag} {c : Addr} {tbl : List (Addr × Bool)} (e : takeB K c tbl = true) (h : ∀ p ∈ tbl, ExcC K p.1) : TakeT K c tbl := fun C b hx => ⟨of_decide_eq_true (all_mem e hx), h _ hx⟩
/-- o.f = e -/
theorem ks_fldB {X : Cx} {W : WX} {o e : Expr} {fo fe : EF} {f : Str} {pos pos' : Pos} {Cs : List Addr} (na : naB X.K Cs f = true) (ho : KE X W o fo) (he : KE X W e fe) (hs : swapsWith e (some (.Attribute o f pos')) pos.line X.env = pure false := by rfl) :
    KS X W (.Assign [.Attribute o f pos'] e pos) (sFld Cs f fo fe) := ks_fld (naB_of na) ho he hs
end VL

set_option Elab.async false
set_option linter.all false
set_option maxRecDepth 100000
set_option maxHeartbeats 4000000
namespace VL
open PySem PySem.Spec PyProof.Rows L2
open PySem.W (Frag)
/-! ### data that repr shows -/
def Sh (m k : Nat) (d : D) : Prop := ∃ p, toPyR d = some p ∧ p.showable = true ∧ p.depth ≤ k ∧ p.shown.length ≤ m
def shB (m k : Nat) (d : D) : Bool := match toPyR d with
  | some p => p.showable && decide (p.depth ≤ k) && decide (p.shown.length ≤ m)
  | none => false
theorem shB_of {m k : Nat} {d : D} (h : shB m k d = true) : Sh m k d := by
  unfold shB at h
  split at h
  · rename_i p e
    simp only [Bool.and_eq_true, decide_eq_true_eq] at h
    exact ⟨p, e, h.1.1, h.1.2, h.2⟩
  · cases h
theorem Sh.mono {m k m' k' : Nat} {d : D} (h : Sh m k d) (hm : m ≤ m') (hk : k ≤ k') : Sh m' k' d := let ⟨p, a, b, c, e⟩ := h; ⟨p, a, b, Nat.le_trans c hk, Nat.le_trans e hm⟩
theorem Sh.all {m k : Nat} : ∀ {xs : List D}, (∀ x ∈ xs, Sh m k x) → ∃ ps, toPyRL xs = some ps ∧ ps.length = xs.length ∧ PyData.showableAll ps = true ∧ PyData.depthAll ps ≤ k ∧ (∀ t ∈ PyData.shownAll ps, t.length ≤ m) ∧ (PyData.shownAll ps).length = ps.length
  | [], _ => ⟨[], rfl, rfl, rfl, Nat.zero_le _, by simp [PyData.shownAll], rfl⟩
  | x :: xs, h => by
    obtain ⟨p, a1, a2, a3, a4⟩ := h x (.head _)
    obtain ⟨ps, b1, b2, b3, b4, b5, b6⟩ := Sh.all (xs := xs) fun q hq => h q (.tail _ hq)
    refine ⟨p :: ps, by simp [toPyRL, a1, b1], by simp [b2], by simp [PyData.showableAll, a2, b3], by simp only [PyData.depthAll]; omega, ?_, by simp [PyData.shownAll, b6]⟩
    intro t ht
    simp only [PyData.shownAll, List.mem_cons] at ht
    rcases ht with rfl | ht
    · exact a4
    · exact b5 t ht
theorem Sh.lst {m k : Nat} {xs : List D} (h : ∀ x ∈ xs, Sh m k x) : Sh (2 + xs.length * (m + 2)) (k + 1) (.lst xs) := by
  obtain ⟨ps, b1, b2, b3, b4, b5, b6⟩ := Sh.all h
  refine ⟨.list ps, by simp [toPyR, b1], by simpa [PyData.showable] using b3, by simp only [PyData.depth]; omega, ?_⟩
  have e1 : Str.length "[" = 1 := by decide +kernel
  have e2 : Str.length "]" = 1 := by decide +kernel
  have := textFrom_le m (PyData.shownAll ps) 0 "[" b5
  simp only [PyData.shown, listText, Str.length_append, e2]
  rw [b6, b2, e1] at this
  omega
theorem Sh.repr {m k : Nat} {d : D} (h : Sh m k d) (hm : m ≤ big) (hk : k ≤ 60) : ∃ z, reprR [d] = some (.str z) := by
  obtain ⟨p, a, b, c, e⟩ := h
  refine ⟨p.shown, ?_⟩
  unfold reprR
  simp only [a, Option.bind_some]
  rw [if_pos ⟨b, Nat.le_trans c hk, Nat.le_trans e hm⟩]
theorem eq_str (z : Str) : eqB (.str z) (.str z) = some true := by simp [eqB, toPy, PyData.depth, PyData.eqv]
theorem ne_same (z : Str) : neB (.str z) (.str z) = some false := by rw [ne_strs]; simp
theorem Pen.one {n : Nat} {L : LS} (p : Pen n L) : ∃ lo, L = [lo] := by
  have := p.len
  match L, this with
  | [lo], _ => exact ⟨lo, rfl⟩
theorem take_len {α : Type} (L : List α) : List.take L.length L = L := List.take_length
def fnEnd (n0 : Nat) (r : Rt) : Rs U := match r with
  | .nx _ L' => .ok (.d .non) (L'.take n0)
  | .rt u L' => outR n0 u L'
  | .ex C ns xs _ L' => .ex C ns xs (L'.take n0)
  | _ => .no
end VL

set_option Elab.async false
set_option linter.all false
set_option maxRecDepth 100000
set_option maxHeartbeats 4000000
namespace VL
open PySem PySem.Spec PyProof.Rows L2 RZ
open PySem.W (Frag)
/-! ### words for own operators -/
def ownOp (C : Addr) (m : FF) (x y : U) (L : LS) : Rs U := opt (rdU L y) fun d => match d with
  | .ins C' _ _ => if C' = C then own2 C m x y L else .no
  | _ => .no
def ownCmp (C : Addr) (m : FF) (ts : List Value) (x y : U) (L : LS) : Rs U := opt (rdU L y) fun d => opt (tyD d) fun t => if t ∈ ts then own2 C m x y L else .no
def ownNe (C : Addr) (m : FF) (ts : List Value) (x y : U) (L : LS) : Rs U := opt (rdU L y) fun d => opt (tyD d) fun t => if t ∈ ts then notU (own2 C m x y L) else .no
def ownIn (C : Addr) (m : FF) (neg : Bool) (x y : U) (L : LS) : Rs U := own2 C (fun us L => truU (m us L) neg) y x L
section
variable {K : Frag} {F : Addr → Prop} {ρ : Nat → Addr} {H : Hp} {L : LS}
/-- a tuple is always at rest -/
theorem tup_rest (o : Ok K F ρ H L) {u : U} {v : V} {xs : List D} (p : RepU K F ρ H L u v) (e : rdU L u = some (.tup xs)) : ∃ a vs, v = .ref a ∧ TpAt K F H a vs ∧ RepL K F H xs vs := by
  cases u with
  | d x => cases e; exact p
  | l n =>
    obtain ⟨hn, rfl⟩ := p
    cases q : L[n]? with
    | none => simp [rdU, q] at e
    | some lo =>
      simp [rdU, q] at e
      have h := o.at_ n lo q
      cases lo with
      | l xs => cases e
      | d ks xs => cases e
      | t ks xs => cases e
      | i C ns xs => cases e
      | z dd => cases e; exact h
end
section
variable {X : Cx} {W : WX} {a b c e o : Expr} {fa fb fc fe fo : EF} {pos : Pos} {es : List Expr} {f : AF}
/-! ### tuples -/
def taddU (x y : U) (L : LS) : Rs U := opt (rdU L x) fun dx => opt (rdU L y) fun dy => match dx, dy with
  | .tup xs, .tup ys => if xs.length + ys.length ≤ big then .ok (.d (.tup (xs ++ ys))) L else .no
  | _, _ => .no
theorem op_tadd : Op2U X W (binaryOp .Add) taddU := by
  intro pins s σ H x y v u Q F ρ L ux uy I o px py rx ry h
  obtain ⟨dx, e1, h1⟩ := h.opt
  obtain ⟨dy, e2, h2⟩ := h1.opt
  clear h h1
  split at h2
  · rename_i xs ys
    obtain ⟨hz, h2⟩ := ge_if h2
    obtain ⟨p, vs, rfl, g1, q1⟩ := tup_rest o px e1
    obtain ⟨p2, vs2, rfl, g2, q2⟩ := tup_rest o py e2
    refine op_catA pins s σ H _ _ v u Q I rx ry ⟨p, p2, vs, vs2, rfl, rfl, g1.sq, g2.sq, by rw [big_eq, q1.length, q2.length]; exact hz, fun hx => ?_, fun _ hy => ?_, fun _ _ t ht => ?_⟩
    · have : xs = [] := List.length_eq_zero_iff.mp (by rw [← q1.length, hx]; rfl)
      subst this
      exact h2 F ρ H _ Step.refl o ⟨p2, vs2, rfl, g2, q2⟩
    · have : ys = [] := List.length_eq_zero_iff.mp (by rw [← q2.length, hy]; rfl)
      subst this
      rw [List.append_nil] at h2
      exact h2 F ρ H _ Step.refl o ⟨p, vs, rfl, g1, q1⟩
    · obtain ⟨s3, o3⟩ := new_ok o ht (.tup (vs ++ vs2))
      exact h2 _ _ _ _ s3 o3 (new_tup o ht (q1.append q2))
  · exact h2.elim
/-- (x, ..) * k -/
def tmulU (x y : U) (L : LS) : Rs U := opt (rdU L x) fun dx => opt (rdU L y) fun dy => match dx, dy with
  | .tup xs, .int k => if xs ≠ [] ∧ 2 ≤ k ∧ k ≤ 1000 ∧ xs.length ≤ 1000 then .ok (.d (.tup (List.replicate k.toNat xs).flatten)) L else .no
  | _, _ => .no
theorem op_tmul : Op2U X W (binaryOp .Mult) tmulU := by
  intro pins s σ H x y v u Q F ρ L ux uy I o px py rx ry h
  obtain ⟨dx, e1, h1⟩ := h.opt
  obtain ⟨dy, e2, h2⟩ := h1.opt
  clear h h1
  split at h2
  · rename_i xs k
    obtain ⟨hz, h2⟩ := ge_if h2
    obtain ⟨p, vs, rfl, g1, q1⟩ := tup_rest o px e1
    obtain rfl : y = .int k := rdr_of o py e2
    refine op_repT pins s σ H _ _ v u Q I rx ry ⟨p, k, vs, rfl, rfl, g1.sq, fun z => hz.1 (List.length_eq_zero_iff.mp (by rw [← q1.length, z]; rfl)), hz.2.1, hz.2.2.1, by rw [q1.length]; exact hz.2.2.2, fun t ht => ?_⟩
    obtain ⟨s3, o3⟩ := new_ok o ht (.tup (List.replicate k.toNat vs).flatten)
    exact h2 _ _ _ _ s3 o3 (new_tup o ht (q1.rep k.toNat))
  · exact h2.elim
/-! ### xs[::-1] -/
def eRev (fa : EF) : EF := fun st L => (fa st L).bind fun x L1 => opt (rdU L1 x) fun d => match d with
  | .lst xs => .ok (.d (.lst xs.reverse)) L1
  | _ => .no
theorem ke_rev {k : Nat} {p1 p2 p3 : Pos} (ha : KE X W a fa) : KE X W (.Subscript a (.Slice none none (some (.UnaryOp .USub (.Constant (.int 1) k p1) p2)) p3) pos) (eRev fa) := by
  refine pe_wk (pe_revL ha) fun σ H Q ⟨F, ρ, L, st, o, r, h⟩ => ?_
  refine RG.one o r h fun x H1 F1 ρ1 L1 u s1 o1 r1 p1 h1 => ?_
  obtain ⟨d, e, h2⟩ := h1.opt
  clear h1
  split at h2
  · rename_i xs
    obtain ⟨p, vs, rfl, g, q⟩ := (show ∃ a vs, x = .ref a ∧ H1 a = some (.lst vs) ∧ RepL X.K F1 H1 xs vs from rdr_of o1 p1 e)
    refine ⟨p, vs, rfl, .inl (.inl g), fun t ht => ?_⟩
    obtain ⟨s3, o3⟩ := new_ok o1 ht (.lst vs.reverse)
    exact h2 _ _ _ _ s3 o3 (new_lst o1 ht (RepL.rev q))
  · exact h2.elim
/-! ### max, min -/
def maxI : Int → List Int → Int
  | m, [] => m
  | m, x :: xs => maxI (if x > m then x else m) xs
def maxD : List D → Option D
  | [.int i, .int j] => some (.int (if j > i then j else i))
  | _ => none
def minD : List D → Option D
  | [.int i, .int j] => some (.int (if j < i then j else i))
  | _ => none
theorem cd_max (hc : X.calm = true) : CallR X (.builtin "max") (rDn X.K maxD) := by
  refine CallR.toD (call_max2 hc) fun F ρ L H ds d xs Q o r e k => ?_
  unfold maxD at e
  split at e
  · obtain ⟨v, w, rfl, h1, h2⟩ := two_of r
    cases e
    cases h1; cases h2
    exact ⟨_, _, rfl, k F H _ Step.refl o rfl⟩
  · cases e
theorem cd_min (hc : X.calm = true) : CallR X (.builtin "min") (rDn X.K minD) := by
  refine CallR.toD (call_min2 hc) fun F ρ L H ds d xs Q o r e k => ?_
  unfold minD at e
  split at e
  · obtain ⟨v, w, rfl, h1, h2⟩ := two_of r
    cases e
    cases h1; cases h2
    exact ⟨_, _, rfl, k F H _ Step.refl o rfl⟩
  · cases e
/-! ### a, b, c = x, y, z -/
def sPar3 (i j l : Nat) (fa : AF) : SF := fun st L => ofR (fa st L) st fun us L1 => match us with
  | [u, v, w] => .nx (((st.set i (some u)).set j (some v)).set l (some w)) L1
  | _ => .no
theorem ks_par3 (i j l : Nat) {x y z : Str} {fa : AF} {px py pz pt : Pos} {kt k2 pt2} (hN : X.N.Nodup) (ha : KA X W [a, b, c] fa) (hi : X.N[i]? = some x := by rfl) (hj : X.N[j]? = some y := by rfl) (hl : X.N[l]? = some z := by rfl) (hij : i ≠ j := by decide) (hil : i ≠ l := by decide) (hjl : j ≠ l := by decide)
    (hx : X.env.scope.names.lookup x = some .local := by rfl) (hy : X.env.scope.names.lookup y = some .local := by rfl) (hz : X.env.scope.names.lookup z = some .local := by rfl) (hc : X.calm = true := by rfl)
    (hw : swappedStores [.Tuple [.Name x px, .Name y py, .Name z pz] kt pt] (.Tuple [a, b, c] k2 pt2) X.env = pure (some [x, y, z]) := by rfl)
    (hs : swapsWithSole [.Tuple [.Name x px, .Name y py, .Name z pz] kt pt] (.Tuple [a, b, c] k2 pt2) pos.line X.env = pure false := by rfl) :
    KS X W (.Assign [.Tuple [.Name x px, .Name y py, .Name z pz] kt pt] (.Tuple [a, b, c] k2 pt2) pos) (sPar3 i j l fa) := by
  refine ps_wk (ps_par3 hc hN hi hj hl hij hil hjl hx hy hz ha hw hs) fun D σ H ⟨F, ρ, L, st, o, r, h⟩ => ?_
  refine RS.one (P := RepUs) o r h fun vs H1 F1 ρ1 L1 us s1 o1 r1 p1 h1 => ?_
  split at h1
  · rename_i u v w
    obtain ⟨v1, t1, rfl, q1, v2, t2, rfl, q2, v3, t3, rfl, q3, e⟩ := p1
    cases e
    exact ⟨v1, v2, v3, rfl, h1.nxt o1 (((r1.set i q1).set j q2).set l q3)⟩
  · exact h1.elim
/-! ### what is walked: range with a step of -1, zip, enumerate -/
def downD (hi : Int) (n : Nat) : List D := (List.range n).map fun (i : Nat) => .int (hi + (i : Nat) * (-1))
def iRng3 (f : AF) : IF := fun st L => (f st L).bind fun us L1 => match us with
  | [.d (.int i), .d (.int j), .d (.int c)] => if c = -1 ∧ inRng i = true ∧ inRng j = true then .ok (downD i (i - j).toNat) L1 else .no
  | _ => .no
theorem itb_down {K : Frag} {F : Addr → Prop} {ρ : Nat → Addr} {H : Hp} {L : LS} (lo : Int) (n : Nat) : Itb K (Itc lo (-1) n) (downD lo n) F ρ H L := by
  intro F1 ρ1 H1 L1 s o i
  refine ⟨fun d e => ?_, fun hi => by show n ≤ i; simpa [downD] using hi⟩
  have hi : i < n := by
    have := (List.getElem?_eq_some_iff.mp e).1
    simpa [downD] using this
  have e2 : d = .int (lo + (i : Nat) * (-1)) := by
    simp [downD, hi] at e
    rw [← e]
    congr 1
    omega
  subst e2
  refine ⟨hi, fun x H2 y => ?_⟩
  obtain ⟨rfl, rfl⟩ := y
  exact ⟨F1, Step.refl, o, rfl⟩
theorem ki_range3 {tg : Expr} {p : Pos} (hm : X.mg "range" = none) (ha : KA X W [a, b, c] f) (hg : Gl X "range" := by rfl) (hs : starEach [a, b, c] X.env = (false, eval a X.env) :: starEach [b, c] X.env := by rfl) (hpl : (backTo pos (starEach [b, c] X.env)).any (·.1) = false := by rfl) :
    KI X W tg (.Call (.Name "range" p) [a, b, c] [] pos) (iRng3 f) := by
  refine pi_wk (pi_range3 hg hm ha hs hpl) fun σ H R ⟨F, ρ, L, st, o, r, h⟩ => ?_
  refine RG.one (P := RepUs) o r h fun vs H1 F1 ρ1 L1 us s1 o1 r1 p1 h1 => ?_
  split at h1
  · rename_i i j c
    obtain ⟨hc, g1⟩ := ge_if h1
    clear h1
    obtain ⟨rfl, h2, h3⟩ := hc
    obtain ⟨v1, _, rfl, rfl, v2, _, rfl, rfl, v3, _, rfl, rfl, rfl⟩ := p1
    have a1 := inRng_of h2
    have a2 := inRng_of h3
    exact ⟨i, j, -1, _, rfl, RgC.neg a1.1 a1.2 a2.1 a2.2, g1 F1 ρ1 H1 _ Step.refl o1 (itb_down i _)⟩
  · exact h1.elim
def zipD : List D → List D → List D
  | x :: xs, y :: ys => .tup [x, y] :: zipD xs ys
  | _, _ => []
theorem zipD_get : ∀ {xs ys : List D} {i : Nat} {d : D}, (zipD xs ys)[i]? = some d → ∃ x y, xs[i]? = some x ∧ ys[i]? = some y ∧ d = .tup [x, y]
  | [], _, _, _, e => by simp [zipD] at e
  | _ :: _, [], _, _, e => by simp [zipD] at e
  | x :: xs, y :: ys, 0, d, e => by simp [zipD] at e; exact ⟨x, y, rfl, rfl, e.symm⟩
  | x :: xs, y :: ys, i + 1, d, e => by
    simp only [zipD, List.getElem?_cons_succ] at e ⊢
    exact zipD_get (xs := xs) (ys := ys) (i := i) e
theorem zipD_len : ∀ {xs ys : List D}, (zipD xs ys).length = min xs.length ys.length
  | [], _ => by simp [zipD]
  | _ :: _, [] => by simp [zipD]
  | x :: xs, y :: ys => by simp [zipD, zipD_len (xs := xs) (ys := ys)]
theorem itb_zip {K : Frag} {F : Addr → Prop} {ρ : Nat → Addr} {H : Hp} {L : LS} {a b : Addr} {vs ws : List V} {xs ys : List D} (fa : F a) (fb : F b) (ha : H a = some (.lst vs)) (hb : H b = some (.lst ws)) (r1 : RepL K F H xs vs) (r2 : RepL K F H ys ws) : Itb K (Itz K a b) (zipD xs ys) F ρ H L := by
  intro F1 ρ1 H1 L1 s o i
  have h1 : SqL K H1 a vs := .inl (.inl ((s.fz a fa).2.trans ha))
  have h2 : SqL K H1 b ws := .inl (.inl ((s.fz b fb).2.trans hb))
  refine ⟨fun d e => ?_, fun hi => ⟨vs, ws, h1, h2, ?_⟩⟩
  · obtain ⟨x, y, e1, e2, rfl⟩ := zipD_get e
    obtain ⟨v, f1, q1⟩ := r1.get e1
    obtain ⟨w, f2, q2⟩ := r2.get e2
    refine ⟨⟨vs, ws, v, w, h1, h2, f1, f2⟩, fun z H2 yl => ?_⟩
    obtain ⟨T, x', y', rfl, hT, rfl, g1, g2⟩ := yl
    have z1 := g1 vs h1
    have z2 := g2 ws h2
    rw [f1] at z1; rw [f2] at z2
    cases z1; cases z2
    obtain ⟨s3, o3⟩ := new_ok o hT (.tup [v, w])
    exact ⟨_, s3, o3, new_tup o hT (xs := [x, y]) ⟨v, [w], rfl, Rep.mono s.fz x q1, w, [], rfl, Rep.mono s.fz y q2, rfl⟩⟩
  · rw [zipD_len] at hi
    rw [r1.length, r2.length]
    omega
theorem itb_zipT {K : Frag} {F : Addr → Prop} {ρ : Nat → Addr} {H : Hp} {L : LS} {a b : Addr} {vs ws : List V} {xs ys : List D} (ha : TpAt K F H a vs) (hb : TpAt K F H b ws) (r1 : RepL K F H xs vs) (r2 : RepL K F H ys ws) : Itb K (ItzT K a b) (zipD xs ys) F ρ H L := by
  intro F1 ρ1 H1 L1 s o i
  have h1 : SqT K H1 a vs := (ha.mono s.fz).sq
  have h2 : SqT K H1 b ws := (hb.mono s.fz).sq
  refine ⟨fun d e => ?_, fun hi => ⟨vs, ws, h1, h2, ?_⟩⟩
  · obtain ⟨x, y, e1, e2, rfl⟩ := zipD_get e
    obtain ⟨v, f1, q1⟩ := r1.get e1
    obtain ⟨w, f2, q2⟩ := r2.get e2
    refine ⟨⟨vs, ws, v, w, h1, h2, f1, f2⟩, fun z H2 yl => ?_⟩
    obtain ⟨T, x', y', rfl, hT, rfl, g1, g2⟩ := yl
    have z1 := g1 vs h1
    have z2 := g2 ws h2
    rw [f1] at z1; rw [f2] at z2
    cases z1; cases z2
    obtain ⟨s3, o3⟩ := new_ok o hT (.tup [v, w])
    exact ⟨_, s3, o3, new_tup o hT (xs := [x, y]) ⟨v, [w], rfl, Rep.mono s.fz x q1, w, [], rfl, Rep.mono s.fz y q2, rfl⟩⟩
  · rw [zipD_len] at hi
    rw [r1.length, r2.length]
    omega
/-- zip(x, y): two lists, or two tuples; they come to rest -/
def iZip (f : AF) : IF := fun st L => (f st L).bind fun us L1 => opt (fzUs L1 us) fun p => match p.1 with
  | [.lst xs, .lst ys] => .ok (zipD xs ys) p.2
  | [.tup xs, .tup ys] => .ok (zipD xs ys) p.2
  | _ => .no
theorem ki_zip {p tpos : Pos} {elts : List Expr} {kk : Nat} (hm : X.mg "zip" = none) (ha : KA X W [a, b] f) (hg : Gl X "zip" := by rfl) (hs : starEach [a, b] X.env = (false, eval a X.env) :: starEach [b] X.env := by rfl) (hpl : (backTo pos (starEach [b] X.env)).any (·.1) = false := by rfl) :
    KI X W (.Tuple elts kk tpos) (.Call (.Name "zip" p) [a, b] [] pos) (iZip f) := by
  refine pi_wk (pi_zipA hg hm ha hs hpl) fun σ H R ⟨F, ρ, L, st, o, r, h⟩ => ?_
  refine RG.one (P := RepUs) o r h fun vs H1 F1 ρ1 L1 us s1 o1 r1 p1 h1 => ?_
  obtain ⟨⟨ds, L2⟩, e1, h1⟩ := h1.opt
  obtain ⟨F2, s2, o2, q2⟩ := fzUs_ok o1 p1 e1
  dsimp only at h1
  split at h1
  · rename_i xs ys
    obtain ⟨v1, _, rfl, ⟨a1, ws1, rfl, l1, q1⟩, v2, _, rfl, ⟨a2, ws2, rfl, l2, q2'⟩, rfl⟩ := q2
    exact ⟨a1, a2, ws1, ws2, rfl, .inl ⟨.inl (.inl l1.2), .inl (.inl l2.2), h1 F2 ρ1 H1 _ s2 o2 (itb_zip l1.1 l2.1 l1.2 l2.2 q1 q2')⟩⟩
  · rename_i xs ys
    obtain ⟨v1, _, rfl, ⟨a1, ws1, rfl, l1, q1⟩, v2, _, rfl, ⟨a2, ws2, rfl, l2, q2'⟩, rfl⟩ := q2
    exact ⟨a1, a2, ws1, ws2, rfl, .inr ⟨l1.sq, l2.sq, h1 F2 ρ1 H1 _ s2 o2 (itb_zipT l1 l2 q1 q2')⟩⟩
  · exact h1.elim
end
end VL

set_option Elab.async false
set_option linter.all false
set_option maxRecDepth 100000
set_option maxHeartbeats 4000000
namespace VL
open PySem PySem.Spec PyProof.Rows L2 RZ
open PySem.W (Frag)
/-! ### iterators of lists (true) and of tuples (false) -/
def IsIt (b : Bool) (h : Heap) (it a : Addr) (i : Nat) : Prop := match b with
  | true => h.IsListIter it a i
  | false => h.IsTupleIter it a i
def IsSq (b : Bool) (h : Heap) (a : Addr) (xs : Array Value) : Prop := match b with
  | true => h.IsList a xs
  | false => h.IsTuple a xs
section
variable {b : Bool} {h h' : Heap} {it a z : Addr} {i : Nat} {xs : Array Value}
theorem IsIt.ext (x : IsIt b h it a i) (s : Heap.ExtBut z h h') (n : it ≠ z) : IsIt b h' it a i := by
  cases b
  · exact Heap.IsTupleIter.extBut x s n
  · exact Heap.IsListIter.extBut x s n
theorem IsSq.ext (x : IsSq b h a xs) (s : Heap.ExtBut z h h') (n : a ≠ z) : IsSq b h' a xs := by
  cases b
  · exact Heap.IsTuple.extBut x s n
  · exact Heap.IsList.extBut x s n
theorem IsIt.mv (x : IsIt b h it a i) (e : ∀ o, h.get? it = some o → h'.get? it = some o) : IsIt b h' it a i := by
  cases b
  · exact Heap.IsTupleIter.at x e
  · exact Heap.IsListIter.at x e
theorem IsIt.obj (x : IsIt b h it a i) : ∃ o, h.get? it = some o ∧ ∀ v, o.data ≠ .cell v := by
  cases b
  · obtain ⟨o, e, _, d⟩ := (x : h.IsTupleIter it a i)
    exact ⟨o, e, fun v q => by rw [d] at q; cases q⟩
  · obtain ⟨o, e, _, d⟩ := (x : h.IsListIter it a i)
    exact ⟨o, e, fun v q => by rw [d] at q; cases q⟩
theorem IsIt.lt (x : IsIt b h it a i) : it < h.objs.size := let ⟨_, e, _⟩ := x.obj; Heap.lt_size e
theorem IsSq.lt (x : IsSq b h a xs) : a < h.objs.size := by
  cases b
  · obtain ⟨o, e, _⟩ := (x : h.IsTuple a xs)
    exact Heap.lt_size e
  · obtain ⟨o, e, _⟩ := (x : h.IsList a xs)
    exact Heap.lt_size e
end
section
variable {prog : Program} {w : World} {A : Around} {E : Value → Shared → Prop} {s : Shared}
theorem nx_item {b : Bool} {it a : Addr} {i : Nat} {xs : Array Value} {x : Value} {Q : Value → Shared → Prop} (hi : IsIt b s.heap it a i) (hs : IsSq b s.heap a xs) (hx : xs[i]? = some x)
    (k : ∀ h', IsIt b h' it a (i + 1) → Heap.SameBut it s.heap h' → Q x { s with heap := h' }) : wpAny (model prog w) A (Builtin.SmallTypes.nextOf (.ref it)) Q E s := by
  cases b
  · exact nextOf_tuple_item hi hs hx k
  · exact wpAny_nextOf_list_item hi hs hx k
theorem nx_end {b : Bool} {it a : Addr} {i : Nat} {xs : Array Value} {Q : Value → Shared → Prop} (hh : A.handled = none) (hi : IsIt b s.heap it a i) (hs : IsSq b s.heap a xs) (hx : xs[i]? = none)
    (k : ∀ h' e, Heap.ExtBut it s.heap h' → (∃ o, h'.get? e = some o ∧ o.cls = .type "StopIteration") → E (.ref e) { s with heap := h' }) : wpAny (model prog w) A (Builtin.SmallTypes.nextOf (.ref it)) Q E s := by
  cases b
  · exact nextOf_tuple_end hh hi hs hx k
  · exact wpAny_nextOf_list_end hh hi hs hx k
/-! ### zip over any two of them: its own tuple is free -/
theorem zg_item {zo ti tu p q la lb : Addr} {ba bb : Bool} {m n : Nat} {xs ys : Array Value} {x y u v : Value} {Q : Value → Shared → Prop} (Z : ZipApart zo ti tu p q la lb)
    (g0 : IsZip s.heap zo ti tu .none) (g1 : IsPair s.heap ti (.ref p) (.ref q)) (g2 : IsPair s.heap tu u v) (g3 : IsIt ba s.heap p la m) (g4 : IsIt bb s.heap q lb n) (g5 : IsSq ba s.heap la xs) (g6 : IsSq bb s.heap lb ys) (g7 : xs[m]? = some x) (g8 : ys[n]? = some y)
    (k : ∀ h', IsZip h' zo ti tu (rawInt s.heap.objs.size) → IsPair h' tu x y → IsIt ba h' p la (m + 1) → IsIt bb h' q lb (n + 1) → IsPair h' s.heap.objs.size x y → h'.objs.size = s.heap.objs.size + 1 → (∀ c o, c ≠ zo → c ≠ tu → c ≠ p → c ≠ q → s.heap.get? c = some o → h'.get? c = some o) → Q (.ref s.heap.objs.size) { s with heap := h' }) :
    wpAny (model prog w) A (Builtin.«zip.__next__» ⟨[.ref zo], []⟩) (fun fin s' => ∃ r, fin = .done (.ret r) ∧ Q r s') E s := by
  show wpAny _ _ (field (.ref zo) 2 >>= _) _ _ _
  refine wpAny_bind (wpAny_field g0 rfl (x := .bool false) rfl ?_)
  show wpAny _ _ (field (.ref zo) 3 >>= _) _ _ _
  refine wpAny_bind (wpAny_field g0 rfl (x := .ref ti) rfl (wpAny_bind (wpAny_seqItems g1 rfl ?_)))
  show wpAny _ _ (Builtin.SmallTypes.ownedTupleIsFree (.ref zo) >>= _) _ _ _
  refine wpAny_bind ?_
  unfold Builtin.SmallTypes.ownedTupleIsFree
  refine wpAny_bind (wpAny_field g0 rfl (x := .none) rfl (wpAny_pure ?_)); simp only [if_true]
  refine wpAny_bind (wpAny_rule (wpAny_bind (wpAny_field g0 rfl (x := .ref tu) rfl ?_)))
  refine wpAny_bind (wpAny_setField_rec g0 (by simp) fun e1 z1 d1 => wpAny_bind ?_); replace z1 : IsZip e1 zo ti tu .ellipsis := z1
  simp only [List.zipIdx_cons, List.zipIdx_nil, List.forIn_cons, List.forIn_nil]; refine wpAny_bind (wpAny_bind (wpAny_onRaise ?_))
  show wpAny _ _ (Builtin.SmallTypes.nextOf (.ref p) >>= _) _ _ _
  refine wpAny_bind (nx_item (s := { s with heap := e1 }) (g3.ext d1.extBut Z.i1z) (g5.ext d1.extBut Z.l1z) g7 fun e2 j1 d2 => wpAny_pure ?_)
  have t2 : IsPair e2 tu u v := d2.extBut _ _ Z.TOi1 (d1.extBut _ _ Z.TOz g2)
  refine wpAny_bind (wpAny_seqItems t2 rfl (wpAny_bind (wpAny_updateSeq_pair t2 fun e3 t3 d3 => ?_))); replace t3 : IsPair e3 tu x v := t3
  refine wpAny_bind (wpAny_letGo (wpAny_pure (wpAny_bind (wpAny_bind (wpAny_onRaise ?_)))))
  show wpAny _ _ (Builtin.SmallTypes.nextOf (.ref q) >>= _) _ _ _
  refine wpAny_bind (nx_item (s := { s with heap := e3 }) (((g4.ext d1.extBut Z.i2z).ext d2.extBut Z.i12.symm).ext d3.extBut Z.TOi2.symm) (((g6.ext d1.extBut Z.l2z).ext d2.extBut Z.l2i1).ext d3.extBut Z.l2TO) g8 fun e4 j2 d4 => wpAny_pure ?_)
  have t4 : IsPair e4 tu x v := d4.extBut _ _ Z.TOi2 t3
  refine wpAny_bind (wpAny_seqItems t4 rfl (wpAny_bind (wpAny_updateSeq_pair t4 fun e5 t5 d5 => ?_))); replace t5 : IsPair e5 tu x y := t5
  refine wpAny_bind (wpAny_letGo (wpAny_pure (wpAny_pure (wpAny_bind (wpAny_seqItems t5 rfl (wpAny_bind (wpAny_newTuple ?_)))))))
  have zs : e5.objs.size = s.heap.objs.size := by rw [d5.1, d4.1, d3.1, d2.1, d1.1]
  have z5 : IsZip e5 zo ti tu .ellipsis := d5.extBut _ _ Z.TOz.symm (d4.extBut _ _ Z.i2z.symm (d3.extBut _ _ Z.TOz.symm (d2.extBut _ _ Z.i1z.symm z1)))
  have k5 : ∀ c o, c ≠ zo → c ≠ tu → c ≠ p → c ≠ q → s.heap.get? c = some o → e5.get? c = some o := fun c o n1 n2 n3 n4 e => d5.extBut _ _ n2 (d4.extBut _ _ n4 (d3.extBut _ _ n2 (d2.extBut _ _ n3 (d1.extBut _ _ n1 e))))
  have a5 : IsIt ba e5 p la (m + 1) := ((j1.ext d3.extBut Z.TOi1.symm).ext d4.extBut Z.i12).ext d5.extBut Z.TOi1.symm
  have b5 : IsIt bb e5 q lb (n + 1) := j2.ext d5.extBut Z.TOi2.symm
  have lz : zo < e5.objs.size := Heap.lt_size z5
  show wpAny _ _ (Builtin.SmallTypes.ownedTupleHandOut (.ref zo) (.ref e5.objs.size) >>= _) _ _ _
  refine wpAny_bind ?_
  unfold Builtin.SmallTypes.ownedTupleHandOut
  have z6 : IsZip (e5.push { cls := .type "tuple", data := .seq #[x, y] }) zo ti tu .ellipsis := Heap.get?_push_of_some _ z5
  refine wpAny_bind (wpAny_setField_rec z6 (by simp) fun e7 z7 d7 => ?_); replace z7 : IsZip e7 zo ti tu (rawInt e5.objs.size) := z7
  refine wpAny_setField_rec z7 (by simp) fun e8 z8 d8 => ?_; replace z8 : IsZip e8 zo ti tu (rawInt e5.objs.size) := z8
  have up : ∀ c o, c ≠ zo → e5.get? c = some o → e8.get? c = some o := fun c o n1 e => d8.extBut _ _ n1 (d7.extBut _ _ n1 (Heap.get?_push_of_some _ e))
  have t8 : IsPair e8 e5.objs.size x y := d8.extBut _ _ (Nat.ne_of_gt lz) (d7.extBut _ _ (Nat.ne_of_gt lz) (Heap.get?_push_size _ rfl))
  have s8 : e8.objs.size = e5.objs.size + 1 := by rw [d8.1, d7.1, Heap.size_push]
  rw [zs] at z8 t8 s8
  refine wpAny_pure ⟨_, rfl, ?_⟩; show Q (.ref e5.objs.size) _; rw [zs]
  exact k e8 z8 (up _ _ Z.TOz t5) (a5.mv fun o e => up _ o Z.i1z e) (b5.mv fun o e => up _ o Z.i2z e) t8 s8 fun c o n1 n2 n3 n4 e => up c o n1 (k5 c o n1 n2 n3 n4 e)
theorem zg_end {zo ti tu p q la lb : Addr} {ba bb : Bool} {m n : Nat} {xs ys : Array Value} {u v : Value} {Q : Fin → Shared → Prop} (hh : A.handled = none) (Z : ZipApart zo ti tu p q la lb)
    (g0 : IsZip s.heap zo ti tu .none) (g1 : IsPair s.heap ti (.ref p) (.ref q)) (g2 : IsPair s.heap tu u v) (g3 : IsIt ba s.heap p la m) (g4 : IsIt bb s.heap q lb n) (g5 : IsSq ba s.heap la xs) (g6 : IsSq bb s.heap lb ys) (ge : xs[m]? = none ∨ ys[n]? = none)
    (k : ∀ h' e, (∀ c o, c ≠ zo → c ≠ tu → c ≠ p → c ≠ q → s.heap.get? c = some o → h'.get? c = some o) → (∃ o, h'.get? e = some o ∧ o.cls = .type "StopIteration") → E (.ref e) { s with heap := h' }) :
    wpAny (model prog w) A (Builtin.«zip.__next__» ⟨[.ref zo], []⟩) Q E s := by
  show wpAny _ _ (field (.ref zo) 2 >>= _) _ _ _
  refine wpAny_bind (wpAny_field g0 rfl (x := .bool false) rfl ?_)
  show wpAny _ _ (field (.ref zo) 3 >>= _) _ _ _
  refine wpAny_bind (wpAny_field g0 rfl (x := .ref ti) rfl (wpAny_bind (wpAny_seqItems g1 rfl ?_)))
  show wpAny _ _ (Builtin.SmallTypes.ownedTupleIsFree (.ref zo) >>= _) _ _ _
  refine wpAny_bind ?_
  unfold Builtin.SmallTypes.ownedTupleIsFree
  refine wpAny_bind (wpAny_field g0 rfl (x := .none) rfl (wpAny_pure ?_)); simp only [if_true]
  refine wpAny_bind (wpAny_rule (wpAny_bind (wpAny_field g0 rfl (x := .ref tu) rfl ?_)))
  refine wpAny_bind (wpAny_setField_rec g0 (by simp) fun e1 z1 d1 => wpAny_bind ?_); replace z1 : IsZip e1 zo ti tu .ellipsis := z1
  simp only [List.zipIdx_cons, List.zipIdx_nil, List.forIn_cons, List.forIn_nil]; refine wpAny_bind (wpAny_bind (wpAny_onRaise ?_))
  show wpAny _ _ (Builtin.SmallTypes.nextOf (.ref p) >>= _) _ _ _
  cases hx : xs[m]? with
  | none =>
    refine wpAny_bind (nx_end (s := { s with heap := e1 }) hh (g3.ext d1.extBut Z.i1z) (g5.ext d1.extBut Z.l1z) hx fun e2 e d2 he => ?_)
    obtain ⟨oe, w1, w2⟩ := he
    have z2 : IsZip e2 zo ti tu .ellipsis := d2 _ _ Z.i1z.symm z1
    have ne : e ≠ zo := fun x => by subst x; rw [z2] at w1; cases w1; simp at w2
    refine wpAny_setField_rec z2 (by simp) fun e3 _ d3 => k e3 e (fun c o n1 _ n3 _ x => d3.extBut _ _ n1 (d2 _ _ n3 (d1.extBut _ _ n1 x))) ⟨oe, d3.extBut _ _ ne w1, w2⟩
  | some x =>
    have hy : ys[n]? = none := by rcases ge with h | h; rw [hx] at h; cases h; exact h
    refine wpAny_bind (nx_item (s := { s with heap := e1 }) (g3.ext d1.extBut Z.i1z) (g5.ext d1.extBut Z.l1z) hx fun e2 j1 d2 => wpAny_pure ?_)
    have t2 : IsPair e2 tu u v := d2.extBut _ _ Z.TOi1 (d1.extBut _ _ Z.TOz g2)
    refine wpAny_bind (wpAny_seqItems t2 rfl (wpAny_bind (wpAny_updateSeq_pair t2 fun e3 t3 d3 => ?_)))
    refine wpAny_bind (wpAny_letGo (wpAny_pure (wpAny_bind (wpAny_bind (wpAny_onRaise ?_)))))
    show wpAny _ _ (Builtin.SmallTypes.nextOf (.ref q) >>= _) _ _ _
    refine wpAny_bind (nx_end (s := { s with heap := e3 }) hh (((g4.ext d1.extBut Z.i2z).ext d2.extBut Z.i12.symm).ext d3.extBut Z.TOi2.symm) (((g6.ext d1.extBut Z.l2z).ext d2.extBut Z.l2i1).ext d3.extBut Z.l2TO) hy fun e4 e d4 he => ?_)
    obtain ⟨oe, w1, w2⟩ := he
    have z4 : IsZip e4 zo ti tu .ellipsis := d4 _ _ Z.i2z.symm (d3.extBut _ _ Z.TOz.symm (d2.extBut _ _ Z.i1z.symm z1))
    have ne : e ≠ zo := fun x => by subst x; rw [z4] at w1; cases w1; simp at w2
    refine wpAny_setField_rec z4 (by simp) fun e5 _ d5 => k e5 e (fun c o n1 n2 n3 n4 x => d5.extBut _ _ n1 (d4 _ _ n4 (d3.extBut _ _ n2 (d2.extBut _ _ n3 (d1.extBut _ _ n1 x))))) ⟨oe, d5.extBut _ _ ne w1, w2⟩
/-- its own tuple is held -/
theorem zh_item {zo ti tu t p q la lb : Addr} {f : Bool} {ot : Obj} {ba bb : Bool} {m n : Nat} {xs ys : Array Value} {x y : Value} {Q : Value → Shared → Prop} (Z : ZipApart zo ti tu p q la lb)
    (g0 : IsZipHeld s.heap zo ti tu t f) (gt : s.heap.get? t = some ot) (g1 : IsPair s.heap ti (.ref p) (.ref q)) (g3 : IsIt ba s.heap p la m) (g4 : IsIt bb s.heap q lb n) (g5 : IsSq ba s.heap la xs) (g6 : IsSq bb s.heap lb ys) (g7 : xs[m]? = some x) (g8 : ys[n]? = some y)
    (k : ∀ h', IsZipHeld h' zo ti tu t true → IsIt ba h' p la (m + 1) → IsIt bb h' q lb (n + 1) → IsPair h' s.heap.objs.size x y → h'.objs.size = s.heap.objs.size + 1 → (∀ c o, c ≠ zo → c ≠ p → c ≠ q → s.heap.get? c = some o → h'.get? c = some o) → Q (.ref s.heap.objs.size) { s with heap := h' }) :
    wpAny (model prog w) A (Builtin.«zip.__next__» ⟨[.ref zo], []⟩) (fun fin s' => ∃ r, fin = .done (.ret r) ∧ Q r s') E s := by
  show wpAny _ _ (field (.ref zo) 2 >>= _) _ _ _
  refine wpAny_bind (wpAny_field g0 rfl (x := .bool false) rfl ?_)
  show wpAny _ _ (field (.ref zo) 3 >>= _) _ _ _
  refine wpAny_bind (wpAny_field g0 rfl (x := .ref ti) rfl (wpAny_bind (wpAny_seqItems g1 rfl ?_)))
  show wpAny _ _ (Builtin.SmallTypes.ownedTupleIsFree (.ref zo) >>= _) _ _ _
  refine wpAny_bind (wpAny_tupleHeld_zip g0 gt fun e1 z1 d1 => ?_); simp only [Bool.false_eq_true, if_false]
  refine wpAny_bind ?_; rw [← Array.forIn_toList]; simp only [List.forIn_cons, List.forIn_nil]
  refine wpAny_bind (wpAny_bind (wpAny_holding ?_)); show wpAny _ _ (Builtin.SmallTypes.nextOf (.ref p) >>= _) _ _ _
  refine wpAny_bind (nx_item (s := { s with heap := e1 }) (g3.ext d1.extBut Z.i1z) (g5.ext d1.extBut Z.l1z) g7 fun e2 j1 d2 => wpAny_pure (wpAny_pure (wpAny_bind (wpAny_bind (wpAny_holding ?_)))))
  show wpAny _ _ (Builtin.SmallTypes.nextOf (.ref q) >>= _) _ _ _
  refine wpAny_bind (nx_item (s := { s with heap := e2 }) ((g4.ext d1.extBut Z.i2z).ext d2.extBut Z.i12.symm) ((g6.ext d1.extBut Z.l2z).ext d2.extBut Z.l2i1) g8 fun e3 j2 d3 => wpAny_pure (wpAny_pure (wpAny_pure ?_)))
  show wpAny _ _ (newTuple [x, y] >>= _) _ _ _
  refine wpAny_bind (wpAny_newTuple ?_)
  have zs : e3.objs.size = s.heap.objs.size := by rw [d3.1, d2.1, d1.1]
  have z3 : IsZipHeld e3 zo ti tu t true := d3.extBut _ _ Z.i2z.symm (d2.extBut _ _ Z.i1z.symm z1)
  have k3 : ∀ c o, c ≠ zo → c ≠ p → c ≠ q → s.heap.get? c = some o → e3.get? c = some o := fun c o n1 n2 n3 e => d3.extBut _ _ n3 (d2.extBut _ _ n2 (d1.extBut _ _ n1 e))
  have a3 : IsIt ba e3 p la (m + 1) := j1.ext d3.extBut Z.i12
  refine wpAny_pure ⟨_, rfl, ?_⟩; show Q (.ref e3.objs.size) _
  have hp : IsPair (e3.push { cls := .type "tuple", data := .seq #[x, y] }) e3.objs.size x y := Heap.get?_push_size _ rfl
  have s4 : (e3.push { cls := .type "tuple", data := .seq #[x, y] }).objs.size = e3.objs.size + 1 := Heap.size_push ..
  rw [zs] at hp s4 ⊢
  exact k _ (Heap.get?_push_of_some _ z3) (a3.mv fun o e => Heap.get?_push_of_some _ e) (j2.mv fun o e => Heap.get?_push_of_some _ e) hp s4 fun c o n1 n2 n3 e => Heap.get?_push_of_some _ (k3 c o n1 n2 n3 e)
theorem zh_end {zo ti tu t p q la lb : Addr} {f : Bool} {ot : Obj} {ba bb : Bool} {m n : Nat} {xs ys : Array Value} {Q : Fin → Shared → Prop} (hh : A.handled = none) (Z : ZipApart zo ti tu p q la lb)
    (g0 : IsZipHeld s.heap zo ti tu t f) (gt : s.heap.get? t = some ot) (g1 : IsPair s.heap ti (.ref p) (.ref q)) (g3 : IsIt ba s.heap p la m) (g4 : IsIt bb s.heap q lb n) (g5 : IsSq ba s.heap la xs) (g6 : IsSq bb s.heap lb ys) (ge : xs[m]? = none ∨ ys[n]? = none)
    (k : ∀ h' e, (∀ c o, c ≠ zo → c ≠ p → c ≠ q → s.heap.get? c = some o → h'.get? c = some o) → (∃ o, h'.get? e = some o ∧ o.cls = .type "StopIteration") → E (.ref e) { s with heap := h' }) :
    wpAny (model prog w) A (Builtin.«zip.__next__» ⟨[.ref zo], []⟩) Q E s := by
  show wpAny _ _ (field (.ref zo) 2 >>= _) _ _ _
  refine wpAny_bind (wpAny_field g0 rfl (x := .bool false) rfl ?_)
  show wpAny _ _ (field (.ref zo) 3 >>= _) _ _ _
  refine wpAny_bind (wpAny_field g0 rfl (x := .ref ti) rfl (wpAny_bind (wpAny_seqItems g1 rfl ?_)))
  show wpAny _ _ (Builtin.SmallTypes.ownedTupleIsFree (.ref zo) >>= _) _ _ _
  refine wpAny_bind (wpAny_tupleHeld_zip g0 gt fun e1 z1 d1 => ?_); simp only [Bool.false_eq_true, if_false]
  refine wpAny_bind ?_; rw [← Array.forIn_toList]; simp only [List.forIn_cons, List.forIn_nil]
  refine wpAny_bind (wpAny_bind (wpAny_holding ?_)); show wpAny _ _ (Builtin.SmallTypes.nextOf (.ref p) >>= _) _ _ _
  cases hx : xs[m]? with
  | none =>
    refine wpAny_bind (nx_end (s := { s with heap := e1 }) hh (g3.ext d1.extBut Z.i1z) (g5.ext d1.extBut Z.l1z) hx fun e2 e d2 he => ?_)
    exact k e2 e (fun c o n1 n2 _ x => d2 _ _ n2 (d1.extBut _ _ n1 x)) he
  | some x =>
    have hy : ys[n]? = none := by rcases ge with h | h; rw [hx] at h; cases h; exact h
    refine wpAny_bind (nx_item (s := { s with heap := e1 }) (g3.ext d1.extBut Z.i1z) (g5.ext d1.extBut Z.l1z) hx fun e2 j1 d2 => wpAny_pure (wpAny_pure (wpAny_bind (wpAny_bind (wpAny_holding ?_)))))
    show wpAny _ _ (Builtin.SmallTypes.nextOf (.ref q) >>= _) _ _ _
    refine wpAny_bind (nx_end (s := { s with heap := e2 }) hh ((g4.ext d1.extBut Z.i2z).ext d2.extBut Z.i12.symm) ((g6.ext d1.extBut Z.l2z).ext d2.extBut Z.l2i1) hy fun e3 e d3 he => ?_)
    exact k e3 e (fun c o n1 n2 n3 x => d3 _ _ n3 (d2.extBut _ _ n2 (d1.extBut _ _ n1 x))) he
/-! ### making one: whatever the two give when they are asked for iterators -/
abbrev zgA (h : Heap) (p q : Value) : Heap := h.push { cls := .type "tuple", data := .seq #[p, q] }
abbrev zgB (h : Heap) (p q : Value) : Heap := (zgA h p q).push { cls := .type "tuple", data := .seq #[.none, .none] }
abbrev zgC (h : Heap) (p q : Value) : Heap := (zgB h p q).push { cls := .type "zip", data := .fields #[.none, .bool false, .bool false, .ref h.objs.size, .ref (zgA h p q).objs.size] }
theorem newClass_zip (a b : Value) : Builtin.SmallTypes.newClass "zip" ⟨[.type "zip", a, b], []⟩ = pure (.type "zip", [a, b]) := by
  unfold Builtin.SmallTypes.newClass
  simp only [isType, sub_zip, pure_bind, Bool.not_true, Bool.false_eq_true, if_false]
theorem zg_new (x y : Value) : MeetsIn prog w (Builtin.«zip.__new__» ⟨[.type "zip", x, y], []⟩)
    (fun A R s => wpAny (model prog w) A.in1 (pyIter x) (fun p s1 => wpAny (model prog w) A.in1 (pyIter y) (fun q s2 => R (.ok (.ret (.ref (zgB s2.heap p q).objs.size))) { s2 with heap := zgC s2.heap p q }) (fun e s2 => R (.error e) s2) s1) (fun e s1 => R (.error e) s1) s) :=
  .of_wp fun A R s h => by
    unfold Builtin.«zip.__new__»
    refine wpAny_bind (wpAny_of_eq (newClass_zip _ _) ?_)
    try dsimp only
    show wpAny _ _ (Builtin.SmallTypes.iterAll [x, y] >>= _) _ _ _
    refine wpAny_bind ?_
    unfold Builtin.SmallTypes.iterAll
    refine wpAny_bind ?_
    simp only [List.forIn_cons, List.forIn_nil]
    refine wpAny_bind (wpAny_bind (wpAny_holding (wpAny_mono h (fun p s1 h1 => ?_) fun _ _ z => z)))
    refine wpAny_pure ?_
    refine wpAny_bind (wpAny_bind (wpAny_holding (wpAny_mono h1 (fun q s2 h2 => ?_) fun _ _ z => z)))
    refine wpAny_pure (wpAny_pure (wpAny_pure ?_))
    show wpAny _ _ (newTuple [p, q] >>= _) _ _ _
    refine wpAny_bind (wpAny_newTuple ?_)
    show wpAny _ _ (newTuple [.none, .none] >>= _) _ _ _
    refine wpAny_bind (wpAny_newTuple ?_)
    show wpAny _ _ (newObj (.type "zip") (.fields #[.none, .bool false, .bool false, .ref s2.heap.objs.size, .ref (zgA s2.heap p q).objs.size]) >>= _) _ _ _
    refine wpAny_bind (wpAny_newObj_type ?_)
    exact wpAny_pure ⟨_, rfl, h2⟩
theorem zg_call {x y : Value} {Q : Value → Shared → Prop}
    (hx : wpAny (model prog w) A.in1.in1 (pyIter x) (fun p s1 => wpAny (model prog w) A.in1.in1 (pyIter y) (fun q s2 => ∀ h', IsZip h' (s2.heap.objs.size + 2) s2.heap.objs.size (s2.heap.objs.size + 1) .none → IsPair h' s2.heap.objs.size p q → IsPair h' (s2.heap.objs.size + 1) .none .none →
      h'.objs.size = s2.heap.objs.size + 3 → (∀ c o, s2.heap.get? c = some o → h'.get? c = some o) → Q (.ref (s2.heap.objs.size + 2)) { s2 with heap := h' }) E s1) E s) :
    wpAny (model prog w) A (call (.type "zip") [x, y]) Q E s := by
  refine callType_newIn F.called_zip (by decide) (F.typeCall_zip_2 _ _) (F.newCall_zip_2 _ _) (fun obj => F.args_object_init_3 obj _ _) F.entry_zip_new (zg_new x y) ?_
  show wpAny (model prog w) A.in1.in1 (pyIter x) _ _ _
  refine wpAny_mono hx (fun p s1 h1 => wpAny_mono h1 (fun q s2 h => ?_) fun _ _ z => z) fun _ _ z => z
  have z1 : (zgA s2.heap p q).objs.size = s2.heap.objs.size + 1 := Heap.size_push ..
  have z2 : (zgB s2.heap p q).objs.size = s2.heap.objs.size + 2 := by rw [Heap.size_push, z1]
  have z3 : (zgC s2.heap p q).objs.size = s2.heap.objs.size + 3 := by rw [Heap.size_push, z2]
  have q3 : (zgC s2.heap p q).get? (zgB s2.heap p q).objs.size = some _ := Heap.get?_push_size _ rfl
  have q2 : (zgC s2.heap p q).get? (zgA s2.heap p q).objs.size = some _ := Heap.get?_push_of_some _ (Heap.get?_push_size _ rfl)
  have q1 : (zgC s2.heap p q).get? s2.heap.objs.size = some _ := Heap.get?_push_of_some _ (Heap.get?_push_of_some _ (Heap.get?_push_size _ rfl))
  have ty : Shared.TypeIs { s2 with heap := zgC s2.heap p q } (.ref (zgB s2.heap p q).objs.size) "zip" := ⟨_, q3, rfl⟩
  show _ ∧ _
  refine ⟨ty, ?_⟩
  rw [z1, z2] at q3
  rw [z1] at q2
  rw [z2]
  exact h _ q3 q1 q2 z3 fun c o e => Heap.get?_push_of_some _ (Heap.get?_push_of_some _ (Heap.get?_push_of_some _ e))
end
end VL

set_option Elab.async false
set_option linter.all false
set_option maxRecDepth 100000
set_option maxHeartbeats 4000000
namespace VL
open PySem PySem.Spec PyProof.Rows L2 RZ
open PySem.W (Frag)
/-! ### iter(t), t a tuple -/
abbrev ttObj (t : Addr) : Obj := { cls := .type "tuple_iterator", data := .fields #[.ref t, .int 0 0] }
def ItT (t it : Addr) : HO := .ext fun h => h.get? it = some (ttObj t)
theorem itT_ok {P : Program} {w : World} {H : Hp} {h : Heap} {t it : Addr} (e : h.get? it = some (ttObj t)) : ObjOk P w H h it (ItT t it) := ⟨e, ⟨_, e⟩, fun _ _ q k => k _ q⟩
theorem call_iter_tup {prog : Program} {w : World} {A : Around} {E : Value → Shared → Prop} {s : Shared} {t : Addr} {items : Array Value} {Q : Value → Shared → Prop} (ht : s.heap.IsTuple t items) (h : Q (.ref s.heap.objs.size) { s with heap := s.heap.push (ttObj t) }) :
    wpAny (model prog w) A (call (.builtin "iter") [.ref t]) Q E s := by
  refine Calls.call_function_entry (by decide +kernel) (by decide +kernel) PySem.W.kdk_entry_iter (PySem.W.kdk_args_iter _) ?_
  unfold Builtin.«iter»
  refine wpAny_bind (m := someArgs "iter" 1 2 _) (wpAny_of_eq (a := [Value.ref t]) (by first | rfl | kernel_rfl!) ?_)
  show wpAny _ _ (pyIter (.ref t) >>= _) _ _ _
  exact wpAny_bind (wpAny_pyIter_tuple ht (wpAny_pure ⟨_, rfl, h⟩))
def rIterT (K : Frag) (n : Nat) : List V → Hp → VK → Prop := fun xs H Q => ∃ (t : Addr) (zs : List V), xs = [.ref t] ∧ SqT K H t zs ∧ ∀ it, H it = Option.none → n ≤ it → Q (.ref it) (upd H it (ItT t it))
theorem call_iterT {X : Cx} : CallR X (.builtin "iter") (rIterT X.K X.s_0.heap.objs.size) := by
  intro pins s σ H xs us Q I r ⟨t, zs, e, hq, q⟩
  subst e
  obtain ⟨u, rfl, ru⟩ := r.one
  cases ru
  obtain ⟨its, rv, pt, hz⟩ := I.tuple hq
  refine call_iter_tup (show s.heap.IsTuple t its.toArray from pt) ?_
  exact ⟨.ref s.heap.objs.size, _, I.laid (t' := s.toks) (fun b u e => Heap.get?_push_of_some _ e) (Nat.le_refl _) (itT_ok (Heap.get?_push_size _ rfl)), rfl, q _ (I.hok.fresh (Nat.le_refl _)) I.sz⟩
theorem bt_iter : bootBuiltins "iter" = some (.builtin "iter") := by decide +kernel
/-! ### def __iter__(self): return iter(self.f) -/
def tOwn (K : Frag) (n : Nat) (f : Str) : TS := tRet (tCB (rIterT K n) (tCons (tFld K (tVar 0) f) tNil))
section
variable {P : Program} {w : World} {K : Frag} {mg : Str → Option Value} {base : Heap}
/-- what such a call leaves behind -/
def ItEnd (P : Program) (w : World) (outer : List Env) (H : Hp) (s : Shared) (t : Addr) (r : Result) (s' : Shared) : Prop :=
  match r with
  | .ok (.ret u) => ∃ it, u = .ref it ∧ s.heap.objs.size ≤ it ∧ s'.heap.get? it = some (ttObj t) ∧ s'.os = s.os ∧ AllBare s'.gens ∧ Un (frs outer) [] H H s.heap s'.heap ∧ HOk P w H s'.heap
  | .ok _ => False
  | .error e => L2.CX P w outer H s (fun _ _ _ => False) e s'
structure OwnIt (P : Program) (w : World) (K : Frag) (mg : Str → Option Value) (base : Heap) (k : Nat) (C g : Addr) (f : Str) : Prop where
  it : PySem.W.findIn K (.ref C) "__iter__" = some (some (.ref g))
  fn : PySem.W.isFn K (.ref g) = true
  run : ∀ (A : Around) (outer : List Env) (s : Shared) (H : Hp) (a dx : Addr) (fs : List (Str × V)) (t : Addr) (xs : List V), Room k A → Env0 P w K mg base A outer s H → H a = some (.ins C dx fs) → fs.lookup f = some (.ref t) → SqT K H t xs →
    codeAny (model P w) A (.call (.ref g) ⟨[.ref a], []⟩) (ItEnd P w outer H s t) s
theorem OwnIt.mono {j k : Nat} {C g : Addr} {f : Str} (o : OwnIt P w K mg base j C g f) (h : j ≤ k) : OwnIt P w K mg base k C g f := ⟨o.it, o.fn, fun A outer s H a dx fs t xs r => o.run A outer s H a dx fs t xs (r.mono h)⟩
theorem own_of {k : Nat} {x qual : Str} {st : Stmt} {g C : Addr} {fd : FuncData} {f : Str} (T : Fun K x qual st g fd) (S : FnScope ["self"] ["self"] (defScope st)) (cl : Cls K C) (na : NoAttr K C f)
    (hi : PySem.W.findIn K (.ref C) "__iter__" = some (some (.ref g))) (hn : PySem.W.isFn K (.ref g) = true) (bd : ∀ (s : Shared) (u : Value), K.In s.heap → BindsTo s fd ⟨[u], []⟩ [("self", u)])
    (hb : ∀ (cdv : Value) (A : Around) (outer : List Env) (s : Shared) (H : Hp) (E : XK), PSs (cxOf (L2.CX P w) P w K mg base ["self"] qual (defScope st) g cdv A outer s H E) (defBody st) (tOwn K s.heap.objs.size f)) :
    OwnIt P w K mg base (k + 1) C g f := by
  obtain ⟨oc, od, kV, doc, pm, an, cdv, ct, osl, rfl, lk, hcd⟩ := T.ex
  refine ⟨hi, hn, fun A outer s H a dx fs t xs hr e0 ha hf ht => ?_⟩
  have kin : K.In s.heap := e0.mod.kin.keeps fun b o e => (e0.bs b o e).1
  have lim : s.heap.NoLimit := e0.mod.nolimit.keeps fun b o e => (e0.bs b o e).1
  have kinds : ∀ y ∈ [(("self" : Str), Value.ref a)], (defScope st).names.lookup y.1 = some .local ∨ ((defScope st).names.lookup y.1 = some .cell ∧ ((cellsFrom (s.heap.objs.size + 1) (defScope st).names []).lookup y.1).isSome = true) := by
    intro y hy
    have hy' : y.1 ∈ [("self" : Str)] := by
      rw [List.mem_singleton] at hy
      rw [hy]
      exact List.mem_singleton.mpr rfl
    rcases S.par y.1 hy' with q | q
    · exact .inl q
    · exact .inr ⟨q, PySem.W.cellsFrom_some _ _ _ (.inl q)⟩
  refine codeAny_call_function hr.depth (kin _ _ lk) rfl S.co S.gen rfl (PySem.W.codeRec_of kin hcd) (bd s (.ref a) kin _ _ _ _ (wpAny_newFunctionEnv_cells S.kind kinds fun env he s1 x => ?_))
  subst he
  refine ⟨lim.keeps x.toInCall.keep, codeAny_func ?_⟩
  have I : Inv (cxOf (L2.CX P w) P w K mg base ["self"] qual (defScope st) g cdv A outer s H (fun _ _ _ => False)) [] (L2.start ["self"] [.ref a]) H s1 := inv_start S hr.hd e0 (vs := [.ref a]) rfl (.cons rfl .nil) x
  have q : tOwn K s.heap.objs.size f { nx := fun _ _ => False, rt := fun v H' => ∃ it, v = .ref it ∧ H it = Option.none ∧ s.heap.objs.size ≤ it ∧ H' = upd H it (ItT t it) } (L2.start ["self"] [.ref a]) H :=
    ⟨.ref a, rfl, a, C, dx, fs, .ref t, rfl, ha, cl, na, hf, t, xs, rfl, ht, fun it h1 h2 => ⟨it, rfl, h1, h2, rfl⟩⟩
  refine wpAny_mono ((hb cdv A outer s H (fun _ _ _ => False)).run [] s1 _ H _ I q) (fun fl s' hs => ?_) fun e s' hs => hs
  cases fl with
  | ret u =>
    obtain ⟨v, σ', H', J, rv, it, rfl, h1, h2, rfl⟩ := hs
    obtain rfl : u = Value.ref it := rv
    have hI : (upd H it (ItT t it)) it = some (ItT t it) := upd_same
    have ho := (J.hok it _ hI)
    have J2 := ItX.inv_drop J (a := it) hI
    rw [ItX.dropH_upd h1] at J2
    exact ⟨it, rfl, h2, ho.1, J.os, J.bare, J2.base, J2.hok⟩
  | next => obtain ⟨_, _, _, z⟩ := hs; exact False.elim z
  | brk => obtain ⟨_, _, _, z⟩ := hs; exact False.elim z
  | cont => obtain ⟨_, _, _, z⟩ := hs; exact False.elim z
end
/-! ### an iterator is asked for: a list, a tuple, an own instance -/
/-- what comes: an iterator at it over the list or tuple at a -/
structure Got (X : Cx) (pins : List (Addr × Obj)) (σ : L2.St) (H : Hp) (s : Shared) (b : Bool) (a it : Addr) (s' : Shared) : Prop where
  new : s.heap.objs.size ≤ it
  at_ : IsIt b s'.heap it a 0
  inv : Inv X pins σ H s'
  keep : ∀ c o, s.heap.get? c = some o → H c = none → c ∉ frs X.stack → s'.heap.get? c = some o
  fp : FpOk X pins H it
theorem nofs' {X : Cx} {pins : List (Addr × Obj)} {σ : L2.St} {H : Hp} {s : Shared} (I : Inv X pins σ H s) {b : Addr} (h : s.heap.objs.size ≤ b) : b ∉ frs X.stack := fun hb => by
  obtain ⟨_, o, ho, _⟩ := I.env0.funs.mem hb
  exact absurd (Nat.lt_of_lt_of_le (Heap.lt_size ho) h) (Nat.lt_irrefl _)
theorem own_iter {X : Cx} {pins : List (Addr × Obj)} {σ : L2.St} {H : Hp} {s : Shared} {k : Nat} {C g a dx t : Addr} {f : Str} {fs : List (Str × V)} {xs : List V} {A1 : Around} {Q : Value → Shared → Prop} {E : Value → Shared → Prop}
    (sb : Sub X k A1) (O : OwnIt X.prog X.w X.K X.mg X.base k C g f) (I : Inv X pins σ H s) (ha : H a = some (.ins C dx fs)) (hf : fs.lookup f = some (.ref t)) (ht : SqT X.K H t xs)
    (q : ∀ it s', Got X pins σ H s false t it s' → Q (.ref it) s') : wpAny (model X.prog X.w) A1 (pyIter (.ref a)) Q E s := by
  obtain ⟨mA, J, _⟩ := ins_get I.hok ha
  obtain ⟨od, J, _⟩ := J.look
  obtain ⟨m, hF⟩ := I.fr
  refine PySem.W.owit_iter hF I.ok.mod.kin J O.it O.fn ?_
  have e0 : Env0 X.prog X.w X.K X.mg X.base A1 X.stack s H := by
    have e := I.env0
    exact ⟨by rw [sb.fr]; exact e.frames, e.mod, e.bs, e.bsz, e.funs, e.frf, e.hok, e.bare⟩
  refine wpAny_call (codeAny_mono (O.run A1 X.stack s H a dx fs t xs sb.room e0 ha hf ht) fun r s' hr => ?_)
  cases r with
  | error e =>
    obtain ⟨a1, B, H1, cls, d, e1, fl, hok, ub, na1, os, ag, z⟩ := hr
    exact z.elim
  | ok fl =>
    cases fl with
    | next => exact False.elim hr
    | brk => exact False.elim hr
    | cont => exact False.elim hr
    | ret u =>
      obtain ⟨it, rfl, h1, h2, h3, h4, h5, h6⟩ := hr
      have I' := I.call' (H' := H) (ch := []) h3 h5 h6 h4 (fun b z => absurd z (by simp))
      have ty : s'.TypeIs (.ref it) "tuple_iterator" := ⟨_, h2, rfl⟩
      have G : Got X pins σ H s false t it s' := ⟨h1, ⟨_, h2, rfl, rfl⟩, I', fun c o e n hn => h5.keep c o e n hn (by simp), I.fpOk h1 (I.hok.fresh h1)⟩
      exact wpAny_specialOf ty PySem.F.slot_tuple_iterator_next.lookup (q it s' G)
theorem lst_iter {X : Cx} {pins : List (Addr × Obj)} {σ : L2.St} {H : Hp} {s : Shared} {a : Addr} {xs : List V} {A1 : Around} {Q : Value → Shared → Prop} {E : Value → Shared → Prop}
    (I : Inv X pins σ H s) (h : SqL X.K H a xs) (q : ∀ it s', Got X pins σ H s true a it s' → Q (.ref it) s') : wpAny (model X.prog X.w) A1 (pyIter (.ref a)) Q E s := by
  obtain ⟨its, rv, pl, hz⟩ := I.list h
  exact wpAny_pyIter_list pl.isList (q _ _ ⟨Nat.le_refl _, ⟨_, Heap.get?_push_size _ rfl, rfl, rfl⟩, I.kept (t' := s.toks) fun b o e => Heap.get?_push_of_some _ e, fun c o e _ _ => Heap.get?_push_of_some _ e, I.fpOk (Nat.le_refl _) (I.hok.fresh (Nat.le_refl _))⟩)
theorem tup_iter {X : Cx} {pins : List (Addr × Obj)} {σ : L2.St} {H : Hp} {s : Shared} {a : Addr} {xs : List V} {A1 : Around} {Q : Value → Shared → Prop} {E : Value → Shared → Prop}
    (I : Inv X pins σ H s) (h : SqT X.K H a xs) (q : ∀ it s', Got X pins σ H s false a it s' → Q (.ref it) s') : wpAny (model X.prog X.w) A1 (pyIter (.ref a)) Q E s := by
  obtain ⟨its, rv, pl, hz⟩ := I.tuple h
  exact wpAny_pyIter_tuple (show s.heap.IsTuple a its.toArray from pl) (q _ _ ⟨Nat.le_refl _, ⟨_, Heap.get?_push_size _ rfl, rfl, rfl⟩, I.kept (t' := s.toks) fun b o e => Heap.get?_push_of_some _ e, fun c o e _ _ => Heap.get?_push_of_some _ e, I.fpOk (Nat.le_refl _) (I.hok.fresh (Nat.le_refl _))⟩)
/-! ### the same of plain values: what is walked has come to rest -/
/-- the classes that are walked by a field: (class, its __iter__, the field) -/
abbrev IterT := List (Addr × Addr × Str)
def itemsOf (T : IterT) : D → Option (List D)
  | .lst xs => some xs
  | .tup xs => some xs
  | .ins C ns xs => (T.find? fun p => p.1 == C).bind fun p => (lookF ns xs p.2.2).bind fun d => match d with
    | .tup ys => some ys
    | _ => none
  | _ => none
def SqG (b : Bool) (K : Frag) (H : Hp) (a : Addr) (vs : List V) : Prop := match b with
  | true => SqL K H a vs
  | false => SqT K H a vs
/-- at rest: a list of ours that changes no more, a tuple -/
def RtG (b : Bool) (K : Frag) (F : Addr → Prop) (H : Hp) (a : Addr) (vs : List V) : Prop := match b with
  | true => LsAt K F H a vs
  | false => TpAt K F H a vs
theorem RtG.sq {b : Bool} {K : Frag} {F : Addr → Prop} {H : Hp} {a : Addr} {vs : List V} (h : RtG b K F H a vs) : SqG b K H a vs := by
  cases b
  · exact TpAt.sq h
  · exact .inl (.inl (show LsAt K F H a vs from h).2)
theorem RtG.mono {b : Bool} {K : Frag} {F F' : Addr → Prop} {H H' : Hp} (k : ∀ a, F a → F' a ∧ H' a = H a) {a : Addr} {vs : List V} (h : RtG b K F H a vs) : RtG b K F' H' a vs := by
  cases b
  · exact TpAt.mono k h
  · exact LsAt.mono (K := K) k h
theorem SqG.is {X : Cx} {pins : List (Addr × Obj)} {σ : L2.St} {H : Hp} {s : Shared} {b : Bool} {a : Addr} {vs : List V} (I : Inv X pins σ H s) (h : SqG b X.K H a vs) : ∃ its, Vals vs its ∧ IsSq b s.heap a its.toArray := by
  cases b
  · obtain ⟨its, rv, pl, _⟩ := I.tuple h
    exact ⟨its, rv, pl⟩
  · obtain ⟨its, rv, pl, _⟩ := I.list h
    exact ⟨its, rv, pl.isList⟩
theorem SqG.inj {X : Cx} {pins : List (Addr × Obj)} {σ : L2.St} {H : Hp} {s : Shared} {b : Bool} {a : Addr} {vs ws : List V} (I : Inv X pins σ H s) (h : SqG b X.K H a vs) (h' : SqG b X.K H a ws) : vs = ws := by
  cases b
  · exact I.tuple_inj h h'
  · exact I.list_inj h h'
def OwnTs (P : Program) (w : World) (K : Frag) (mg : Str → Option Value) (base : Heap) (k : Nat) (T : IterT) : Prop := ∀ p ∈ T, OwnIt P w K mg base k p.1 p.2.1 p.2.2
theorem OwnTs.mono {P : Program} {w : World} {K : Frag} {mg : Str → Option Value} {base : Heap} {j k : Nat} {T : IterT} (o : OwnTs P w K mg base j T) (h : j ≤ k) : OwnTs P w K mg base k T := fun p hp => (o p hp).mono h
theorem val_iter {X : Cx} {pins : List (Addr × Obj)} {σ : L2.St} {F : Addr → Prop} {H : Hp} {s : Shared} {k : Nat} {T : IterT} {A1 : Around} {Q : Value → Shared → Prop} {E : Value → Shared → Prop} {d : D} {v : V} {u : Value} {ds : List D}
    (sb : Sub X k A1) (O : OwnTs X.prog X.w X.K X.mg X.base k T) (I : Inv X pins σ H s) (r : Rep X.K F H d v) (ru : RelV v u) (e : itemsOf T d = some ds)
    (q : ∀ b a it vs s', RtG b X.K F H a vs → RepL X.K F H ds vs → Got X pins σ H s b a it s' → Q (.ref it) s') : wpAny (model X.prog X.w) A1 (pyIter u) Q E s := by
  cases d with
  | lst xs =>
    cases e
    obtain ⟨a, vs, rfl, h1, h2⟩ := r
    cases ru
    exact lst_iter I (.inl (.inl h1.2)) fun it s' G => q true a it vs s' h1 h2 G
  | tup xs =>
    cases e
    obtain ⟨a, vs, rfl, h1, h2⟩ := r
    cases ru
    exact tup_iter I h1.sq fun it s' G => q false a it vs s' h1 h2 G
  | ins C ns xs =>
    obtain ⟨a, dx, fs, rfl, f, h1, oc, rfl, h2⟩ := r
    cases ru
    simp only [itemsOf, Option.bind_eq_some_iff] at e
    obtain ⟨p, e1, d, e2, e3⟩ := e
    have hp := List.mem_of_find?_eq_some e1
    have hC : p.1 = C := by simpa using List.find?_some e1
    obtain ⟨vf, l1, l2⟩ := lookF_ok h2 e2
    split at e3
    · cases e3
      obtain ⟨t, vs, rfl, g1, g2⟩ := l2
      have O' := O p hp
      rw [hC] at O'
      exact own_iter sb O' I h1 l1 g1.sq fun it s' G => q false t it vs s' g1 g2 G
    · cases e3
  | _ => cases e
end VL

set_option Elab.async false
set_option linter.all false
set_option maxRecDepth 100000
set_option maxHeartbeats 4000000
namespace VL
open PySem PySem.Spec PyProof.Rows L2 RZ
open PySem.W (Frag)
/-! ### zip of any two walked things -/
def ItzG (K : Frag) (ba : Bool) (a : Addr) (bb : Bool) (b : Addr) : It :=
  ⟨fun i H => ∃ (xs ys : List V) (x y : V), SqG ba K H a xs ∧ SqG bb K H b ys ∧ xs[i]? = some x ∧ ys[i]? = some y,
    fun i H v H' => ∃ T x y, v = .ref T ∧ H T = none ∧ H' = upd H T (.tup [x, y]) ∧ (∀ xs, SqG ba K H a xs → xs[i]? = some x) ∧ ∀ ys, SqG bb K H b ys → ys[i]? = some y,
    fun i H => ∃ xs ys : List V, SqG ba K H a xs ∧ SqG bb K H b ys ∧ (xs.length ≤ i ∨ ys.length ≤ i)⟩
theorem mem5 {c z t u p q : Addr} (h : c ∈ [z, t, u, p, q]) : c = z ∨ c = t ∨ c = u ∨ c = p ∨ c = q := by simpa using h
theorem turn_zipG {P : Program} {w : World} {K : Frag} {elts : List Expr} {kk : Nat} {tpos : Pos} {ba bb : Bool} {a b zo ti tu p q : Addr} (Z : ZipApart zo ti tu p q a b) :
    Turn P w K (.Tuple elts kk tpos) (ItzG K ba a bb b) [zo, ti, tu, p, q] zo (fun i h => IsZip h zo ti tu .none ∧ IsPair h ti (.ref p) (.ref q) ∧ (∃ x y, IsPair h tu x y) ∧ IsIt ba h p a i ∧ IsIt bb h q b i) where
  mem := by simp
  obj := fun i h st c hc => by
    obtain ⟨h0, h1, ⟨x, y, h2⟩, h3, h4⟩ := st
    rcases mem5 hc with e | e | e | e | e <;> rw [e]
    · exact ⟨_, h0, fun v q => nomatch q⟩
    · exact ⟨_, h1, fun v q => nomatch q⟩
    · exact ⟨_, h2, fun v q => nomatch q⟩
    · exact h3.obj
    · exact h4.obj
  keep := fun i h h' st k => by
    obtain ⟨h0, h1, ⟨x, y, h2⟩, h3, h4⟩ := st
    exact ⟨k zo (by simp) _ h0, k ti (by simp) _ h1, ⟨x, y, k tu (by simp) _ h2⟩, h3.mv fun o e => k p (by simp) o e, h4.mv fun o e => k q (by simp) o e⟩
  item := by
    intro X hP hw hK hc i pins s σ H E I hf st hg
    subst hP hw hK
    obtain ⟨h0, h1, ⟨x0, y0, h2⟩, h3, h4⟩ := st
    obtain ⟨xs, ys, x, y, sx, sy, hx, hy⟩ := hg
    obtain ⟨its, rv, p1⟩ := sx.is I
    obtain ⟨its2, rv2, p2⟩ := sy.is I
    obtain ⟨u, hu, ru⟩ := rv.get hx
    obtain ⟨u2, hu2, ru2⟩ := rv2.get hy
    have lz : zo < s.heap.objs.size := Heap.lt_size h0
    have hT : s.TypeIs (.ref zo) "zip" := ⟨_, h0, rfl⟩
    unfold pyNext
    refine wpAny_bind (wpAny_attempt (wpAny_callSpecial?_slot (name := Str.ofString "__next__") hT F.slot_zip_next (wpAny_call_entry F.slot_zip_next hT F.entry_zip_next
      (zg_item Z h0 h1 h2 h3 h4 p1 p2 (x := u) (y := u2) (by simpa using hu) (by simpa using hu2) fun h' z' t' i' j' hT' hsz hk => wpAny_pure ?_) (F.args_zip_next_1 _))))
    refine ⟨_, rfl, wpAny_letOwnedTupleGo_zip (s := { s with heap := h' }) z' fun h'' z'' sb => ?_⟩
    have tn : h''.get? s.heap.objs.size = some { cls := .type "tuple", data := .seq #[u, u2] } := (sb.2 _ (Nat.ne_of_gt lz)).trans hT'
    have new : ObjOk X.prog X.w (upd H s.heap.objs.size (.tup [x, y])) h'' s.heap.objs.size (.tup [x, y]) := ⟨by show 2 ≤ sizeLine; decide, [u, u2], .cons ru (.cons ru2 .nil), ⟨_, tn, rfl, _, rfl⟩⟩
    have I1 : Inv X pins σ (upd H s.heap.objs.size (.tup [x, y])) { s with heap := h'' } :=
      I.turnedNew (t' := s.toks) (ch := [zo, ti, tu, p, q]) (fun c o hb e => (sb.2 c (fun n => hb (by simp [n]))).trans (hk c o (fun n => hb (by simp [n])) (fun n => hb (by simp [n])) (fun n => hb (by simp [n])) (fun n => hb (by simp [n])) e)) hf (Nat.le_refl _) new
    refine ⟨.ref s.heap.objs.size, _, I1, rfl, ⟨_, x, y, rfl, I.hok.fresh (Nat.le_refl _), rfl, fun l hl => by rw [SqG.inj I hl sx]; exact hx, fun l hl => by rw [SqG.inj I hl sy]; exact hy⟩, ⟨z'', ?_, ⟨u, u2, (sb.2 _ Z.TOz).trans t'⟩, i'.mv fun o e => (sb.2 _ Z.i1z).trans e, j'.mv fun o e => (sb.2 _ Z.i2z).trans e⟩, fun c hcm => ?_⟩
    · exact (sb.2 _ Z.TIz).trans (hk _ _ Z.TIz Z.TITO Z.TIi1 Z.TIi2 h1)
    · have hlt : c < s.heap.objs.size := by
        rcases mem5 hcm with e | e | e | e | e <;> rw [e]
        · exact lz
        · exact Heap.lt_size h1
        · exact Heap.lt_size h2
        · exact h3.lt
        · exact h4.lt
      rw [upd_ne (Nat.ne_of_lt hlt)]
      exact (hf c hcm).1
  done := by
    intro X hP hw hK hc i pins s σ H E I hf st hg
    subst hP hw hK
    obtain ⟨h0, h1, ⟨x0, y0, h2⟩, h3, h4⟩ := st
    obtain ⟨xs, ys, sx, sy, he⟩ := hg
    obtain ⟨its, rv, p1⟩ := sx.is I
    obtain ⟨its2, rv2, p2⟩ := sy.is I
    have l1 := rv.length
    have l2 := rv2.length
    have ge : its.toArray[i]? = none ∨ its2.toArray[i]? = none := by
      rcases he with e | e
      · exact .inl (by simp; omega)
      · exact .inr (by simp; omega)
    have hT : s.TypeIs (.ref zo) "zip" := ⟨_, h0, rfl⟩
    unfold pyNext
    refine wpAny_bind (wpAny_attempt (wpAny_callSpecial?_slot (name := Str.ofString "__next__") hT F.slot_zip_next (wpAny_call_entry F.slot_zip_next hT F.entry_zip_next
      (zg_end (I.ok.hd hc) Z h0 h1 h2 h3 h4 p1 p2 ge fun h' e hk he => ?_) (F.args_zip_next_1 _))))
    obtain ⟨o, ho, hcl⟩ := he
    refine wpAny_bind (wpAny_isInstance (T := "StopIteration") (b := true) ⟨o, ho, hcl⟩ isSubtype_stop (wpAny_pure ?_))
    exact ⟨rfl, I.turnedL (t' := s.toks) (ch := [zo, ti, tu, p, q]) (fun c o hb e => hk c o (fun n => hb (by simp [n])) (fun n => hb (by simp [n])) (fun n => hb (by simp [n])) (fun n => hb (by simp [n])) e) hf⟩
  self := fun A i s Q E st h => wpAny_pyIter_zip st.1 h
theorem itb_zipG {K : Frag} {F : Addr → Prop} {ρ : Nat → Addr} {H : Hp} {L : LS} {ba bb : Bool} {a b : Addr} {vs ws : List V} {xs ys : List D} (ha : RtG ba K F H a vs) (hb : RtG bb K F H b ws) (r1 : RepL K F H xs vs) (r2 : RepL K F H ys ws) : Itb K (ItzG K ba a bb b) (zipD xs ys) F ρ H L := by
  intro F1 ρ1 H1 L1 s o i
  have h1 : SqG ba K H1 a vs := (ha.mono s.fz).sq
  have h2 : SqG bb K H1 b ws := (hb.mono s.fz).sq
  refine ⟨fun d e => ?_, fun hi => ⟨vs, ws, h1, h2, ?_⟩⟩
  · obtain ⟨x, y, e1, e2, rfl⟩ := zipD_get e
    obtain ⟨v, f1, q1⟩ := r1.get e1
    obtain ⟨w, f2, q2⟩ := r2.get e2
    refine ⟨⟨vs, ws, v, w, h1, h2, f1, f2⟩, fun z H2 yl => ?_⟩
    obtain ⟨T, x', y', rfl, hT, rfl, g1, g2⟩ := yl
    have z1 := g1 vs h1
    have z2 := g2 ws h2
    rw [f1] at z1; rw [f2] at z2
    cases z1; cases z2
    obtain ⟨s3, o3⟩ := new_ok o hT (.tup [v, w])
    exact ⟨_, s3, o3, new_tup o hT (xs := [x, y]) ⟨v, [w], rfl, Rep.mono s.fz x q1, w, [], rfl, Rep.mono s.fz y q2, rfl⟩⟩
  · rw [zipD_len] at hi
    rw [r1.length, r2.length]
    omega
section
variable {X : Cx} {W : WX} {a b c e tg : Expr} {fa fb fc fe : EF} {pos : Pos} {es : List Expr} {f : AF} {T : IterT} {k : Nat}
theorem neA {x y : Nat} (h : x < y ∨ y < x) : x ≠ y := by omega
theorem apart_of {n la lb p q m1 : Nat} (h1 : la < n) (h2 : lb < n) (h3 : n ≤ p) (h4 : p < m1) (h5 : m1 ≤ q) {z : Nat} (h6 : q < z) : ZipApart (z + 2) z (z + 1) p q la lb := by
  constructor <;> (refine neA ?_; omega)
/-- two values are zipped: the machine has the zip object, and all that the walk wants -/
theorem zip_made {pins : List (Addr × Obj)} {σ : L2.St} {F : Addr → Prop} {H : Hp} {s : Shared} {Q : Value → Shared → Prop} {E : Value → Shared → Prop} {dx dy : D} {v w : V} {u1 u2 : Value} {xs ys : List D}
    (hr : Rm (k + 2) X.A) (O : OwnTs X.prog X.w X.K X.mg X.base k T) (I : Inv X pins σ H s) (r1 : Rep X.K F H dx v) (r2 : Rep X.K F H dy w) (ru1 : RelV v u1) (ru2 : RelV w u2) (e1 : itemsOf T dx = some xs) (e2 : itemsOf T dy = some ys)
    (q : ∀ ba bb a b vs ws zo ti tu p pp s', RtG ba X.K F H a vs → RepL X.K F H xs vs → RtG bb X.K F H b ws → RepL X.K F H ys ws → ZipApart zo ti tu p pp a b → Inv X pins σ H s' → IsZip s'.heap zo ti tu .none → IsPair s'.heap ti (.ref p) (.ref pp) → IsPair s'.heap tu .none .none → IsIt ba s'.heap p a 0 → IsIt bb s'.heap pp b 0 → (∀ c ∈ [zo, ti, tu, p, pp], FpOk X pins H c) → Q (.ref zo) s') :
    wpAny (model X.prog X.w) X.A (call (.type "zip") [u1, u2]) Q E s := by
  have sb : Sub X k X.A.in1.in1 := Sub.in1 (Sub.in1 (⟨hr.rm, rfl⟩ : Sub X (k + 2) X.A))
  refine zg_call (val_iter sb O I r1 ru1 e1 fun ba a it vs s1 ga gb G1 => val_iter sb O G1.inv r2 ru2 e2 fun bb b it2 ws s2 gc gd G2 => ?_)
  intro h' z0 z1 z2 sz hk
  obtain ⟨i1, v1, q1⟩ := ga.sq.is I
  obtain ⟨i2, v2, q2⟩ := gc.sq.is I
  have l1 : it < s1.heap.objs.size := G1.at_.lt
  have l2 : it2 < s2.heap.objs.size := G2.at_.lt
  have n1 := G1.new
  have n2 := G2.new
  have a2 : IsIt ba s2.heap it a 0 := G1.at_.mv fun o e => G2.keep it o e (I.hok.fresh n1) (nofs' I n1)
  have zp := apart_of q1.lt q2.lt n1 l1 n2 l2
  refine q ba bb a b vs ws _ _ _ it it2 _ ga gb gc gd zp (G2.inv.kept (t' := s2.toks) hk) z0 z1 z2 (a2.mv fun o e => hk _ o e) (G2.at_.mv fun o e => hk _ o e) fun c hc => ?_
  have big : ∀ {d}, s2.heap.objs.size ≤ d → FpOk X pins H d := fun h => G2.inv.fpOk h (G2.inv.hok.fresh h)
  rcases mem5 hc with e | e | e | e | e <;> rw [e]
  · exact big (by omega)
  · exact big (by omega)
  · exact big (by omega)
  · exact G1.fp
  · exact G2.fp
/-- zip(x, y), whatever is walked -/
def iZipG (T : IterT) (f : AF) : IF := fun st L => (f st L).bind fun us L1 => opt (fzUs L1 us) fun p => match p.1 with
  | [dx, dy] => opt (itemsOf T dx) fun xs => opt (itemsOf T dy) fun ys => .ok (zipD xs ys) p.2
  | _ => .no
theorem ki_zipG {p tpos : Pos} {elts : List Expr} {kk : Nat} (O : OwnTs X.prog X.w X.K X.mg X.base k T) (hr : Rm (k + 2) X.A) (hm : X.mg "zip" = none) (ha : KA X W [a, b] f) (hg : Gl X "zip" := by rfl) (hs : starEach [a, b] X.env = (false, eval a X.env) :: starEach [b] X.env := by rfl) (hpl : (backTo pos (starEach [b] X.env)).any (·.1) = false := by rfl) :
    KI X W (.Tuple elts kk tpos) (.Call (.Name "zip" p) [a, b] [] pos) (iZipG T f) := by
  refine ⟨fun pins s σ H R I ⟨F, ρ, L, st, o, r, h⟩ => ?_⟩
  refine Call_ (ld_blt I hg hm PyProof.Rows.boot_zip (PyProof.Rows.callWith_type1 (thn (PA.run ha pos pins s σ H _ I (RG.one (P := RepUs) (Q' := Nx RepUs PIt X.K W σ F ρ H L R fun us L1 => opt (fzUs L1 us) fun p => match p.1 with
    | [dx, dy] => opt (itemsOf T dx) fun xs => opt (itemsOf T dy) fun ys => .ok (zipD xs ys) p.2
    | _ => .no) o r h fun x H1 F1 ρ1 L1 u s1 o1 r1 p1 h1 => ⟨F1, ρ1, L1, u, s1, o1, p1, h1⟩)) fun us s1 ⟨vs, H1, I1, rv, F1, ρ1, L1, uu, st1, o1, p1, h1⟩ => ?_) hs hpl))
  obtain ⟨⟨ds, L2⟩, e1, h2⟩ := h1.opt
  obtain ⟨F2, s2, o2, q2⟩ := fzUs_ok o1 p1 e1
  dsimp only at h2
  split at h2
  · rename_i dx dy
    obtain ⟨xs, e2, h3⟩ := h2.opt
    obtain ⟨ys, e3, h4⟩ := h3.opt
    obtain ⟨v1, _, rfl, r1, v2, _, rfl, r2, rfl⟩ := q2
    cases rv with
    | cons ra rr =>
      cases rr with
      | cons rb rn =>
        cases rn
        refine zip_made hr O I1 r1 r2 ra rb e2 e3 fun ba bb a b vs ws zo ti tu p pp s' ga gb gc gd zp I2 z0 z1 z2 i1 i2 fp => ?_
        refine wpAny_pyIter_zip z0 ⟨zo, [zo, ti, tu, p, pp], _, _, H1, rfl, I2, turn_zipG zp, ⟨z0, z1, ⟨_, _, z2⟩, i1, i2⟩, fp, ?_⟩
        exact h4 F2 ρ1 H1 _ s2 o2 (itb_zipG ga gc gb gd)
  · exact h2.elim
/-! ### a walk over anything -/
def walkD (T : IterT) : D → Option (List D)
  | .str x => some (signsD x)
  | d => itemsOf T d
def iIt (T : IterT) (fe : EF) : IF := fun st L => (fe st L).bind fun u L1 => opt (fzU L1 u) fun p => opt (walkD T p.1) fun ds => .ok ds p.2
theorem itb_sqG {K : Frag} {F : Addr → Prop} {ρ : Nat → Addr} {H : Hp} {L : LS} {a : Addr} {vs : List V} {xs : List D} (ha : TpAt K F H a vs) (r : RepL K F H xs vs) : Itb K (Itt K a) xs F ρ H L := itb_tup ha r
theorem ki_it (O : OwnTs X.prog X.w X.K X.mg X.base k T) (hr : Rm k X.A) (he : KE X W e fe) : KI X W tg e (iIt T fe) := by
  refine ⟨fun pins s σ H R I ⟨F, ρ, L, st, o, r, h⟩ => ?_⟩
  refine thn (PE.run he pins s σ H _ I (RG.one (Q' := Nx RepU PIt X.K W σ F ρ H L R fun u L1 => opt (fzU L1 u) fun p => opt (walkD T p.1) fun ds => .ok ds p.2) o r h fun x H1 F1 ρ1 L1 u s1 o1 r1 p1 h1 => ⟨F1, ρ1, L1, u, s1, o1, p1, h1⟩)) fun v s1 ⟨x, H1, I1, rx, F1, ρ1, L1, uu, st1, o1, p1, h1⟩ => ?_
  obtain ⟨⟨d, L2⟩, e1, h2⟩ := h1.opt
  obtain ⟨F2, s2, o2, q2⟩ := fzU_ok o1 p1 e1
  dsimp only at h2
  obtain ⟨ds, e2, h3⟩ := h2.opt
  have gen : itemsOf T d = some ds → wpAny (model X.prog X.w) X.A (pyIter v) (PIE X pins σ tg R) X.xe s1 := fun e2 => by
    refine val_iter (⟨hr.rm, rfl⟩ : Sub X k X.A) O I1 q2 rx e2 fun b a it vs s' ga gb G => ?_
    cases b
    · exact ⟨it, [it], _, _, H1, rfl, G.inv, turn_tuple a it, G.at_, fun c hc => by rw [List.mem_singleton.mp hc]; exact G.fp, h3 F2 ρ1 H1 (Itt X.K a) s2 o2 (itb_tup ga gb)⟩
    · exact ⟨it, [it], _, _, H1, rfl, G.inv, turn_list a it, G.at_, fun c hc => by rw [List.mem_singleton.mp hc]; exact G.fp, h3 F2 ρ1 H1 (Itl X.K a) s2 o2 (itb_list ga.1 ga.2 gb)⟩
  cases d with
  | str y =>
    cases e2
    cases q2
    obtain ⟨t, rfl⟩ := rx
    have qq := h3 F2 ρ1 H1 (Its y) s2 o2 (itb_str y)
    cases ha : y.cps.all (· < 128)
    · exact wpAny_pyIter_wide ha (pi_one (tk := s1.toks) I1 _ (turn_str _ y t "str_iterator" (.inr rfl)) ⟨_, Heap.get?_push_size _ rfl, rfl, rfl⟩ qq)
    · exact wpAny_pyIter_ascii ha (pi_one (tk := s1.toks) I1 _ (turn_str _ y t "str_ascii_iterator" (.inl rfl)) ⟨_, Heap.get?_push_size _ rfl, rfl, rfl⟩ qq)
  | _ => exact gen e2
end
end VL

set_option Elab.async false
set_option linter.all false
set_option maxRecDepth 100000
set_option maxHeartbeats 4000000
namespace VL
open PySem PySem.Spec PyProof.Rows L2 RZ
open PySem.W (Frag)
/-! ### enumerate over anything -/
theorem newClass_enum (a : Value) : Builtin.SmallTypes.newClass "enumerate" ⟨[.type "enumerate", a], []⟩ = pure (.type "enumerate", [a]) := by
  unfold Builtin.SmallTypes.newClass
  simp only [isType, sub_enumerate, pure_bind, Bool.not_true, Bool.false_eq_true, if_false]
section
variable {prog : Program} {w : World} {A : Around} {E : Value → Shared → Prop} {s : Shared}
abbrev enO (p : Value) : Obj := { cls := .type "enumerate", data := .fields #[.none, .bool false, p, rawInt 0, .none, .none] }
theorem en_new (x : Value) : MeetsIn prog w (Builtin.«enumerate.__new__» ⟨[.type "enumerate", x], []⟩)
    (fun A R s => wpAny (model prog w) A.in1 (pyIter x) (fun p s1 => R (.ok (.ret (.ref s1.heap.objs.size))) { s1 with heap := s1.heap.push (enO p) }) (fun e s1 => R (.error e) s1) s) :=
  .of_wp fun A R s h => by
    unfold Builtin.«enumerate.__new__»
    refine wpAny_bind (wpAny_of_eq (newClass_enum _) ?_)
    have fin : wpAny (model prog w) A.in1 (do let q ← pyIter x; let r ← Builtin.SmallTypes.newRecord (.type "enumerate") (Builtin.SmallTypes.ownedTupleFields ++ [q, rawInt 0, .none, .none]); ret r)
        (fun fin s' => ∃ v, fin = .done (.ret v) ∧ R (.ok (.ret v)) s') (fun e s' => R (.error e) s') s := by
      refine wpAny_bind (wpAny_mono h (fun p s1 h1 => ?_) fun _ _ z => z)
      show wpAny _ _ (newObj (.type "enumerate") (.fields #[.none, .bool false, p, rawInt 0, .none, .none]) >>= _) _ _ _
      refine wpAny_bind (wpAny_newObj_type ?_)
      exact wpAny_pure ⟨_, rfl, h1⟩
    dsimp only
    refine wpAny_bind ?_
    unfold Builtin.SmallTypes.calledThroughType
    refine wpAny_bind (wpAny_stack_any fun st => wpAny_pure ?_)
    refine wpAny_ite_split (fun _ => ?_) (fun _ => ?_)
    · exact wpAny_bind (wpAny_of_eq (a := (x, none)) (by first | rfl | kernel_rfl) fin)
    · exact wpAny_bind (wpAny_of_eq (a := (x, none)) (by first | rfl | kernel_rfl) fin)
theorem en_call {x : Value} {Q : Value → Shared → Prop}
    (hx : wpAny (model prog w) A.in1.in1 (pyIter x) (fun p s1 => ∀ h', h'.get? s1.heap.objs.size = some (enO p) → h'.objs.size = s1.heap.objs.size + 1 → (∀ c o, s1.heap.get? c = some o → h'.get? c = some o) → Q (.ref s1.heap.objs.size) { s1 with heap := h' }) E s) :
    wpAny (model prog w) A (call (.type "enumerate") [x]) Q E s := by
  refine callType_newIn F.called_enumerate (by decide) (F.typeCall_enumerate_1 _) (F.newCall_enumerate_1 _) (fun obj => F.args_object_init_2 obj _) F.entry_enumerate_new (en_new x) ?_
  show wpAny (model prog w) A.in1.in1 (pyIter x) _ _ _
  refine wpAny_mono hx (fun p s1 h => ?_) fun _ _ z => z
  have q : (s1.heap.push (enO p)).get? s1.heap.objs.size = some (enO p) := Heap.get?_push_size _ rfl
  exact ⟨⟨_, q, rfl⟩, h _ q (Heap.size_push ..) fun c o e => Heap.get?_push_of_some _ e⟩
end
theorem draws_sq {prog : Program} {w : World} {A : Around} (hh : A.handled = none) (b : Bool) (it a : Addr) (ne : a ≠ it) (xs : Array Value) :
    Draws prog w A it [it, a] xs.size (fun i v => xs[i]? = some v) (fun i h => IsIt b h it a i ∧ IsSq b h a xs) where
  live := fun _ _ st => let ⟨o, e, _⟩ := st.1.obj; ⟨o, e⟩
  frame := fun i h h' st k => ⟨st.1.mv fun o e => k it (by simp) o e, by
    have k2 : ∀ o, h.get? a = some o → h'.get? a = some o := fun o e => k a (by simp) o e
    cases b
    · obtain ⟨o, e, r⟩ := (st.2 : h.IsTuple a xs); exact ⟨o, k2 o e, r⟩
    · obtain ⟨o, e, r⟩ := (st.2 : h.IsList a xs); exact ⟨o, k2 o e, r⟩⟩
  item := fun i s Q E hi st k => nx_item st.1 st.2 (x := xs[i]) (by simp [hi]) fun h' j d => k _ h' s.toks (by simp [hi]) ⟨j, st.2.ext d.extBut ne⟩ d
  done := fun s Q E st k => nx_end hh st.1 st.2 (by simp) k
/-- each item in a new pair with its number -/
def IteG (K : Frag) (b : Bool) (a : Addr) : It :=
  ⟨fun i H => ∃ (xs : List V) (x : V), SqG b K H a xs ∧ xs[i]? = some x, fun i H v H' => ∃ T x, v = .ref T ∧ H T = none ∧ H' = upd H T (.tup [.int (i : Nat), x]) ∧ ∀ xs, SqG b K H a xs → xs[i]? = some x, fun i H => ∃ xs : List V, SqG b K H a xs ∧ xs.length ≤ i⟩
theorem turn_enumG {P : Program} {w : World} {K : Frag} {elts : List Expr} {kk : Nat} {tpos : Pos} {b : Bool} {a e it : Addr} (nei : e ≠ it) (nea : e ≠ a) (nai : a ≠ it) :
    Turn P w K (.Tuple elts kk tpos) (IteG K b a) [e, it] e (fun i h => (∃ old, IsEnum h e it ((i : Nat) : Int) old) ∧ IsIt b h it a i) where
  mem := by simp
  obj := fun i h st c hc => by
    obtain ⟨⟨old, he⟩, hi⟩ := st
    have hc : c = e ∨ c = it := by simpa using hc
    rcases hc with z | z <;> rw [z]
    · exact ⟨_, he, fun v q => nomatch q⟩
    · exact hi.obj
  keep := fun i h h' st k => let ⟨⟨old, he⟩, hi⟩ := st; ⟨⟨old, k e (by simp) _ he⟩, hi.mv fun o q => k it (by simp) o q⟩
  item := by
    intro X hP hw hK hc i pins s σ H E I hf st hg
    subst hP hw hK
    obtain ⟨⟨old, he⟩, hi⟩ := st
    obtain ⟨xs, x, sx, hx⟩ := hg
    obtain ⟨its, rv, p1⟩ := sx.is I
    obtain ⟨u, hu, ru⟩ := rv.get hx
    have hlt : i < its.toArray.size := by
      have := (List.getElem?_eq_some_iff.mp hu).1
      simpa using this
    have hel : e < s.heap.objs.size := Heap.lt_size he
    refine wpAny_pyNext_enum_itemD (draws_sq (A := X.A.in1) (I.ok.hd hc) b it a nai its.toArray) he ⟨hi, p1⟩ hlt nei (by simp [nei, nea]) fun y h' tk hy ho st' hT hsz hk => ?_
    obtain rfl : u = y := by
      have hy' : its[i]? = some y := by simpa using hy
      rw [hu] at hy'
      exact Option.some.inj hy'
    refine ⟨_, rfl, wpAny_letOwnedTupleGo_enum (s := { s with heap := h', toks := tk + 1 }) ho fun h'' he' sb => ?_⟩
    have hT2 : h''.get? s.heap.objs.size = some { cls := .type "tuple", data := .seq #[.int i tk, u] } := (sb.2 _ (Nat.ne_of_gt hel)).trans hT
    have new : ObjOk X.prog X.w (upd H s.heap.objs.size (.tup [.int (i : Nat), x])) h'' s.heap.objs.size (.tup [.int (i : Nat), x]) := ⟨by show 2 ≤ sizeLine; decide, [.int i tk, u], .cons ⟨_, rfl⟩ (.cons ru .nil), ⟨_, hT2, rfl, _, rfl⟩⟩
    have I1 : Inv X pins σ (upd H s.heap.objs.size (.tup [.int (i : Nat), x])) { s with heap := h'', toks := tk + 1 } :=
      I.turnedNew (ch := [e, it]) (fun c oc hb q => (sb.2 c (fun z => hb (by simp [z]))).trans (hk c oc (fun z => hb (by simp [z])) (fun z => hb (by simp [z])) q)) hf (Nat.le_refl _) new
    refine ⟨.ref s.heap.objs.size, _, I1, rfl, ⟨_, x, rfl, I.hok.fresh (Nat.le_refl _), rfl, fun ys hy => by rw [SqG.inj I hy sx]; exact hx⟩, ⟨⟨u, ?_⟩, st'.1.mv fun o q => (sb.2 it (Ne.symm nei)).trans q⟩, fun c hcm => ?_⟩
    · have e1 : ((i + 1 : Nat) : Int) = (i : Int) + 1 := by omega
      rw [e1]; exact he'
    · have hc' : c = e ∨ c = it := by simpa using hcm
      have hlt : c < s.heap.objs.size := by
        rcases hc' with z | z <;> rw [z]
        · exact hel
        · exact hi.lt
      rw [upd_ne (Nat.ne_of_lt hlt)]
      exact (hf c hcm).1
  done := by
    intro X hP hw hK hc i pins s σ H E I hf st hg
    subst hP hw hK
    obtain ⟨⟨old, he⟩, hi⟩ := st
    obtain ⟨xs, sx, hx⟩ := hg
    obtain ⟨its, rv, p1⟩ := sx.is I
    obtain ⟨f0, f1, f2, f3, f4, f5⟩ := hf it (by simp)
    have hl := rv.length
    have hT : s.TypeIs (.ref e) "enumerate" := ⟨_, he, rfl⟩
    unfold pyNext
    refine wpAny_bind (wpAny_attempt (wpAny_callSpecial?_slot (name := Str.ofString "__next__") hT F.slot_enumerate_next (wpAny_call_entry F.slot_enumerate_next hT F.entry_enumerate_next ?_ (F.args_enumerate_next_1 _))))
    show wpAny _ _ (field (.ref e) 2 >>= _) _ _ _
    refine wpAny_bind (wpAny_field he rfl (x := .ref it) rfl (wpAny_bind (nx_end (I.ok.hd hc) hi p1 (by simp; omega) fun h' x hx' hs' => ?_)))
    obtain ⟨o, ho, hcl⟩ := hs'
    refine wpAny_bind (wpAny_isInstance (T := "StopIteration") (b := true) ⟨o, ho, hcl⟩ isSubtype_stop (wpAny_pure ?_))
    exact ⟨rfl, I.turned (t' := s.toks) (fun c o hb q => hx' c o hb q) f0 f1 f3 f4 f5⟩
  self := fun A i s Q E st h => let ⟨⟨_, he⟩, _⟩ := st; wpAny_pyIter_enum he h
def enumD (i : Nat) : List D → List D
  | [] => []
  | x :: xs => .tup [.int (i : Nat), x] :: enumD (i + 1) xs
theorem enumD_get : ∀ {xs : List D} {k i : Nat} {d : D}, (enumD k xs)[i]? = some d → ∃ x, xs[i]? = some x ∧ d = .tup [.int ((k + i : Nat) : Int), x]
  | [], _, _, _, e => by simp [enumD] at e
  | x :: xs, k, 0, d, e => by simp [enumD] at e; exact ⟨x, rfl, e.symm⟩
  | x :: xs, k, i + 1, d, e => by
    simp only [enumD, List.getElem?_cons_succ] at e ⊢
    obtain ⟨y, h1, h2⟩ := enumD_get (xs := xs) (k := k + 1) (i := i) e
    exact ⟨y, h1, by rw [h2]; congr 3; omega⟩
theorem enumD_len : ∀ {xs : List D} {k : Nat}, (enumD k xs).length = xs.length
  | [], _ => rfl
  | x :: xs, k => by simp [enumD, enumD_len (xs := xs)]
theorem itb_enumG {K : Frag} {F : Addr → Prop} {ρ : Nat → Addr} {H : Hp} {L : LS} {b : Bool} {a : Addr} {vs : List V} {xs : List D} (ha : RtG b K F H a vs) (r1 : RepL K F H xs vs) : Itb K (IteG K b a) (enumD 0 xs) F ρ H L := by
  intro F1 ρ1 H1 L1 s o i
  have h1 : SqG b K H1 a vs := (ha.mono s.fz).sq
  refine ⟨fun d e => ?_, fun hi => ⟨vs, h1, ?_⟩⟩
  · obtain ⟨x, e1, rfl⟩ := enumD_get e
    obtain ⟨v, f1, q1⟩ := r1.get e1
    refine ⟨⟨vs, v, h1, f1⟩, fun z H2 yl => ?_⟩
    obtain ⟨T, x', rfl, hT, rfl, g1⟩ := yl
    have z1 := g1 vs h1
    rw [f1] at z1
    cases z1
    obtain ⟨s3, o3⟩ := new_ok o hT (.tup [.int (i : Nat), v])
    refine ⟨_, s3, o3, new_tup o hT (xs := [.int ((0 + i : Nat) : Int), x]) ⟨.int (i : Nat), [v], rfl, ?_, v, [], rfl, Rep.mono s.fz x q1, rfl⟩⟩
    show V.int (i : Nat) = V.int ((0 + i : Nat) : Int)
    rw [Nat.zero_add]
  · rw [enumD_len] at hi
    rw [r1.length]
    exact hi
section
variable {X : Cx} {W : WX} {a b c e tg : Expr} {fa fb fc fe : EF} {pos : Pos} {es : List Expr} {f : AF} {T : IterT} {k : Nat}
def iEnumG (T : IterT) (f : AF) : IF := fun st L => (f st L).bind fun us L1 => opt (fzUs L1 us) fun p => match p.1 with
  | [dx] => opt (itemsOf T dx) fun xs => .ok (enumD 0 xs) p.2
  | _ => .no
theorem ki_enumG {p tpos : Pos} {elts : List Expr} {kk : Nat} (O : OwnTs X.prog X.w X.K X.mg X.base k T) (hr : Rm (k + 2) X.A) (hm : X.mg "enumerate" = none) (ha : KA X W [a] f) (hg : Gl X "enumerate" := by rfl) (hs : starEach [a] X.env = (false, eval a X.env) :: starEach [] X.env := by rfl) (hpl : (backTo pos (starEach [] X.env)).any (·.1) = false := by rfl) :
    KI X W (.Tuple elts kk tpos) (.Call (.Name "enumerate" p) [a] [] pos) (iEnumG T f) := by
  refine ⟨fun pins s σ H R I ⟨F, ρ, L, st, o, r, h⟩ => ?_⟩
  refine Call_ (ld_blt I hg hm boot_enumerate (PyProof.Rows.callWith_type1 (thn (PA.run ha pos pins s σ H _ I (RG.one (P := RepUs) (Q' := Nx RepUs PIt X.K W σ F ρ H L R fun us L1 => opt (fzUs L1 us) fun p => match p.1 with
    | [dx] => opt (itemsOf T dx) fun xs => .ok (enumD 0 xs) p.2
    | _ => .no) o r h fun x H1 F1 ρ1 L1 u s1 o1 r1 p1 h1 => ⟨F1, ρ1, L1, u, s1, o1, p1, h1⟩)) fun us s1 ⟨vs, H1, I1, rv, F1, ρ1, L1, uu, st1, o1, p1, h1⟩ => ?_) hs hpl))
  obtain ⟨⟨ds, L2⟩, e1, h2⟩ := h1.opt
  obtain ⟨F2, s2, o2, q2⟩ := fzUs_ok o1 p1 e1
  dsimp only at h2
  split at h2
  · rename_i dx
    obtain ⟨xs, e2, h3⟩ := h2.opt
    obtain ⟨v1, _, rfl, r1, rfl⟩ := q2
    cases rv with
    | cons ra rn =>
      cases rn
      have sb : Sub X k X.A.in1.in1 := Sub.in1 (Sub.in1 (⟨hr.rm, rfl⟩ : Sub X (k + 2) X.A))
      refine en_call (val_iter sb O I1 r1 ra e2 fun b a it vs s2' ga gb G => ?_)
      intro h' hn sz hk
      obtain ⟨i1, v1, q1⟩ := ga.sq.is I1
      have l0 := q1.lt
      have l1 : it < s2'.heap.objs.size := G.at_.lt
      have n1 := G.new
      have hne : s2'.heap.objs.size ≠ it := neA (Or.inr l1)
      have hna : s2'.heap.objs.size ≠ a := neA (Or.inr (Nat.lt_trans (Nat.lt_of_lt_of_le l0 n1) l1))
      have hai : a ≠ it := neA (Or.inl (Nat.lt_of_lt_of_le l0 n1))
      refine wpAny_pyIter_enum hn ⟨_, [s2'.heap.objs.size, it], _, _, H1, rfl, G.inv.kept (t' := s2'.toks) hk, turn_enumG hne hna hai, ⟨⟨_, hn⟩, G.at_.mv fun o e => hk _ o e⟩, fun c hc => ?_, h3 F2 ρ1 H1 _ s2 o2 (itb_enumG ga gb)⟩
      have hc : c = s2'.heap.objs.size ∨ c = it := by simpa using hc
      rcases hc with z | z <;> rw [z]
      · exact G.inv.fpOk (Nat.le_refl _) (G.inv.hok.fresh (Nat.le_refl _))
      · exact G.fp
  · exact h2.elim
end
end VL

set_option Elab.async false
set_option linter.all false
set_option maxRecDepth 100000
set_option maxHeartbeats 4000000
namespace VL
open PySem PySem.Spec PyProof.Rows L2 RZ
open PySem.W (Frag)
/-! ### the heap has only grown -/
theorem grow {K : Frag} {F F' : Addr → Prop} {ρ : Nat → Addr} {H H' : Hp} {L : LS} (o : Ok K F ρ H L) (k : ∀ a, H a ≠ none → H' a = H a) (up : ∀ a, F a → F' a) (fr : ∀ a, F' a → F a ∨ (H a = none ∧ H' a ≠ none)) : Step F ρ H L F' ρ H' L ∧ Ok K F' ρ H' L := by
  have kf : ∀ a, F a → F' a ∧ H' a = H a := fun a f => ⟨up a f, k a (o.stands a f)⟩
  refine ⟨⟨kf, Nat.le_refl _, fun _ _ => rfl, fun a w e _ => by rw [k a (by rw [e]; simp)]; exact e, fun n lo h e _ => absurd (List.getElem?_eq_some_iff.mp e).1 (Nat.not_lt.mpr h), fun n lo _ e t => ⟨lo, e, t⟩, fun a h => ?_, fun a h => (fr a h).elim .inl fun z => .inr (.inl z.1)⟩, ⟨fun m lo q => ?_, o.inj, fun a f => ?_⟩⟩
  · cases e : H a with
    | none => rfl
    | some u => rw [k a (by rw [e]; simp), e] at h; cases h
  · have h := o.at_ m lo q
    have nf : ∀ {w : HO}, ¬ F (ρ m) → H (ρ m) = some w → ¬ F' (ρ m) := fun n e z => (fr _ z).elim n fun y => by rw [y.1] at e; cases e
    have ke : ∀ {w : HO}, H (ρ m) = some w → H' (ρ m) = some w := fun e => by rw [k _ (by rw [e]; simp)]; exact e
    cases lo with
    | l xs => obtain ⟨f, vs, h1, h2⟩ := h; exact ⟨nf f h1, vs, ke h1, RepL.mono kf xs h2⟩
    | d ks xs => obtain ⟨f, vs, h1, h2, h3⟩ := h; exact ⟨nf f h1, vs, ke h1, h2, RepL.mono kf xs h3⟩
    | t ks xs => obtain ⟨f, vs, h1, h2, h3⟩ := h; exact ⟨nf f h1, vs, ke h1, h2, RepL.mono kf xs h3⟩
    | i C ns xs => obtain ⟨f, dx, fs, h1, oc, h2, h3⟩ := h; exact ⟨nf f h1, dx, fs, ke h1, oc, h2, RepL.mono kf xs h3⟩
    | z d => exact Rep.mono kf d h
  · rcases fr a f with z | z
    · rw [(kf a z).2]; exact o.stands a z
    · exact z.2
/-! ### the items of a zip, collected -/
theorem nolen_zip : typeLookup (.type "zip") "__len__" = pure none := by rw [typeLookup_type, builtinLookup_eq_fast]; kernel_rfl
theorem nohint_zip : typeLookup (.type "zip") "__length_hint__" = pure none := by rw [typeLookup_type, builtinLookup_eq_fast]; kernel_rfl
/-- the zip object: its own tuple is free, or held -/
def ZSt (l : Addr) (h : Heap) (zo ti tu p q a b : Addr) (ba bb : Bool) (n : Nat) : Prop :=
  (IsZip h zo ti tu .none ∨ ∃ T f o, IsZipHeld h zo ti tu T f ∧ h.get? T = some o ∧ T ≠ zo ∧ T ≠ p ∧ T ≠ q ∧ T ≠ l) ∧ (∃ x y, IsPair h tu x y) ∧ IsPair h ti (.ref p) (.ref q) ∧ IsIt ba h p a n ∧ IsIt bb h q b n
theorem ZSt.mv {l : Addr} {h h' : Heap} {zo ti tu p q a b : Addr} {ba bb : Bool} {n : Nat} (z : ZSt l h zo ti tu p q a b ba bb n) (ne : ∀ c ∈ [zo, ti, tu, p, q], c ≠ l) (k : ∀ c o, c ≠ l → h.get? c = some o → h'.get? c = some o) : ZSt l h' zo ti tu p q a b ba bb n := by
  obtain ⟨z0, ⟨x, y, z1⟩, z2, z3, z4⟩ := z
  refine ⟨?_, ⟨x, y, k _ _ (ne tu (by simp)) z1⟩, k _ _ (ne ti (by simp)) z2, z3.mv fun o e => k _ o (ne p (by simp)) e, z4.mv fun o e => k _ o (ne q (by simp)) e⟩
  rcases z0 with z0 | ⟨T, f, o, y0, y1, y2, y3, y4, y5⟩
  · exact .inl (k _ _ (ne zo (by simp)) z0)
  · exact .inr ⟨T, f, o, k _ _ (ne zo (by simp)) y0, k _ _ y5 y1, y2, y3, y4, y5⟩
section
variable {X : Cx} {pins : List (Addr × Obj)} {σ : L2.St}
/-- what has been collected: new pairs -/
def Col (H0 H : Hp) (l : Addr) (vs ws : List V) (Ts : List Addr) : Prop := ∀ (i : Nat) T, Ts[i]? = some T → ∃ x y, vs[i]? = some x ∧ ws[i]? = some y ∧ H T = some (.tup [x, y]) ∧ H0 T = none ∧ T ≠ l
theorem zcol {zo ti tu p q a b l : Addr} {ba bb : Bool} {vs ws : List V} {H0 : Hp} {A1 : Around} {Rs : Result → Shared → Prop} (hc : X.calm = true) (hh : A1.in1.in1.handled = none) (Z : ZipApart zo ti tu p q a b) (hl0 : H0 l = none) (hsz : vs.length ≤ sizeLine)
    (done : ∀ Ts H s, Ts.length = min vs.length ws.length → Inv X pins σ H s → H l = some (.lst (Ts.map V.ref)) → (∀ c, H0 c ≠ none → H c = H0 c) → Col H0 H l vs ws Ts → Rs (.ok (.ret (.ref l))) s) :
    ∀ (m n : Nat) (Ts : List Addr) (H : Hp) (s : Shared), n + m = min vs.length ws.length → Ts.length = n → Inv X pins σ H s → (∀ c ∈ [zo, ti, tu, p, q], FpOk X pins H c) → H l = some (.lst (Ts.map V.ref)) → (∀ c, H0 c ≠ none → H c = H0 c) → Col H0 H l vs ws Ts → SqG ba X.K H a vs → SqG bb X.K H b ws →
      a ≠ l → b ≠ l → ZSt l s.heap zo ti tu p q a b ba bb n → codeAny (model X.prog X.w) A1 (.builtin "list.extend.loop" ⟨[.ref l, .ref zo, .ref l], []⟩) Rs s := by
  intro m
  induction m with
  | zero =>
    intro n Ts H s hn hT I hf hl hk hcol sa sb nal nbl zs
    refine codeAny_builtin PySem.F.entry_extend_loop ?_
    rw [Around.under_plainId PySem.F.plain_extend_loop _]
    show wpAny _ A1.in1 (pyNext (.ref zo) >>= _) _ _ s
    obtain ⟨its, rv, p1⟩ := sa.is I
    obtain ⟨its2, rv2, p2⟩ := sb.is I
    have l1 := rv.length
    have l2 := rv2.length
    have ge : its.toArray[n]? = none ∨ its2.toArray[n]? = none := by
      by_cases h : vs.length ≤ n
      · exact .inl (by simp; omega)
      · exact .inr (by simp; omega)
    obtain ⟨zz, ⟨x0, y0, g2⟩, g1, g3, g4⟩ := zs
    have hT' : s.TypeIs (.ref zo) "zip" := by
      rcases zz with z0 | ⟨T, f, o, z0, _⟩
      · exact ⟨_, z0, rfl⟩
      · exact ⟨_, z0, rfl⟩
    have fin : ∀ h', (∀ c o, c ∉ [zo, ti, tu, p, q] → s.heap.get? c = some o → h'.get? c = some o) → Rs (.ok (.ret (.ref l))) { s with heap := h' } := fun h' k => by
      refine done Ts H _ (by omega) (I.turnedL (t' := s.toks) (ch := [zo, ti, tu, p, q]) (fun c o hb e => k c o hb e) hf) hl hk hcol
    refine wpAny_bind ?_
    unfold pyNext
    rcases zz with z0 | ⟨T, f, o, z0, z2, t1, t2, t3, t4⟩
    · refine wpAny_bind (wpAny_attempt (wpAny_callSpecial?_slot (name := Str.ofString "__next__") hT' F.slot_zip_next (wpAny_call_entry F.slot_zip_next hT' F.entry_zip_next (zg_end hh Z z0 g1 g2 g3 g4 p1 p2 ge fun h' e k he => ?_) (F.args_zip_next_1 _))))
      obtain ⟨oe, ho, hcl⟩ := he
      refine wpAny_bind (wpAny_isInstance (T := "StopIteration") (b := true) ⟨oe, ho, hcl⟩ isSubtype_stop (wpAny_pure (wpAny_pure ?_)))
      exact fin h' fun c o hb e => k c o (fun n => hb (by simp [n])) (fun n => hb (by simp [n])) (fun n => hb (by simp [n])) (fun n => hb (by simp [n])) e
    · refine wpAny_bind (wpAny_attempt (wpAny_callSpecial?_slot (name := Str.ofString "__next__") hT' F.slot_zip_next (wpAny_call_entry F.slot_zip_next hT' F.entry_zip_next (zh_end hh Z z0 z2 g1 g3 g4 p1 p2 ge fun h' e k he => ?_) (F.args_zip_next_1 _))))
      obtain ⟨oe, ho, hcl⟩ := he
      refine wpAny_bind (wpAny_isInstance (T := "StopIteration") (b := true) ⟨oe, ho, hcl⟩ isSubtype_stop (wpAny_pure (wpAny_pure ?_)))
      exact fin h' fun c o hb e => k c o (fun n => hb (by simp [n])) (fun n => hb (by simp [n])) (fun n => hb (by simp [n])) e
  | succ m ih =>
    intro n Ts H s hn hT I hf hl hk hcol sa sb nal nbl zs
    refine codeAny_builtin PySem.F.entry_extend_loop ?_
    rw [Around.under_plainId PySem.F.plain_extend_loop _]
    show wpAny _ A1.in1 (pyNext (.ref zo) >>= _) _ _ s
    have hn1 : n < vs.length := by omega
    have hn2 : n < ws.length := by omega
    obtain ⟨its, rv, p1⟩ := sa.is I
    obtain ⟨its2, rv2, p2⟩ := sb.is I
    obtain ⟨u, hu, ru⟩ := rv.get (List.getElem?_eq_getElem hn1)
    obtain ⟨u2, hu2, ru2⟩ := rv2.get (List.getElem?_eq_getElem hn2)
    obtain ⟨zz, ⟨x0, y0, g2⟩, g1, g3, g4⟩ := zs
    have hT' : s.TypeIs (.ref zo) "zip" := by
      rcases zz with z0 | ⟨T, f, o, z0, _⟩
      · exact ⟨_, z0, rfl⟩
      · exact ⟨_, z0, rfl⟩
    have lz : zo < s.heap.objs.size := by
      rcases zz with z0 | ⟨T, f, o, z0, _⟩
      · exact Heap.lt_size z0
      · exact Heap.lt_size z0
    have l1 := rv.length
    have l2 := rv2.length
    have nel : ∀ c ∈ [zo, ti, tu, p, q], c ≠ l := fun c hcm e => by
      have f := (hf c hcm).1
      rw [e, hl] at f
      cases f
    have lts : ∀ c ∈ [zo, ti, tu, p, q], c < s.heap.objs.size := fun c hcm => by
      rcases mem5 hcm with e | e | e | e | e <;> rw [e]
      · exact lz
      · exact Heap.lt_size g1
      · exact Heap.lt_size g2
      · exact g3.lt
      · exact g4.lt
    have go : ∀ h', IsPair h' s.heap.objs.size u u2 → (∀ c o, c ∉ [zo, ti, tu, p, q] → s.heap.get? c = some o → h'.get? c = some o) → ZSt l h' zo ti tu p q a b ba bb (n + 1) →
        wpAny (model X.prog X.w) A1.in1 (Builtin.List.listUpdate (.ref l) (·.push (.ref s.heap.objs.size)) >>= fun _ => again (.builtin "list.extend.loop" ⟨[.ref l, .ref zo, .ref l], []⟩)) (fun fin s' => match fin with | .done f => Rs (.ok f) s' | .again c' => c'.quiet = true ∧ codeAny (model X.prog X.w) A1 c' Rs s') (fun e s' => Rs (.error e) s') { s with heap := h' } := by
      intro h' hp k zs'
      have new : ObjOk X.prog X.w (upd H s.heap.objs.size (.tup [vs[n], ws[n]])) h' s.heap.objs.size (.tup [vs[n], ws[n]]) := ⟨by show 2 ≤ sizeLine; decide, [u, u2], .cons ru (.cons ru2 .nil), ⟨_, hp, rfl, _, rfl⟩⟩
      have I1 : Inv X pins σ (upd H s.heap.objs.size (.tup [vs[n], ws[n]])) { s with heap := h' } := I.turnedNew (t' := s.toks) (ch := [zo, ti, tu, p, q]) (fun c o hb e => k c o hb e) hf (Nat.le_refl _) new
      have fr : H s.heap.objs.size = none := I.hok.fresh (Nat.le_refl _)
      have nl : l ≠ s.heap.objs.size := ne_of_none hl fr
      have hl1 : upd H s.heap.objs.size (.tup [vs[n], ws[n]]) l = some (.lst (Ts.map V.ref)) := by rw [upd_ne nl]; exact hl
      obtain ⟨z, its3, k3, r3, hl3, e3⟩ := I1.lstM hl1
      show wpAny _ A1.in1 (updateSeq l (·.push (.ref s.heap.objs.size)) >>= _) _ _ _
      have hlen : Ts.length < sizeLine := by omega
      have li : its3.length = Ts.length := by have := r3.length; rw [List.length_map] at this; exact this.symm
      refine wpAny_bind (wpAny_updateSeq e3 rfl (wpAny_pure ⟨plainId_quiet PySem.F.plain_extend_loop _, ?_⟩) (by rw [List.size_toArray]; omega) (by show (its3.toArray.push (.ref s.heap.objs.size)).size ≤ sizeLine + 1; rw [Array.size_push, List.size_toArray]; omega))
      have I2 := I1.lset (f := (·.push (Value.ref s.heap.objs.size))) (its' := its3 ++ [.ref s.heap.objs.size]) (ys := Ts.map V.ref ++ [.ref s.heap.objs.size]) (t' := s.toks) hl1 e3 (by simp) (r3.append (.cons (show L2.RelV (V.ref s.heap.objs.size) (Value.ref s.heap.objs.size) from rfl) .nil)) (by rw [List.length_append, List.length_singleton]; omega)
      have e5 : Ts.map V.ref ++ [V.ref s.heap.objs.size] = (Ts ++ [s.heap.objs.size]).map V.ref := by simp
      rw [e5] at I2
      have same : ∀ c, c ≠ l → c ≠ s.heap.objs.size → upd (upd H s.heap.objs.size (.tup [vs[n], ws[n]])) l (.lst ((Ts ++ [s.heap.objs.size]).map V.ref)) c = H c := fun c c1 c2 => by rw [upd_ne c1, upd_ne c2]
      have sq : ∀ {bq : Bool} {c : Addr} {us : List V}, c ≠ l → SqG bq X.K H c us → SqG bq X.K (upd (upd H s.heap.objs.size (.tup [vs[n], ws[n]])) l (.lst ((Ts ++ [s.heap.objs.size]).map V.ref))) c us := fun {bq c us} ncl h => by
        have mv : ∀ {w : HO}, H c = some w → upd (upd H s.heap.objs.size (.tup [vs[n], ws[n]])) l (.lst ((Ts ++ [s.heap.objs.size]).map V.ref)) c = some w := fun e => by rw [same c ncl (ne_of_none e fr)]; exact e
        cases bq
        · rcases (show SqT X.K H c us from h) with z | z
          · rcases z with y | ⟨oo, y⟩
            · exact .inl (.inl (mv y))
            · exact .inl (.inr ⟨oo, mv y⟩)
          · exact .inr z
        · rcases (show SqL X.K H c us from h) with z | z
          · rcases z with y | ⟨oo, y⟩
            · exact .inl (.inl (mv y))
            · exact .inl (.inr ⟨oo, mv y⟩)
          · exact .inr z
      refine ih (n + 1) (Ts ++ [s.heap.objs.size]) _ _ (by omega) (by simp [hT]) I2 (fun c hcm => ?_) upd_same (fun c hc0 => ?_) ?_ (sq nal sa) (sq nbl sb) nal nbl ?_
      · have f := hf c hcm
        have ncl : c ≠ l := nel c hcm
        have ncs : c ≠ s.heap.objs.size := Nat.ne_of_lt (lts c hcm)
        exact ⟨by rw [same c ncl ncs]; exact f.1, f.2⟩
      · have ncl : c ≠ l := fun e => hc0 (e ▸ hl0)
        have hHc := hk c hc0
        rw [same c ncl (fun e => by rw [e, fr] at hHc; exact hc0 (e ▸ hHc.symm))]
        exact hHc
      · intro i T hi
        by_cases hlt : i < Ts.length
        · rw [List.getElem?_append_left hlt] at hi
          obtain ⟨x, y, a1, a2, a3, a4, a5⟩ := hcol i T hi
          exact ⟨x, y, a1, a2, by rw [same T a5 (ne_of_none a3 fr)]; exact a3, a4, a5⟩
        · have hi' : i = Ts.length := by
            have := (List.getElem?_eq_some_iff.mp hi).1
            simp at this
            omega
          subst hi'
          rw [List.getElem?_append_right (Nat.le_refl _)] at hi
          simp at hi
          subst hi
          refine ⟨vs[n], ws[n], by rw [hT]; exact List.getElem?_eq_getElem hn1, by rw [hT]; exact List.getElem?_eq_getElem hn2, by rw [upd_ne (Ne.symm nl)]; exact upd_same, ?_, Ne.symm nl⟩
          cases e : H0 s.heap.objs.size with
          | none => rfl
          | some w => have := hk _ (by rw [e]; simp); rw [fr, e] at this; cases this
      · exact zs'.mv nel fun c o n e => (Heap.get?_update_other _ _ (Ne.symm n)).trans e
    refine wpAny_bind ?_
    unfold pyNext
    rcases zz with z0 | ⟨T, f, o, z0, z2, t1, t2, t3, t4⟩
    · refine wpAny_bind (wpAny_attempt (wpAny_callSpecial?_slot (name := Str.ofString "__next__") hT' F.slot_zip_next (wpAny_call_entry F.slot_zip_next hT' F.entry_zip_next (zg_item Z z0 g1 g2 g3 g4 p1 p2 (x := u) (y := u2) (by simpa using hu) (by simpa using hu2) fun h' w0 w1 w2 w3 w4 w5 k => wpAny_pure ?_) (F.args_zip_next_1 _))))
      refine go h' w4 (fun c o hb e => k c o (fun n => hb (by simp [n])) (fun n => hb (by simp [n])) (fun n => hb (by simp [n])) (fun n => hb (by simp [n])) e) ⟨.inr ⟨_, false, _, w0, w4, ?_, ?_, ?_, ne_of_none hl (I.hok.fresh (Nat.le_refl _)) |>.symm⟩, ⟨_, _, w1⟩, k _ _ Z.TIz Z.TITO Z.TIi1 Z.TIi2 g1, w2, w3⟩
      · exact Nat.ne_of_gt lz
      · exact Nat.ne_of_gt g3.lt
      · exact Nat.ne_of_gt g4.lt
    · refine wpAny_bind (wpAny_attempt (wpAny_callSpecial?_slot (name := Str.ofString "__next__") hT' F.slot_zip_next (wpAny_call_entry F.slot_zip_next hT' F.entry_zip_next (zh_item Z z0 z2 g1 g3 g4 p1 p2 (x := u) (y := u2) (by simpa using hu) (by simpa using hu2) fun h' w0 w2 w3 w4 w5 k => wpAny_pure ?_) (F.args_zip_next_1 _))))
      exact go h' w4 (fun c o hb e => k c o (fun n => hb (by simp [n])) (fun n => hb (by simp [n])) (fun n => hb (by simp [n])) e) ⟨.inr ⟨T, true, o, w0, k _ _ t1 t2 t3 z2, t1, t2, t3, t4⟩, ⟨_, _, k _ _ Z.TOz Z.TOi1 Z.TOi2 g2⟩, k _ _ Z.TIz Z.TIi1 Z.TIi2 g1, w2, w3⟩
theorem collect_zip {zo ti tu p q a b : Addr} {ba bb : Bool} {vs ws : List V} {H : Hp} {s : Shared} {E : Value → Shared → Prop} {Q : List Value → Shared → Prop} (hc : X.calm = true) (I : Inv X pins σ H s) (Z : ZipApart zo ti tu p q a b) (z0 : IsZip s.heap zo ti tu .none) (z1 : IsPair s.heap ti (.ref p) (.ref q)) (z2 : IsPair s.heap tu .none .none) (z3 : IsIt ba s.heap p a 0) (z4 : IsIt bb s.heap q b 0)
    (fp : ∀ c ∈ [zo, ti, tu, p, q], FpOk X pins H c) (sa : SqG ba X.K H a vs) (sb : SqG bb X.K H b ws) (hsz : vs.length ≤ sizeLine)
    (k : ∀ Ts H' us s', Inv X pins σ H' s' → Ts.length = min vs.length ws.length → Vals (Ts.map V.ref) us → (∀ c, H c ≠ none → H' c = H c) → Col H H' s.heap.objs.size vs ws Ts → Q us s') : wpAny (model X.prog X.w) X.A (collect (.ref zo)) Q E s := by
  obtain ⟨_, _, la⟩ := sa.is I
  obtain ⟨_, _, lb⟩ := sb.is I
  have lz : zo < s.heap.objs.size := Heap.lt_size z0
  have fr : H s.heap.objs.size = none := I.hok.fresh (Nat.le_refl _)
  unfold collect
  refine wpAny_bind (wpAny_runValue (codeAny_builtin F.entry_proto_collect ?_)); rw [Around.under_plainId F.plain_proto_collect _]
  show wpAny _ X.A.in1 (newList [] >>= fun x => again (.builtin "list.__iadd__" ⟨[x, .ref zo], []⟩)) _ _ s
  refine wpAny_bind (wpAny_newObj_type (wpAny_pure ⟨plainId_quiet F.plain_list_iadd _, codeAny_builtin F.entry_list_iadd ?_⟩)); rw [Around.under_plainId F.plain_list_iadd _]
  have I1 : Inv X pins σ (upd H s.heap.objs.size (.lst [])) { s with heap := s.heap.push { cls := .type "list", data := .seq ([] : List Value).toArray } } := I.lnew (its := []) (t' := s.toks) .nil (Nat.zero_le _)
  have up : ∀ c o, s.heap.get? c = some o → (s.heap.push { cls := .type "list", data := .seq ([] : List Value).toArray }).get? c = some o := fun c o e => Heap.get?_push_of_some _ e
  have y0 := up _ _ z0
  have hT : Shared.TypeIs { s with heap := s.heap.push { cls := .type "list", data := .seq ([] : List Value).toArray } } (.ref zo) "zip" := ⟨_, y0, rfl⟩
  show wpAny _ X.A.in1 (Builtin.List.listExtendWith (.ref s.heap.objs.size) (.ref zo) (.ref s.heap.objs.size)) _ _ _
  unfold Builtin.List.listExtendWith
  refine wpAny_bind (wpAny_typeOf hT ?_)
  have c1 : Builtin.List.listSameRef (.ref s.heap.objs.size) (.ref zo) = false := by simp [Builtin.List.listSameRef, Nat.ne_of_gt lz]
  have c2 : (Value.type "zip" == Value.type "list") = false := by decide
  have c3 : (Value.type "zip" == Value.type "tuple") = false := by decide
  simp only [c1, c2, c3, Bool.or_false, Bool.false_eq_true, if_false]
  refine wpAny_bind (wpAny_pyIter_zip y0 (wpAny_bind (wpAny_holding ?_)))
  unfold Builtin.List.listLengthHint
  refine wpAny_bind (wpAny_specialOf hT nolen_zip ?_)
  show wpAny _ X.A.in1 (specialOf (Value.ref zo) (Str.ofString "__length_hint__") >>= _) _ _ _
  refine wpAny_bind (wpAny_specialOf hT nohint_zip (wpAny_pure ?_))
  show wpAny _ X.A.in1 (rule "list.extend.makes-room" >>= fun _ => Builtin.List.listTouch (.ref s.heap.objs.size) >>= fun _ => again (.builtin "list.extend.loop" ⟨[.ref s.heap.objs.size, .ref zo, .ref s.heap.objs.size], []⟩)) _ _ _
  refine wpAny_bind (wpAny_rule (wpAny_bind ?_))
  show wpAny _ X.A.in1 (updateSeq s.heap.objs.size (·.push .none) >>= fun _ => updateSeq s.heap.objs.size (·.pop)) _ _ _
  obtain ⟨z, its, n0, r3, hl3, e3⟩ := I1.lstM upd_same
  cases r3
  refine wpAny_bind (wpAny_updateSeq e3 rfl ?_)
  have I2 := I1.lset (f := (·.push Value.none)) (its' := [Value.none]) (ys := [.non]) (t' := s.toks) upd_same e3 (by simp) (.cons rfl .nil) (by rw [List.length_singleton, sizeLine_eq]; decide)
  obtain ⟨z5, its5, n5, r5, hl5, e5⟩ := I2.lstM upd_same
  obtain ⟨u5, rfl, ru5⟩ := r5.one
  refine wpAny_updateSeq e5 rfl ?_ (by show 1 ≤ sizeLine; rw [sizeLine_eq]; decide) (by show 0 ≤ sizeLine + 1; exact Nat.zero_le _)
  have I3 := I2.lset (f := (·.pop)) (its := [u5]) (its' := []) (ys := []) (t' := s.toks) upd_same e5 (by rfl) .nil (Nat.zero_le _)
  rw [upd_upd, upd_upd] at I3
  have oth : ∀ c o, c ≠ s.heap.objs.size → s.heap.get? c = some o → (((s.heap.push { cls := .type "list", data := .seq ([] : List Value).toArray }).update s.heap.objs.size (Obj.mapSeq (·.push Value.none))).update s.heap.objs.size (Obj.mapSeq (·.pop))).get? c = some o :=
    fun c o n e => (Heap.get?_update_other _ _ (Ne.symm n)).trans ((Heap.get?_update_other _ _ (Ne.symm n)).trans (up c o e))
  have lts : ∀ c ∈ [zo, ti, tu, p, q], c < s.heap.objs.size := fun c hcm => by
    rcases mem5 hcm with e | e | e | e | e <;> rw [e]
    · exact lz
    · exact Heap.lt_size z1
    · exact Heap.lt_size z2
    · exact z3.lt
    · exact z4.lt
  have nes : ∀ c ∈ [zo, ti, tu, p, q], c ≠ s.heap.objs.size := fun c h => Nat.ne_of_lt (lts c h)
  have sqm : ∀ {bq : Bool} {c : Addr} {us : List V}, SqG bq X.K H c us → SqG bq X.K (upd H s.heap.objs.size (.lst [])) c us := fun {bq c us} h => by
    have mv : ∀ {w : HO}, H c = some w → upd H s.heap.objs.size (.lst []) c = some w := fun e => by rw [upd_ne (ne_of_none e fr)]; exact e
    cases bq
    · rcases (show SqT X.K H c us from h) with z | z
      · rcases z with y | ⟨oo, y⟩
        · exact .inl (.inl (mv y))
        · exact .inl (.inr ⟨oo, mv y⟩)
      · exact .inr z
    · rcases (show SqL X.K H c us from h) with z | z
      · rcases z with y | ⟨oo, y⟩
        · exact .inl (.inl (mv y))
        · exact .inl (.inr ⟨oo, mv y⟩)
      · exact .inr z
  refine wpAny_pure ⟨plainId_quiet F.plain_extend_loop _, zcol (H0 := H) (A1 := X.A) hc (I.ok.hd hc) Z fr hsz ?_ (min vs.length ws.length) 0 [] _ _ (Nat.zero_add _) rfl I3 (fun c h => ⟨by rw [upd_ne (nes c h)]; exact (fp c h).1, (fp c h).2⟩) upd_same (fun c h => upd_ne (show c ≠ s.heap.objs.size from fun e => h (by rw [e]; exact fr))) (fun i T h => by simp at h) (sqm sa) (sqm sb) (Nat.ne_of_lt la.lt) (Nat.ne_of_lt lb.lt) ?_⟩
  · intro Ts H' s' hl I' hL hk hcol
    obtain ⟨z, its, n0, r3, hl3, e3⟩ := I'.lstM hL
    show wpAny _ X.A (load s.heap.objs.size >>= _) _ _ s'
    refine wpAny_bind (wpAny_load e3 (wpAny_pure ?_))
    have e : its.toArray.toList = its := by simp
    rw [e]
    exact k Ts H' its s' I' hl r3 hk hcol
  · exact ⟨.inl (oth _ _ (nes zo (by simp)) z0), ⟨_, _, oth _ _ (nes tu (by simp)) z2⟩, oth _ _ (nes ti (by simp)) z1, z3.mv fun o e => oth _ o (nes p (by simp)) e, z4.mv fun o e => oth _ o (nes q (by simp)) e⟩
end
/-! ### stars in displays and argument lists -/
theorem RepL.us {K : Frag} {F : Addr → Prop} {ρ : Nat → Addr} {H : Hp} {L : LS} : ∀ {ds : List D} {vs : List V}, RepL K F H ds vs → RepUs K F ρ H L (ds.map U.d) vs
  | [], _, h => h
  | d :: ds, _, ⟨v, r, e, h, t⟩ => ⟨v, r, e, h, RepL.us t⟩
theorem RepUs.app {K : Frag} {F : Addr → Prop} {ρ : Nat → Addr} {H : Hp} {L : LS} : ∀ {us ws : List U} {vs xs : List V}, RepUs K F ρ H L us vs → RepUs K F ρ H L ws xs → RepUs K F ρ H L (us ++ ws) (vs ++ xs)
  | [], _, _, _, h, q => by cases h; exact q
  | u :: us, _, _, _, ⟨v, r, e, h, t⟩, q => by subst e; exact ⟨v, _, rfl, h, RepUs.app t q⟩
section
variable {X : Cx} {W : WX} {a b c e tg : Expr} {fa fb fc fe : EF} {pos : Pos} {es : List Expr} {f f2 : AF} {T : IterT} {k : Nat}
def aStar (fa : EF) (f : AF) : AF := fun st L => (fa st L).bind fun x L1 => opt (fzU L1 x) fun p => match p.1 with
  | .tup xs => (f st p.2).bind fun us L2 => .ok (xs.map U.d ++ us) L2
  | .lst xs => (f st p.2).bind fun us L2 => .ok (xs.map U.d ++ us) L2
  | _ => .no
theorem ka_star {p : Pos} (he : KE X W e fe) (hr : KA X W es f) (hs : starEach (.Starred e p :: es) X.env = (true, eval e X.env) :: starEach es X.env := by rfl) : KA X W (.Starred e p :: es) (aStar fe f) := by
  refine pa_wk (StX.pa_star he hr hs) fun σ H Q ⟨F, ρ, L, st, o, r, h⟩ => ?_
  refine RG.one o r h fun x H1 F1 ρ1 L1 u s1 o1 r1 p1 h1 => ?_
  obtain ⟨⟨d, L2⟩, e1, h2⟩ := h1.opt
  obtain ⟨F2, s2, o2, q2⟩ := fzU_ok o1 p1 e1
  have h2 := GE.on s2 h2
  dsimp only at h2
  split at h2
  · obtain ⟨q, vs, rfl, g1, g2⟩ := q2
    refine ⟨q, vs, rfl, .inl g1.sq, RG.one (P := RepUs) o2 (r1.mono s2) h2 fun ys H3 F3 ρ3 L3 us s3 o3 r3 p3 h3 => ?_⟩
    exact h3.fin o3 (RepUs.app (RepL.us (RepL.mono s3.fz _ g2)) p3)
  · obtain ⟨q, vs, rfl, g1, g2⟩ := q2
    refine ⟨q, vs, rfl, .inr (.inl (.inl g1.2)), RG.one (P := RepUs) o2 (r1.mono s2) h2 fun ys H3 F3 ρ3 L3 us s3 o3 r3 p3 h3 => ?_⟩
    exact h3.fin o3 (RepUs.app (RepL.us (RepL.mono s3.fz _ g2)) p3)
  · exact h2.elim
/-- *zip(x, y) -/
def aStarZ (T : IterT) (f f2 : AF) : AF := fun st L => (f st L).bind fun us L1 => opt (fzUs L1 us) fun p => match p.1 with
  | [dx, dy] => opt (itemsOf T dx) fun xs => opt (itemsOf T dy) fun ys => if xs.length ≤ big then (f2 st p.2).bind fun ws L2 => .ok ((zipD xs ys).map U.d ++ ws) L2 else .no
  | _ => .no
theorem col_rep {K : Frag} {F F' : Addr → Prop} {H H' : Hp} (k : ∀ a, F a → F' a ∧ H' a = H a) : ∀ {xs ys : List D} {vs ws : List V} {Ts : List Addr}, RepL K F H xs vs → RepL K F H ys ws → Ts.length = min vs.length ws.length → (∀ (i : Nat) T, Ts[i]? = some T → F' T ∧ ∃ x y, vs[i]? = some x ∧ ws[i]? = some y ∧ H' T = some (.tup [x, y])) → RepL K F' H' (zipD xs ys) (Ts.map V.ref)
  | [], ys, vs, ws, Ts, h1, h2, hl, _ => by
    cases h1
    have : Ts = [] := List.length_eq_zero_iff.mp (by simpa using hl)
    subst this
    simp [zipD, RepL]
  | x :: xs, [], vs, ws, Ts, h1, h2, hl, _ => by
    cases h2
    have : Ts = [] := List.length_eq_zero_iff.mp (by simpa using hl)
    subst this
    simp [zipD, RepL]
  | x :: xs, y :: ys, _, _, Ts, ⟨v, vs, e1, r1, t1⟩, ⟨w, ws, e2, r2, t2⟩, hl, hT => by
    subst e1 e2
    cases Ts with
    | nil => simp at hl
    | cons T Ts =>
      obtain ⟨f, x', y', ex, ey, ht⟩ := hT 0 T rfl
      simp at ex ey
      subst ex ey
      refine ⟨_, _, rfl, ⟨T, _, rfl, .inl ⟨f, .inl ht⟩, ⟨_, _, rfl, Rep.mono k x r1, _, _, rfl, Rep.mono k y r2, rfl⟩⟩, col_rep k t1 t2 (by simp at hl ⊢; omega) fun i T' hi => ?_⟩
      obtain ⟨f2, x2, y2, a1, a2, a3⟩ := hT (i + 1) T' (by simpa using hi)
      exact ⟨f2, x2, y2, by simpa using a1, by simpa using a2, a3⟩
theorem ka_starZ {p spos : Pos} (O : OwnTs X.prog X.w X.K X.mg X.base k T) (hr : Rm (k + 2) X.A) (hc : X.calm = true) (hm : X.mg "zip" = none) (ha : KA X W [a, b] f) (he : KA X W es f2) (hg : Gl X "zip" := by rfl) (hs : starEach [a, b] X.env = (false, eval a X.env) :: starEach [b] X.env := by rfl) (hpl : (backTo pos (starEach [b] X.env)).any (·.1) = false := by rfl)
    (hst : starEach (.Starred (.Call (.Name "zip" p) [a, b] [] pos) spos :: es) X.env = (true, eval (.Call (.Name "zip" p) [a, b] [] pos) X.env) :: starEach es X.env := by rfl) : KA X W (.Starred (.Call (.Name "zip" p) [a, b] [] pos) spos :: es) (aStarZ T f f2) := by
  refine ⟨fun po pins s σ H Q I ⟨F, ρ, L, st, o, r, h⟩ => ?_⟩
  refine PySem.W.items_star (Call_ (ld_blt I hg hm PyProof.Rows.boot_zip (PyProof.Rows.callWith_type1 (thn (PA.run ha pos pins s σ H _ I (RG.one (P := RepUs) (Q' := fun vs H1 => ∃ F1 ρ1 L1 us, Ok X.K F1 ρ1 H1 L1 ∧ RepSt X.K F1 ρ1 H1 L1 σ st ∧ RepUs X.K F1 ρ1 H1 L1 us vs ∧ GE RepUs X.K W σ F1 ρ1 H1 L1 Q (opt (fzUs L1 us) fun p => match p.1 with
    | [dx, dy] => opt (itemsOf T dx) fun xs => opt (itemsOf T dy) fun ys => if xs.length ≤ big then (f2 st p.2).bind fun ws L2 => .ok ((zipD xs ys).map U.d ++ ws) L2 else .no
    | _ => .no)) o r h fun x H1 F1 ρ1 L1 u s1 o1 r1 p1 h1 => ⟨F1, ρ1, L1, u, o1, r1, p1, h1⟩)) fun us s1 ⟨vs, H1, I1, rv, F1, ρ1, L1, uu, o1, r1, p1, h1⟩ => ?_) hs hpl))) hst
  obtain ⟨⟨ds, L2⟩, e1, h2⟩ := h1.opt
  obtain ⟨F2, s2, o2, q2⟩ := fzUs_ok o1 p1 e1
  have h2 := GE.on s2 h2
  dsimp only at h2
  split at h2
  · rename_i dx dy
    obtain ⟨xs, e2, h3⟩ := h2.opt
    obtain ⟨ys, e3, h4⟩ := h3.opt
    obtain ⟨hz, h5⟩ := ge_if h4
    clear h1 h2 h3 h4
    obtain ⟨v1, _, rfl, ra', v2, _, rfl, rb', rfl⟩ := q2
    cases rv with
    | cons ra rr =>
      cases rr with
      | cons rb rn =>
        cases rn
        refine zip_made hr O I1 ra' rb' ra rb e2 e3 fun ba bb a b vs ws zo ti tu p pp s' ga gb gc gd zp I2 z0 z1 z2 i1 i2 fp => ?_
        have hT : s'.TypeIs (.ref zo) "zip" := ⟨_, z0, rfl⟩
        unfold PySem.W.StarOf notIterableAtAll
        refine wpAny_bind (wpAny_specialOf hT PySem.F.slot_zip_iter.lookup (wpAny_pure ⟨rfl, ?_⟩))
        refine collect_zip hc I2 zp z0 z1 z2 i1 i2 fp ga.sq gc.sq (by rw [big_eq, gb.length]; exact hz) fun Ts H3 us3 s3 I3 hl rv3 hk hcol => ?_
        obtain ⟨s4, o4⟩ := grow (F' := fun c => F2 c ∨ c ∈ Ts) o2 hk (fun c f => .inl f) fun c f => f.elim .inl fun f => by
          obtain ⟨i, hi⟩ := List.mem_iff_getElem?.mp f
          obtain ⟨x, y, _, _, g1, g2, _⟩ := hcol i c hi
          exact .inr ⟨g2, by rw [g1]; simp⟩
        have rz : RepL X.K (fun c => F2 c ∨ c ∈ Ts) H3 (zipD xs ys) (Ts.map V.ref) := col_rep s4.fz gb gd hl fun i T hi => by
          obtain ⟨x, y, g1, g2, g3, _⟩ := hcol i T hi
          exact ⟨.inr (List.mem_iff_getElem?.mpr ⟨i, hi⟩), x, y, g1, g2, g3⟩
        refine thn (PA.run he po pins s3 σ H3 _ I3 (RG.one (P := RepUs) o4 ((r1.mono s2).mono s4) (GE.on s4 h5) fun ys' H5 F5 ρ5 L5 us5 s5 o5 r5 p5 h6 => (show Q (Ts.map V.ref ++ ys') H5 from h6.fin o5 (RepUs.app (RepL.us (RepL.mono s5.fz _ rz)) p5)))) fun ws' s6 ⟨vs6, H6, I6, r6, q6⟩ => ⟨_, H6, I6, rv3.append r6, q6⟩
  · exact h2.elim
end
end VL

set_option Elab.async false
set_option linter.all false
set_option maxRecDepth 100000
set_option maxHeartbeats 4000000
namespace VL
open PySem PySem.Spec PyProof.Rows L2 RZ
open PySem.W (Frag)
/-! ### x += y of own instances without a method of its own for it -/
/-- the class stands directly below object -/
def twoMro (K : Frag) (C : Addr) : Bool := (PySem.W.clsIn K C).any fun cd => decide (cd.mro = [.ref C, .type "object"])
def noIp (K : Frag) (C : Addr) (nm : String) : Bool := twoMro K C && decide (PySem.W.findIn K (.ref C) (dunderI nm) = some none)
section
variable {K : Frag} {C f : Addr}
theorem nofill {M : Model} {h : Heap} {nm : String} {b : Bool} (X : K.In h) (hc : noIp K C nm = true) (ho : typeLookup (.type "object") (dunderI nm) = pure none) : PySem.W.Looks M h (fillsInplaceSlot (.ref C) nm b) false := by
  obtain ⟨h1, h2⟩ := Bool.and_eq_true_iff.mp hc
  have h2 := of_decide_eq_true h2
  unfold twoMro at h1
  cases e : PySem.W.clsIn K C with
  | none => rw [e] at h1; cases h1
  | some cd =>
    rw [e] at h1
    have hm : cd.mro = [.ref C, .type "object"] := of_decide_eq_true h1
    intro A Q E s k q
    unfold fillsInplaceSlot
    refine wpAny_bind ((PySem.W.looks_clsIn X e).andThen (f := fun cd => pure cd.mro) .now A _ E s k ?_)
    rw [hm, List.anyM_cons]
    refine wpAny_bind (wpAny_bind (PySem.W.looks_findIn X h2 A _ E s k ?_))
    refine wpAny_pure ?_
    rw [if_neg Bool.false_ne_true, List.anyM_cons]
    refine wpAny_bind (wpAny_bind (wpAny_of_eq ho ?_))
    refine wpAny_pure ?_
    rw [if_neg Bool.false_ne_true]
    exact wpAny_pure q
theorem iop_K {prog : Program} {w : World} {A : Around} {E : Value → Shared → Prop} {s : Shared} {op : Operator} {x L : Addr} {h₀ : Heap} {m : Str → Option Value} {ox : Obj} {od : Option Obj} {b : Value} {Q : Value → Shared → Prop} (F : Fr h₀ L s.heap m) (X₀ : K.In h₀) (I : PySem.W.InstAt s.heap x ox C od) (hb : PySem.W.Looks (model prog w) s.heap (typeOf b) (.ref C)) (hc : PySem.W.selfFirst K C = true)
    (hi : noIp K C op.info.2 = true) (ho : typeLookup (.type "object") (dunderI op.info.2) = pure none) (hs : PySem.W.findIn K (.ref C) (PySem.dunder op.info.2) = some (some (.ref f))) (hf : PySem.W.isFn K (.ref f) = true)
    (h : wpAny (model prog w) A (call (.ref f) [.ref x, b]) (PySem.W.CmpBack Q) E s) : wpAny (model prog w) A (inplaceOp op (.ref x) b) Q E s := by
  have X := X₀.keeps F.keep
  obtain ⟨cd, hcd, hm⟩ := PySem.W.any_some hc
  obtain ⟨rest, hm⟩ : ∃ rest, cd.mro = .ref C :: rest := by
    cases q : cd.mro with
    | nil => rw [q] at hm; cases hm
    | cons a r => rw [q] at hm; exact ⟨r, by rw [List.head?_cons] at hm; cases (beq_iff_eq.mp hm); rfl⟩
  unfold inplaceOp
  refine wpAny_holding (wpAny_bind (I.type.here ?_))
  refine wpAny_bind ((nofill X hi ho).here ?_)
  simp only [Bool.false_eq_true, if_false]
  refine wpAny_bind ?_
  unfold binaryOp1
  refine wpAny_bind (I.type.here (wpAny_bind (hb.here (wpAny_bind ((PySem.W.fills_K X hcd hm hs).here ?_)))))
  simp only [beq_self_eq_true, if_true]
  refine wpAny_bind (wpAny_pure ?_); simp only [Bool.and_false, Bool.false_eq_true, if_false, Bool.false_and]
  refine wpAny_bind (wpAny_pure ?_); simp only [Bool.false_eq_true, if_false]
  refine wpAny_bind (m := tryMethod (.ref x) _ b) ?_
  unfold tryMethod
  refine wpAny_bind (PySem.W.special_fn X I hs (beq_iff_eq.mp hf) (wpAny_mono h (fun v s' hv => ?_) fun _ _ e => e))
  cases v <;> first | exact hv.elim | exact wpAny_pure (wpAny_pure (wpAny_pure hv))
end
section
variable {X : Cx} {W : WX} {a b c e : Expr} {fa fb fc fe : EF} {pos : Pos} {k : Nat} {C : Addr} {m : FF}
theorem op_ownI {op : Operator} (M : KM X.prog X.w X.K X.mg X.base k C (PySem.dunder op.info.2) 2 m) (hr : Rm k X.A) (tk : Takes X W) (hc : PySem.W.selfFirst X.K C = true) (hi : noIp X.K C op.info.2 = true) (ho : typeLookup (.type "object") (dunderI op.info.2) = pure none) : Op2U X W (inplaceOp op) (ownOp C m) := by
  intro pins s σ H x y v u Q F ρ L ux uy I o px py rx ry h
  obtain ⟨d, e, h1⟩ := h.opt
  replace h := h1
  clear h1
  split at h
  · rename_i C' ns xs
    split at h
    · rename_i hC
      subst hC
      obtain ⟨b, dy, gs, rfl, hb, ob, _⟩ := (show ∃ a dx fs, y = .ref a ∧ H a = some (.ins C' dx fs) ∧ OwnC X.K C' ∧ fs.map (·.1) = ns ∧ RepL X.K F H xs (fs.map (·.2)) from rdr_of o py e)
      obtain ⟨a, dx, fs, rfl, ha, oc, h⟩ := own2_of o px h
      cases rx; cases ry
      obtain ⟨od, J⟩ := inst_ins I ha
      obtain ⟨od', J'⟩ := inst_ins I hb
      obtain ⟨f, Me, run⟩ := M.go hr I.env0 tk I o (us := [ux, uy]) (vs := [.ref a, .ref b]) (uv := [.ref a, .ref b]) ⟨_, _, rfl, px, _, _, rfl, py, rfl⟩ (.cons rfl (.cons rfl .nil)) rfl h
      obtain ⟨mm, hF⟩ := I.fr
      exact iop_K hF I.ok.mod.kin J J'.type hc hi ho Me.at_ Me.fn (wpAny_mono run (fun _ _ z => back_ni z) fun _ _ z => z)
    · exact h.elim
  · exact h.elim
def sAugU (i : Nat) (g : U → U → LS → Rs U) (fe : EF) : SF := fun st L => match st[i]? with
  | some (some u) => ofR ((fe st L).bind fun v L1 => g u v L1) st fun w L2 => .nx (st.set i (some w)) L2
  | _ => .no
end
/-! ### a tuple's slice, a text's, a list's -/
theorem cutG_all {α : Type} {xs : List α} {lo hi : Option Int} (h : HT.sIx xs.length 0 lo = 0 ∧ HT.sIx xs.length xs.length hi = xs.length) : cutG xs lo hi = xs := by
  unfold cutG
  rw [h.1, h.2]
  simp
def sliceA : D → Option Int → Option Int → Option D
  | .tup xs, lo, hi => some (.tup (cutG xs lo hi))
  | d, lo, hi => sliceD d lo hi
def eSlA (fa : EF) (fl fh : OF) : EF := fun st L => (fa st L).bind fun x L1 => (fl st L1).bind fun lo L2 => (fh st L2).bind fun hi L3 => opt (rdU L3 x) fun d => opt (sliceA d lo hi) fun r => .ok (.d r) L3
section
variable {X : Cx} {W : WX} {a b c e : Expr} {fa fb fc fe : EF} {pos : Pos}
theorem ke_sliceA {lo hi : Option Expr} {fl fh : OF} {p2 : Pos} (ha : KE X W a fa) (hl : KO X W lo fl) (hh : KO X W hi fh) : KE X W (.Subscript a (.Slice lo hi none p2) pos) (eSlA fa fl fh) := by
  refine pe_wk (pe_slice ((sl_str.or sl_list).or sl_tupA) ha hl hh) fun σ H Q ⟨F, ρ, L, st, o, r, h⟩ => ?_
  refine RG.one o r h fun x H1 F1 ρ1 L1 u s1 o1 r1 p1 h1 => ?_
  refine RG.one (P := PI') o1 r1 h1 fun y H2 F2 ρ2 L2 u2 s2 o2 r2 p2 h2 => ?_
  refine RG.one (P := PI') o2 r2 h2 fun z H3 F3 ρ3 L3 u3 s3 o3 r3 p3 h3 => ?_
  obtain rfl : u2 = y := p2
  obtain rfl : u3 = z := p3
  obtain ⟨d, e1, h3⟩ := h3.opt
  obtain ⟨rr, e2, h3⟩ := h3.opt
  have rd := rdr_of o3 ((p1.mono s2).mono s3) e1
  cases d with
  | str zz =>
    cases rd
    have e2 : (if zz.length ≤ big then some (D.str (cutS zz u2 u3)) else none) = some rr := e2
    split at e2
    · rename_i hz; cases e2; exact .inl (.inl ⟨_, rfl, by rw [big_eq]; exact hz, h3.finD o3 rfl⟩)
    · cases e2
  | lst xs =>
    cases e2
    obtain ⟨p, vs, rfl, g1, q1⟩ := rd
    refine .inl (.inr ⟨p, vs, rfl, .inl (.inl g1), fun t ht => ?_⟩)
    obtain ⟨s4, o4⟩ := new_ok o3 ht (.lst (cutV vs u2 u3))
    exact h3 _ _ _ _ s4 o4 (new_lst o3 ht (q1.cut u2 u3))
  | scr ns =>
    cases e2
    obtain ⟨p, rfl, g1⟩ := rd
    refine .inl (.inr ⟨p, ns.map V.int, rfl, g1.sq, fun t ht => ?_⟩)
    obtain ⟨s4, o4⟩ := new_ok o3 ht (.lst (cutV (ns.map V.int) u2 u3))
    refine h3 _ _ _ _ s4 o4 (new_lst o3 ht ?_)
    have z := (RepL.of_ints (K := X.K) (F := F3) (H := H3) ns).cut u2 u3
    rw [cut_map] at z
    exact z
  | tup xs =>
    cases e2
    obtain ⟨p, vs, rfl, g1, q1⟩ := tup_rest o3 ((p1.mono s2).mono s3) e1
    refine .inr ⟨p, vs, rfl, g1.sq, fun hw => ?_, fun hw t ht => ?_⟩
    · rw [q1.length] at hw
      rw [cutG_all hw] at h3
      exact h3 F3 ρ3 H3 _ Step.refl o3 ⟨p, vs, rfl, g1, q1⟩
    · obtain ⟨s4, o4⟩ := new_ok o3 ht (.tup (cutV vs u2 u3))
      exact h3 _ _ _ _ s4 o4 (new_tup o3 ht (q1.cut u2 u3))
  | _ => cases e2
/-! ### + of tuples, or of what addD adds -/
def addU (x y : U) (L : LS) : Rs U := opt (rdU L x) fun dx => match dx with
  | .tup _ => taddU x y L
  | _ => op2 addD x y L
theorem op_addU : Op2U X W (binaryOp .Add) addU := by
  intro pins s σ H x y v u Q F ρ L ux uy I o px py rx ry h
  obtain ⟨dx, e1, h1⟩ := h.opt
  clear h
  split at h1
  · exact op_tadd pins s σ H x y v u Q F ρ L ux uy I o px py rx ry h1
  · exact od_add pins s σ H x y v u Q I rx ry (op2_ok o px py h1)
def mulU (x y : U) (L : LS) : Rs U := opt (rdU L x) fun dx => match dx with
  | .tup _ => tmulU x y L
  | _ => op2 mulD x y L
theorem op_mulU : Op2U X W (binaryOp .Mult) mulU := by
  intro pins s σ H x y v u Q F ρ L ux uy I o px py rx ry h
  obtain ⟨dx, e1, h1⟩ := h.opt
  clear h
  split at h1
  · exact op_tmul pins s σ H x y v u Q F ρ L ux uy I o px py rx ry h1
  · exact od_mul pins s σ H x y v u Q I rx ry (op2_ok o px py h1)
end
/-! ### defs with defaults -/
section
variable {P : Program} {w : World} {K : Frag} {mg : Str → Option Value} {base : Heap}
def cstB : List D → List Value → Bool
  | [], [] => true
  | .non :: ds, .none :: vs => cstB ds vs
  | .int i :: ds, .int j _ :: vs => i == j && cstB ds vs
  | .bl i :: ds, .bool j :: vs => i == j && cstB ds vs
  | .str i :: ds, .str j _ :: vs => i == j && cstB ds vs
  | _, _ => false
def cstV : D → V
  | .int i => .int i
  | .bl b => .bl b
  | .str x => .str x
  | _ => .non
theorem cstB_vals : ∀ {ds : List D} {vs : List Value}, cstB ds vs = true → Vals (ds.map cstV) vs := by
  intro ds
  induction ds with
  | nil => intro vs h; cases vs with
    | nil => exact .nil
    | cons v vs => simp [cstB] at h
  | cons d ds ih =>
    intro vs h
    cases vs with
    | nil => cases d <;> simp [cstB] at h
    | cons v vs =>
      cases d <;> cases v <;> simp [cstB] at h
      · exact .cons rfl (ih h)
      · obtain ⟨rfl, h⟩ := h; exact .cons rfl (ih h)
      · obtain ⟨rfl, h⟩ := h; exact .cons ⟨_, rfl⟩ (ih h)
      · obtain ⟨rfl, h⟩ := h; exact .cons ⟨_, rfl⟩ (ih h)
def dflB (K : Frag) (f : Addr) (ds : List D) : Bool := match K.lookup f with
  | some ⟨_, _, .func fd, _⟩ => (match fd.defaults with
    | .ref T => (match K.lookup T with
      | some ⟨_, _, .seq its _, _⟩ => cstB ds its.toList
      | _ => false)
    | _ => false)
  | _ => false
abbrev FunE (K : Frag) (x qual : Str) (st : Stmt) (dvs : List V) (f : Addr) (fd : FuncData) : Prop := FunD K x qual (defArgs st) (defBody st) (defScope st) dvs [] f fd
theorem funE_mk {x qual : Str} {st : Stmt} {f c : Addr} {ds : List D} {oc dV kV dc pm ct : Value} {od an : Option Addr} {sl : Array (Option Value)} (l : K.lookup f = some ⟨oc, od, .func (PySem.W.fnOf x qual (defArgs st) (defBody st) (defScope st) dV kV dc pm an (.ref c) ct), sl⟩)
    (hc : PySem.W.codeIn K (.ref c) qual = true) (kp : PySem.W.keepIn K (.ref f) = true) (hd : dflB K f ds = true) (ne : ds ≠ []) : FunE K x qual st (ds.map cstV) f (PySem.W.fnOf x qual (defArgs st) (defBody st) (defScope st) dV kV dc pm an (.ref c) ct) := by
  refine ⟨⟨oc, od, dV, kV, dc, pm, an, .ref c, ct, sl, rfl, l, hc, .inr ⟨by simpa using ne, ?_⟩, .inl rfl⟩, kp⟩
  unfold dflB at hd
  rw [l] at hd
  dsimp only [PySem.W.fnOf] at hd
  split at hd
  · rename_i T
    split at hd
    · rename_i c1 d1 its n s1 e
      exact ⟨T, _, its.toList, n, rfl, e, by simp, cstB_vals hd⟩
    · cases hd
  · cases hd
theorem kfnE_of {k : Nat} {x qual : Str} {st : Stmt} {f : Addr} {fd : FuncData} {N ps : List Str} {fb : SF} {dvs : List V} (T : FunE K x qual st dvs f fd) (S : FnScope N ps (defScope st))
    (hb : ∀ (cdv : Value) (A : Around) (outer : List Env) (s : Shared) (H : Hp) (E : XK), Rm k (A.deeper (envOfC qual (defScope st) s.heap.objs.size f cdv)) → KSs (cxOf (L2.CX P w) P w K mg base N qual (defScope st) f cdv A outer s H E) (fun c d _ H' => E c d H') (defBody st) fb) :
    KFn P w K mg base (k + 1) f fd ps (fnF ps.length N.length fb) := by
  obtain ⟨oc, od, dV, kV, doc, pm, an, cdv, ct, osl, rfl, lk, hcd, _, _⟩ := T.ex
  exact kfn_at lk hcd S fun A outer s H E hr => hb cdv A outer s H E hr
theorem bkE_of {x qual : Str} {st : Stmt} {f : Addr} {fd : FuncData} {ps ks : List Str} {n : Nat} {src : List Sr} {dvs : List V} (T : FunE K x qual st dvs f fd) (hd : dvs ≠ []) (hl : src.length = ps.length)
    (h : ∀ (Tt : Addr) (kV doc pm : Value) (an : Option Addr) (cdv ct : Value) (us ws its : List Value), us.length = n → ws.length = ks.length → Vals dvs its → ∃ (g : Option (Array Value) → Sem (List (Str × Value))) (zs : List Value), bindArgs (PySem.W.fnOf x qual (defArgs st) (defBody st) (defScope st) (.ref Tt) kV doc pm an cdv ct) ⟨us, ks.zip ws⟩ = (seqItems? (.ref Tt) >>= g) ∧ g (some its.toArray) = pure (ps.zip zs) ∧ Paired (SrOk us ws) src zs) : Bk K fd ps n ks src := by
  obtain ⟨oc, od, dV, kV, doc, pm, an, cdv, ct, osl, rfl, lk, hcd, hD, _⟩ := T.ex
  rcases hD with ⟨z, _⟩ | ⟨_, Tt, o, its, m, rfl, lT, oT, rT⟩
  · exact absurd z hd
  · refine ⟨fun s us ws X h1 h2 => ?_, hl⟩
    obtain ⟨g, zs, e1, e2, p⟩ := h Tt kV doc pm an cdv ct us ws its h1 h2 rT
    refine ⟨zs, BindsTo.of_looks fun M => ?_, p⟩
    rw [e1]
    exact looks_items X lT oT (.of_pure e2)
end
end VL

set_option Elab.async false
set_option linter.all false
set_option maxRecDepth 100000
set_option maxHeartbeats 4000000
namespace VL
open PySem PySem.Spec PyProof.Rows L2 RZ
open PySem.W (Frag)
section
variable {X : Cx} {W : WX} {a b c e : Expr} {fa fb fc fe : EF} {pos : Pos}
/-! ### x op= e, x a name -/
def tiU (K : Frag) (g : U → U → LS → Rs U) : TIp := fun x y H Q => ∃ F ρ L ux uy w L2, Ok K F ρ H L ∧ RepU K F ρ H L ux x ∧ RepU K F ρ H L uy y ∧ g ux uy L = .ok w L2 ∧ ∀ F' ρ' H' b, Step F ρ H L F' ρ' H' L2 → Ok K F' ρ' H' L2 → RepU K F' ρ' H' L2 w b → Q b H'
theorem pip_of {op : Operator} {g : U → U → LS → Rs U} (h : Op2U X W (inplaceOp op) g) : PIp X op (tiU X.K g) := by
  intro pins s σ H x y v u Q I rx ry ⟨F, ρ, L, ux, uy, w, L2, o, px, py, e, k⟩
  exact h pins s σ H x y v u Q F ρ L ux uy I o px py rx ry (by rw [e]; exact k)
def sAug (i : Nat) (g : U → U → LS → Rs U) (fe : EF) : SF := fun st L => match st[i]? with
  | some (some u) => ofR (fe st L) st fun v L1 => (match g u v L1 with
    | .ok w L2 => .nx (st.set i (some w)) L2
    | _ => .no)
  | _ => .no
theorem ks_aug (i : Nat) {x : Str} {op : Operator} {p' : Pos} {g : U → U → LS → Rs U} (ho : Op2U X W (inplaceOp op) g) (hN : X.N.Nodup) (he : KE X W e fe) (hi : X.N[i]? = some x := by rfl) (hx : Loc X.env.scope x := by first | exact Or.inl rfl | exact Or.inr rfl)
    (hf : X.fn x = true ∨ X.env.scope.names.lookup x = some .local := by first | exact .inl rfl | exact .inr rfl | assumption) : KS X W (.AugAssign (.Name x p') op e pos) (sAug i g fe) := by
  refine ps_wk (ps_aug hN hi hx he (pip_of ho) hf) fun D σ H ⟨F, ρ, L, st, o, r, h⟩ => ?_
  unfold sAug at h
  split at h
  · rename_i u e0
    obtain ⟨v, e1, r1⟩ := r.at_ i u e0
    refine ⟨v, e1, RS.one o r h fun y H1 F1 ρ1 L1 uy s1 o1 r2 p1 h1 => ?_⟩
    split at h1
    · rename_i w L2 eg
      exact ⟨F1, ρ1, L1, u, uy, w, L2, o1, r1.mono s1, p1, eg, fun F' ρ' H' b s' o' p' => (GS.on s' h1).nxt o' ((r2.mono s').set i p')⟩
    · exact h1.elim
  · exact h.elim
def iaddI : D → D → Option D
  | .int i, .int j => some (.int (i + j))
  | _, _ => none
def isubI : D → D → Option D
  | .int i, .int j => some (.int (i - j))
  | _, _ => none
theorem ip_addI : Op2U X W (inplaceOp .Add) (op2 iaddI) := by
  intro pins s σ H x y v u Q F ρ L ux uy I o px py rx ry h
  obtain ⟨F, ρ, L, dx, dy, d, o, r1, r2, e, k⟩ := op2_ok o px py h
  cases dx <;> cases dy <;> simp only [iaddI] at e <;> try cases e
  cases r1; cases r2
  exact iop_add pins s σ H _ _ v u Q I rx ry ⟨_, _, rfl, rfl, k F H _ Step.refl o rfl⟩
theorem ip_subI : Op2U X W (inplaceOp .Sub) (op2 isubI) := by
  intro pins s σ H x y v u Q F ρ L ux uy I o px py rx ry h
  obtain ⟨F, ρ, L, dx, dy, d, o, r1, r2, e, k⟩ := op2_ok o px py h
  cases dx <;> cases dy <;> simp only [isubI] at e <;> try cases e
  cases r1; cases r2
  exact iop_sub pins s σ H _ _ v u Q I rx ry ⟨_, _, rfl, rfl, k F H _ Step.refl o rfl⟩
/-! ### max, min of two numbers, or of a list of them -/
theorem intsD_map : ∀ {xs : List D} {ns : List Int}, intsD xs = some ns → xs = ns.map .int
  | [], ns, e => by cases e; rfl
  | .int i :: r, ns, e => by
    obtain ⟨m, e1, rfl⟩ := Option.map_eq_some_iff.mp e
    rw [intsD_map e1]; rfl
  | .non :: r, ns, e | .bl _ :: r, ns, e | .str _ :: r, ns, e | .lst _ :: r, ns, e | .tup _ :: r, ns, e | .dic _ _ :: r, ns, e | .dit _ _ :: r, ns, e | .ins _ _ _ :: r, ns, e | .exc _ _ _ :: r, ns, e | .ex0 _ :: r, ns, e | .obj _ :: r, ns, e | .ty _ :: r, ns, e | .scr _ :: r, ns, e => by simp [intsD] at e
theorem repL_ints {K : Frag} {F : Addr → Prop} {H : Hp} : ∀ {ns : List Int} {vs : List V}, RepL K F H (ns.map .int) vs → vs = ns.map V.int
  | [], vs, h => h
  | n :: ns, vs, ⟨v, r, e, h, t⟩ => by rw [e, repL_ints t, show v = V.int n from h]; rfl
theorem intsD_of (ns : List Int) : intsD (ns.map .int) = some ns := by
  induction ns with
  | nil => rfl
  | cons n ns ih => simp [intsD, ih]
def maxL : Int → List Int → Int
  | m, [] => m
  | m, x :: xs => maxL (if m < x then x else m) xs
theorem maxL_ge : ∀ (xs : List Int) (m : Int), m ≤ maxL m xs ∧ ∀ x ∈ xs, x ≤ maxL m xs
  | [], m => ⟨Int.le_refl _, fun x h => by cases h⟩
  | y :: ys, m => by
    obtain ⟨h1, h2⟩ := maxL_ge ys (if m < y then y else m)
    have : m ≤ (if m < y then y else m) ∧ y ≤ (if m < y then y else m) := by split <;> omega
    refine ⟨by unfold maxL; omega, fun x hx => ?_⟩
    unfold maxL
    rcases List.mem_cons.mp hx with rfl | hx
    · omega
    · exact h2 x hx
theorem maxL_mem : ∀ (xs : List Int) (m : Int), maxL m xs = m ∨ maxL m xs ∈ xs
  | [], m => .inl rfl
  | y :: ys, m => by
    unfold maxL
    rcases maxL_mem ys (if m < y then y else m) with h | h
    · rw [h]
      split
      · exact .inr (List.mem_cons_self ..)
      · exact .inl rfl
    · exact .inr (List.mem_cons_of_mem _ h)
def minL : Int → List Int → Int
  | m, [] => m
  | m, x :: xs => minL (if x < m then x else m) xs
theorem minL_le : ∀ (xs : List Int) (m : Int), minL m xs ≤ m ∧ ∀ x ∈ xs, minL m xs ≤ x
  | [], m => ⟨Int.le_refl _, fun x h => by cases h⟩
  | y :: ys, m => by
    obtain ⟨h1, h2⟩ := minL_le ys (if y < m then y else m)
    have : (if y < m then y else m) ≤ m ∧ (if y < m then y else m) ≤ y := by split <;> omega
    refine ⟨by unfold minL; omega, fun x hx => ?_⟩
    unfold minL
    rcases List.mem_cons.mp hx with rfl | hx
    · omega
    · exact h2 x hx
theorem minL_mem : ∀ (xs : List Int) (m : Int), minL m xs = m ∨ minL m xs ∈ xs
  | [], m => .inl rfl
  | y :: ys, m => by
    unfold minL
    rcases minL_mem ys (if y < m then y else m) with h | h
    · rw [h]
      split
      · exact .inr (List.mem_cons_self ..)
      · exact .inl rfl
    · exact .inr (List.mem_cons_of_mem _ h)
def maxA : List D → Option D
  | [.lst xs] => (match intsD xs with
    | some (n :: ns) => some (.int (maxL n ns))
    | _ => none)
  | ds => maxD ds
def minA : List D → Option D
  | [.lst xs] => (match intsD xs with
    | some (n :: ns) => some (.int (minL n ns))
    | _ => none)
  | ds => minD ds
theorem CallR.or' {f : Value} {r1 r2 : List V → Hp → VK → Prop} (h1 : CallR X f r1) (h2 : CallR X f r2) : CallR X f (fun vs H Q => r1 vs H Q ∨ r2 vs H Q) := by
  intro pins s σ H xs us Q I r h
  rcases h with h | h
  · exact h1 pins s σ H xs us Q I r h
  · exact h2 pins s σ H xs us Q I r h
theorem cd_maxA (hc : X.calm = true) : CallR X (.builtin "max") (rDn X.K maxA) := by
  refine CallR.toD (CallR.or' (cd_max hc) (cr_max hc)) fun F ρ L H ds d xs Q o r e k => ?_
  unfold maxA at e
  split at e
  · rename_i ys
    split at e
    · rename_i n ns en
      cases e
      obtain ⟨v, _, rfl, h1, rfl⟩ := r
      obtain ⟨p, vs, rfl, g, q⟩ := h1
      rw [intsD_map en] at q
      rw [repL_ints q] at g
      refine .inr ⟨p, n :: ns, rfl, .inl (.inl g), by simp, fun m hm hle => ?_⟩
      have e1 : m = maxL n ns := by
        have a1 := maxL_ge ns n
        have a2 : m ≤ maxL n ns := by
          rcases List.mem_cons.mp hm with rfl | h
          · exact a1.1
          · exact a1.2 m h
        have a3 : maxL n ns ≤ m := by
          rcases maxL_mem ns n with h | h
          · rw [h]; exact hle n (List.mem_cons_self ..)
          · exact hle _ (List.mem_cons_of_mem _ h)
        omega
      exact k F H _ Step.refl o (by rw [e1]; rfl)
    · cases e
  · exact .inl ⟨F, ρ, L, ds, d, o, r, e, k⟩
theorem cd_minA (hc : X.calm = true) : CallR X (.builtin "min") (rDn X.K minA) := by
  refine CallR.toD (CallR.or' (cd_min hc) (cr_min hc)) fun F ρ L H ds d xs Q o r e k => ?_
  unfold minA at e
  split at e
  · rename_i ys
    split at e
    · rename_i n ns en
      cases e
      obtain ⟨v, _, rfl, h1, rfl⟩ := r
      obtain ⟨p, vs, rfl, g, q⟩ := h1
      rw [intsD_map en] at q
      rw [repL_ints q] at g
      refine .inr ⟨p, n :: ns, rfl, .inl (.inl g), by simp, fun m hm hle => ?_⟩
      have e1 : m = minL n ns := by
        have a1 := minL_le ns n
        have a2 : minL n ns ≤ m := by
          rcases List.mem_cons.mp hm with rfl | h
          · exact a1.1
          · exact a1.2 m h
        have a3 : m ≤ minL n ns := by
          rcases minL_mem ns n with h | h
          · rw [h]; exact hle n (List.mem_cons_self ..)
          · exact hle _ (List.mem_cons_of_mem _ h)
        omega
      exact k F H _ Step.refl o (by rw [e1]; rfl)
    · cases e
  · exact .inl ⟨F, ρ, L, ds, d, o, r, e, k⟩
end
/-! ### words for the printed texts -/
theorem own_of' {P : Program} {w : World} {K : Frag} {mg : Str → Option Value} {base : Heap} {x qual : Str} {st : Stmt} {g C : Addr} {fd : FuncData} {f : Str} (T : Fun K x qual st g fd) (S : FnScope ["self"] ["self"] (defScope st)) (oc : OwnC K C) (na : NoAttr K C f) (M : Meth K C "__iter__" g)
    (bd : ∀ (kV doc pm : Value) (an : Option Addr) (cdv ct u : Value), bindArgs (PySem.W.fnOf x qual (defArgs st) (defBody st) (defScope st) .none kV doc pm an cdv ct) ⟨[u], []⟩ = pure [(("self" : Str), u)])
    (hb : ∀ (cdv : Value) (A : Around) (outer : List Env) (s : Shared) (H : Hp) (E : XK), PSs (cxOf (L2.CX P w) P w K mg base ["self"] qual (defScope st) g cdv A outer s H E) (defBody st) (tOwn K s.heap.objs.size f)) :
    OwnIt P w K mg base 1 C g f := by
  refine own_of (k := 0) T S oc.cl na M.at_ M.fn (fun s u _ => ?_) hb
  obtain ⟨o1, od, kV, doc, pm, an, cdv, ct, osl, rfl, lk, hcd⟩ := T.ex
  exact .of_eq (bd kV doc pm an cdv ct u)
theorem ob_iadd : typeLookup (.type "object") (dunderI "add") = pure none := by rw [typeLookup_type, builtinLookup_eq_fast]; kernel_rfl
theorem bt_zip' : True := trivial
end VL

set_option Elab.async false
set_option linter.all false
set_option maxRecDepth 100000
set_option maxHeartbeats 4000000
namespace VL
open PySem PySem.Spec PyProof.Rows L2 RZ
open PySem.W (Frag)
/-! ### tuple(xs), tuple(t) -/
def tupU (us : List U) (L : LS) : Rs U := match us with
  | [u] => opt (rdU L u) fun d => (match d with
    | .lst xs => .ok (.d (.tup xs)) L
    | .tup xs => .ok (.d (.tup xs)) L
    | _ => .no)
  | _ => .no
theorem cu_tuple {X : Cx} {W : WX} : CallU X W (.type "tuple") tupU := by
  intro pins s σ H vs us Q F ρ L uu I o r rv h
  unfold tupU at h
  split at h
  · rename_i u
    obtain ⟨v, _, rfl, r1, rfl⟩ := r
    obtain ⟨d, e1, h1⟩ := h.opt
    clear h
    refine call_tuple_of pins s σ H _ us Q I rv ?_
    split at h1
    · rename_i xs
      obtain ⟨p, ws, rfl, g, q⟩ := (show ∃ a vs, v = .ref a ∧ H a = some (.lst vs) ∧ RepL X.K F H xs vs from rdr_of o r1 e1)
      refine ⟨p, ws, rfl, .inl ⟨.inl (.inl g), fun l hl => ?_⟩⟩
      obtain ⟨s3, o3⟩ := new_ok o hl (.tup ws)
      exact h1 _ _ _ _ s3 o3 (new_tup o hl q)
    · rename_i xs
      obtain ⟨p, ws, rfl, g, q⟩ := tup_rest o r1 e1
      exact ⟨p, ws, rfl, .inr ⟨g.sq, h1 F ρ H _ Step.refl o ⟨p, ws, rfl, g, q⟩⟩⟩
    · exact h1.elim
  · exact h.elim
theorem fnI_of {K : Frag} {C f0 : Addr} (M : Meth K C "__getitem__" f0) (h : PySem.W.fnIn K f0 = true) : ∀ f, Meth K C "__getitem__" f → PySem.W.fnIn K f = true := fun f m => by
  have e : Value.ref f = Value.ref f0 := Option.some.inj (Option.some.inj (m.at_.symm.trans M.at_))
  cases e
  exact h
end VL

set_option Elab.async false
set_option linter.all false
set_option maxRecDepth 100000
set_option maxHeartbeats 4000000
namespace VL
open PySem PySem.Spec PyProof.Rows L2 RZ
open PySem.W (Frag)
/-! ### (x, ..) * 1, * 0 -/
theorem tup_mul1 (l : Addr) (items : Array Value) (n : Nat) (dd : Option Addr) (sl : Array (Option Value)) (u : Tok) :
    Meets (Builtin.«tuple.__mul__» ⟨[.ref l, .int 1 u], []⟩) (fun _ R s => s.heap.get? l = some { cls := .type "tuple", dict := dd, data := .seq items n, slots := sl } ∧ R (.ok (.ret (.ref l))) s) :=
  .of_wp fun prog w A R s h => by
    obtain ⟨hp, g, d, tk, os⟩ := s
    obtain ⟨hl, h⟩ := h
    have f1 := AutoSeq1.idx_int
    wp_walk using wpAny_loadPart' hl
    have c0 : (decide ((1 : Int) < -(2 ^ 63)) || decide ((1 : Int) ≥ 2 ^ 63)) = false := by decide
    have c1 : (items.isEmpty || (1 : Int) == 1) = true := by simp
    repeat (first
      | (refine wpAny_ite_false (decide_eq_false (by rw [c0]; exact Bool.false_ne_true)) ?_; wp_walk using wpAny_loadPart' hl)
      | (refine wpAny_ite_true (decide_eq_true c1) ?_; wp_walk using wpAny_loadPart' hl))
    exact ⟨_, rfl, h⟩
theorem tup_mul0 (l : Addr) (items : Array Value) (n : Nat) (dd : Option Addr) (sl : Array (Option Value)) (u : Tok) (c1 : items.isEmpty = false) :
    Meets (Builtin.«tuple.__mul__» ⟨[.ref l, .int 0 u], []⟩) (fun _ R s => s.heap.get? l = some { cls := .type "tuple", dict := dd, data := .seq items n, slots := sl } ∧ R (.ok (.ret (.ref s.heap.objs.size))) { s with heap := s.heap.push { cls := .type "tuple", data := .seq #[] } }) :=
  .of_wp fun prog w A R s h => by
    obtain ⟨hp, g, d, tk, os⟩ := s
    obtain ⟨hl, h⟩ := h
    have f1 := AutoSeq1.idx_int
    wp_walk using wpAny_loadPart' hl
    have c0 : (decide ((0 : Int) < -(2 ^ 63)) || decide ((0 : Int) ≥ 2 ^ 63)) = false := by decide
    have c2 : (items.isEmpty || (0 : Int) == 1) = false := by rw [c1]; rfl
    have c3 : (decide ((0 : Int) ≤ 0) || items.isEmpty) = true := by simp
    repeat (first
      | (refine wpAny_ite_false (decide_eq_false (by rw [c0]; exact Bool.false_ne_true)) ?_; wp_walk using wpAny_loadPart' hl)
      | (refine wpAny_ite_false (decide_eq_false (by rw [c2]; exact Bool.false_ne_true)) ?_; wp_walk using wpAny_loadPart' hl)
      | (refine wpAny_ite_true (decide_eq_true c3) ?_; wp_walk using wpAny_loadPart' hl))
    exact ⟨_, rfl, h⟩
section
variable {X : Cx} {W : WX}
def rRep01 (K : Frag) : R2 := fun x y H Q => ∃ l xs, x = .ref l ∧ SqT K H l xs ∧ xs ≠ [] ∧ ((y = .int 1 ∧ Q (.ref l) H) ∨ (y = .int 0 ∧ ∀ p, H p = none → Q (.ref p) (upd H p (.tup []))))
theorem op_rep01 : OpR X (binaryOp .Mult) (rRep01 X.K) := by
  intro pins s σ H x y v u Q I rx ry h
  obtain ⟨l, xs, rfl, hT, hne, h⟩ := h
  cases rx
  obtain ⟨its, r, ⟨⟨cls, dd, data, sl⟩, ho, hc, n, hd⟩, hs⟩ := I.tuple hT
  simp only at hc hd
  subst hc hd
  have hle : its.length = xs.length := r.length.symm
  have hi : its.toArray.isEmpty = false := by
    cases its with
    | nil => exact absurd (List.eq_nil_of_length_eq_zero hle.symm) hne
    | cons a b => rfl
  rcases h with ⟨rfl, q⟩ | ⟨rfl, q⟩
  · obtain ⟨t, rfl⟩ := ry
    exact wpAny_binaryOp_repeat_ref (T := "tuple") (U := "int") (by decide) ⟨_, ho, rfl⟩ (fun s' => typeIs_int s' 1 t) noFill_tuple_mul F.fills_int_mul F.slot_int_rmul repeat_tuple F.slot_int_index.lookup
      (call_meets F.slot_int_rmul (typeIs_int s 1 t) F.entry_int_rmul (F.args_int_rmul_2 _ _) (int_rmul_tuple 1 t l its.toArray n dd sl)
        ⟨ho, rfl, ⟨_, ho, rfl⟩, call_meets F.slot_tuple_mul ⟨_, ho, rfl⟩ F.entry_tuple_mul (F.args_tuple_mul_2 _ _) (tup_mul1 l its.toArray n dd sl t) ⟨ho, ⟨.ref l, H, I, rfl, q⟩⟩⟩)
  · obtain ⟨t, rfl⟩ := ry
    refine wpAny_binaryOp_repeat_ref (T := "tuple") (U := "int") (by decide) ⟨_, ho, rfl⟩ (fun s' => typeIs_int s' 0 t) noFill_tuple_mul F.fills_int_mul F.slot_int_rmul repeat_tuple F.slot_int_index.lookup
      (call_meets F.slot_int_rmul (typeIs_int s 0 t) F.entry_int_rmul (F.args_int_rmul_2 _ _) (int_rmul_tuple 0 t l its.toArray n dd sl)
        ⟨ho, rfl, ⟨_, ho, rfl⟩, call_meets F.slot_tuple_mul ⟨_, ho, rfl⟩ F.entry_tuple_mul (F.args_tuple_mul_2 _ _) (tup_mul0 l its.toArray n dd sl t hi) ⟨ho, ?_⟩⟩)
    exact ⟨.ref s.heap.objs.size, _, I.laid (t' := s.toks) (o := .tup []) (fun b ob q => Heap.get?_push_of_some _ q) (Nat.le_refl _) ⟨Nat.zero_le _, [], .nil, IsTup.new _ _⟩, rfl, q _ (I.hok.fresh (Nat.le_refl _))⟩
def tmulA (x y : U) (L : LS) : Rs U := opt (rdU L x) fun dx => opt (rdU L y) fun dy => match dx, dy with
  | .tup xs, .int k => if xs = [] then .no else if k = 1 then .ok (.d (.tup xs)) L else if k = 0 then .ok (.d (.tup [])) L else tmulU x y L
  | _, _ => .no
theorem op_tmulA : Op2U X W (binaryOp .Mult) tmulA := by
  intro pins s σ H x y v u Q F ρ L ux uy I o px py rx ry h
  obtain ⟨dx, e1, h1⟩ := h.opt
  obtain ⟨dy, e2, h2⟩ := h1.opt
  clear h h1
  split at h2
  · rename_i xs k
    obtain ⟨p, vs, rfl, g1, q1⟩ := tup_rest o px e1
    obtain rfl : y = .int k := rdr_of o py e2
    split at h2
    · exact h2.elim
    · rename_i hne
      have hv : vs ≠ [] := fun z => hne (List.length_eq_zero_iff.mp (by rw [← q1.length, z]; rfl))
      split at h2
      · rename_i hk
        subst hk
        exact op_rep01 pins s σ H _ _ v u Q I rx ry ⟨p, vs, rfl, g1.sq, hv, .inl ⟨rfl, h2 F ρ H _ Step.refl o ⟨p, vs, rfl, g1, q1⟩⟩⟩
      · split at h2
        · rename_i hk
          subst hk
          refine op_rep01 pins s σ H _ _ v u Q I rx ry ⟨p, vs, rfl, g1.sq, hv, .inr ⟨rfl, fun t ht => ?_⟩⟩
          obtain ⟨s3, o3⟩ := new_ok o ht (.tup [])
          exact h2 _ _ _ _ s3 o3 (new_tup o ht (xs := []) rfl)
        · exact op_tmul pins s σ H _ _ v u Q F ρ L ux uy I o px py rx ry h2
  · exact h2.elim
def mulA (x y : U) (L : LS) : Rs U := opt (rdU L x) fun dx => match dx with
  | .tup _ => tmulA x y L
  | _ => op2 mulD x y L
theorem op_mulA : Op2U X W (binaryOp .Mult) mulA := by
  intro pins s σ H x y v u Q F ρ L ux uy I o px py rx ry h
  obtain ⟨dx, e1, h1⟩ := h.opt
  clear h
  split at h1
  · exact op_tmulA pins s σ H x y v u Q F ρ L ux uy I o px py rx ry h1
  · exact od_mul pins s σ H x y v u Q I rx ry (op2_ok o px py h1)
end
end VL

set_option Elab.async false
set_option linter.all false
set_option maxRecDepth 100000
set_option maxHeartbeats 4000000
namespace VL
open PySem PySem.Spec PyProof.Rows L2 RZ
open PySem.W (Frag)
/-! ### walks over what still changes: the items are read turn by turn -/
inductive Src where
  | fix (ds : List D) | liv (n : Nat)
def lstOf : LO → Option (List D)
  | .l xs => some xs
  | .z (.lst xs) => some xs
  | _ => none
def Src.at_ : Src → LS → Nat → Option (Option D)
  | .fix ds, _, i => some ds[i]?
  | .liv n, L, i => (L[n]?.bind lstOf).map fun xs => xs[i]?
def Src.len : Src → LS → Nat
  | .fix ds, _ => ds.length
  | .liv n, L => match L[n]?.bind lstOf with
    | some xs => xs.length
    | none => 0
def ItS (K : Frag) (J : It) (s : Src) (F : Addr → Prop) (ρ : Nat → Addr) (H : Hp) (L : LS) : Prop :=
  ∀ F1 ρ1 H1 L1, Step F ρ H L F1 ρ1 H1 L1 → Ok K F1 ρ1 H1 L1 → ∀ i, (∀ d, s.at_ L1 i = some (some d) → J.go i H1 ∧ ∀ x H2, J.yld i H1 x H2 → ∃ F2, Step F1 ρ1 H1 L1 F2 ρ1 H2 L1 ∧ Ok K F2 ρ1 H2 L1 ∧ Rep K F2 H2 d x) ∧ (s.at_ L1 i = some none → J.stop i H1)
def PIs : PP Src It := fun K F ρ H L s J => ItS K J s F ρ H L
abbrev IG := SS → LS → Rs Src
abbrev KJ (X : Cx) (W : WX) (tg iter : Expr) (f : IG) : Prop := PI X tg iter (RG PIs X.K W f)
theorem Itb.its {K : Frag} {J : It} {ds : List D} {F : Addr → Prop} {ρ : Nat → Addr} {H : Hp} {L : LS} (h : Itb K J ds F ρ H L) : ItS K J (.fix ds) F ρ H L := by
  intro F1 ρ1 H1 L1 s o i
  obtain ⟨h1, h2⟩ := h F1 ρ1 H1 L1 s o i
  refine ⟨fun d e => h1 d (Option.some.inj e), fun e => h2 ?_⟩
  have e : ds[i]? = none := Option.some.inj e
  exact List.getElem?_eq_none_iff.mp e
theorem its_liv {K : Frag} {F : Addr → Prop} {ρ : Nat → Addr} {H : Hp} {L : LS} {n : Nat} (hn : n < L.length) : ItS K (Itl K (ρ n)) (.liv n) F ρ H L := by
  intro F1 ρ1 H1 L1 s o i
  have key : ∀ xs, L1[n]?.bind lstOf = some xs → ∃ vs, SqL K H1 (ρ n) vs ∧ RepL K F1 H1 xs vs := by
    intro xs e
    cases q : L1[n]? with
    | none => rw [q] at e; cases e
    | some lo =>
      rw [q] at e
      have h := o.at_ n lo q
      rw [s.same n hn] at h
      cases lo with
      | l ys => cases e; obtain ⟨_, vs, h1, h2⟩ := h; exact ⟨vs, .inl (.inl h1), h2⟩
      | z d =>
        cases d with
        | lst ys =>
          cases e
          obtain ⟨a, vs, e1, h1, h2⟩ := h
          cases e1
          exact ⟨vs, .inl (.inl h1.2), h2⟩
        | _ => cases e
      | _ => cases e
  refine ⟨fun d e => ?_, fun e => ?_⟩
  · obtain ⟨xs, e1, e2⟩ := Option.map_eq_some_iff.mp e
    obtain ⟨vs, h1, r⟩ := key xs e1
    obtain ⟨v, e3, rv⟩ := r.get e2
    refine ⟨⟨vs, v, h1, e3⟩, fun x H2 y => ?_⟩
    obtain ⟨rfl, y⟩ := y
    have e4 := y vs h1
    rw [e3] at e4
    cases e4
    exact ⟨F1, Step.refl, o, rv⟩
  · obtain ⟨xs, e1, e2⟩ := Option.map_eq_some_iff.mp e
    obtain ⟨vs, h1, r⟩ := key xs e1
    exact ⟨vs, h1, by rw [r.length]; exact List.getElem?_eq_none_iff.mp e2⟩
def compG (tf : TgF) (tt : TF) (fe : EF) (st : SS) (s : Src) : Nat → Nat → List D → LS → Rs (List D)
  | 0, _, _, _ => .no
  | k + 1, i, acc, L => opt (s.at_ L i) fun o => match o with
    | none => .ok acc L
    | some d => opt (tf d st) fun st1 => bindN (tt st1 L) fun b L1 => if b then bindN (fe st1 L1) fun u L2 => opt (fzU L2 u) fun p => if acc.length < big then compG tf tt fe st s k (i + 1) (acc ++ [p.1]) p.2 else .no else compG tf tt fe st s k (i + 1) acc L1
def eCompG (fi : IG) (vs : List Nat) (tf : TgF) (tt : TF) (fe : EF) : EF := fun st L => (fi st L).bind fun s L1 => (compG tf tt fe (wipeS st vs) s (s.len L1 + 1) 0 [] L1).bind fun xs L2 => .ok (.d (.lst xs)) L2
theorem comp_readG {K : Frag} {W : WX} {fi : IG} {vs : List Nat} {tf : TgF} {tt : TF} {fe : EF} {σ : L2.St} {H : Hp} {Q : VK} (h : RG RepU K W (eCompG fi vs tf tt fe) σ H Q) :
    tLc (RG PIs K W fi) (RT K vs tf) (RG PB K Wn tt) (RG RepU K Wn fe) vs σ H Q := by
  obtain ⟨F, ρ, L, st, o, r, h⟩ := h
  refine RG.one (P := PIs) o r h fun J H1 F1 ρ1 L1 s0 s1 o1 r1 p1 h1 D hD => ?_
  refine ⟨fun i m H' => ∃ F' ρ' L' acc va, Step F1 ρ1 H1 L1 F' ρ' H' L' ∧ Ok K F' ρ' H' L' ∧ Apart F' ρ' H' L' D ∧ H' D = some (.lst va) ∧ RepL K F' H' acc va ∧
    GE RepU K W σ F1 ρ1 H1 L1 Q ((compG tf tt fe (wipeS st vs) s0 m i acc L').bind fun xs M2 => .ok (.d (.lst xs)) M2), ⟨s0.len L1 + 1, ?_⟩, ?_⟩
  · have ap : Apart F1 ρ1 H1 L1 D := by
      refine ⟨nF o1 hD, fun ⟨n, lo, e, t, z⟩ => ?_⟩
      have h := o1.at_ n lo e
      cases lo with
      | l xs => obtain ⟨_, vs, h1, _⟩ := h; rw [z, hD] at h1; cases h1
      | d ks xs => obtain ⟨_, vs, h1, _⟩ := h; rw [z, hD] at h1; cases h1
      | t ks xs => obtain ⟨_, vs, h1, _⟩ := h; rw [z, hD] at h1; cases h1
      | i C ns xs => obtain ⟨_, dx, fs, h1, _⟩ := h; rw [z, hD] at h1; cases h1
      | z d => cases t
    obtain ⟨_, s2, o2⟩ := bump o1 hD Step.refl o1 ap (.lst [])
    exact ⟨F1, ρ1, L1, [], [], s2, o2, ⟨ap.nf, ap.nl⟩, upd_same, rfl, h1⟩
  · rintro i m H2 ⟨F2, ρ2, M2, acc, va, s2, o2, ap2, hd2, ra2, h2⟩
    cases m with
    | zero => exact False.elim h2
    | succ m =>
      obtain ⟨g1, g2⟩ := p1 F2 ρ2 H2 M2 s2 o2 i
      obtain ⟨od, eo, h2⟩ := ge_optB h2
      cases od with
      | some d =>
        obtain ⟨go, yl⟩ := g1 _ eo
        obtain ⟨st3, e3, h3⟩ := ge_optB h2
        refine .inr ⟨go, fun H' => ∃ F' ρ' L' acc va, Step F1 ρ1 H1 L1 F' ρ' H' L' ∧ Ok K F' ρ' H' L' ∧ Apart F' ρ' H' L' D ∧ H' D = some (.lst va) ∧ RepL K F' H' acc va ∧
          GE RepU K W σ F1 ρ1 H1 L1 Q ((compG tf tt fe (wipeS st vs) s0 m (i + 1) acc L').bind fun xs M2 => .ok (.d (.lst xs)) M2), fun H' n => ⟨m, Nat.lt_succ_self _, n⟩, fun x H3 y => ?_⟩
        obtain ⟨F3, s3, o3, rx⟩ := yl x H3 y
        obtain ⟨ap3, hd3⟩ := ap2.on s3 hd2
        have r3 : RepSt K F3 ρ2 H3 M2 (L2.wipe σ vs) (wipeS st vs) := ((r1.wipe vs).mono s2).mono s3
        refine ⟨F3, ρ2, M2, wipeS st vs, d, st3, o3, r3, rx, e3, fun σ4 r4 w4 => ⟨?_, F3, ρ2, M2, st3, o3, r4, ?_⟩⟩
        · have ww : ∀ (τ : L2.St) (us : List Nat), L2.wipe (L2.wipe τ us) us = L2.wipe τ us := by
            intro τ us
            induction us with
            | nil => rfl
            | cons u us ih =>
              show (L2.wipe ((L2.wipe τ us).set u none) us).set u none = (L2.wipe τ us).set u none
              rw [← wipe_set, ih]
              simp
          rw [w4, ww]
        · obtain ⟨k, L4, e4, h4⟩ := ge_bindN h3
          rw [e4]
          intro F4 ρ4 H4 b s4 o4 pb
          obtain rfl : k = b := pb
          obtain ⟨ap4, hd4⟩ := ap3.on s4 hd3
          have s14 := (s2.trans s3).trans s4
          have ra4 := RepL.mono s4.fz acc (RepL.mono s3.fz acc ra2)
          cases k with
          | false => exact iteF ⟨F4, ρ4, L4, acc, va, s14, o4, ap4, hd4, ra4, h4⟩
          | true =>
            refine iteT ⟨F4, ρ4, L4, st3, o4, r4.mono s4, ?_⟩
            obtain ⟨u, L5, e5, h5⟩ := ge_bindN h4
            rw [e5]
            intro F5 ρ5 H5 yv s5 o5 p5
            obtain ⟨ap5, hd5⟩ := ap4.on s5 hd4
            obtain ⟨⟨d6, L6⟩, e6, h6⟩ := ge_optB h5
            obtain ⟨hz, h6⟩ := ge_ifB h6
            obtain ⟨F6, s6, o6, q6⟩ := fzU_ok o5 p5 e6
            obtain ⟨ap6, hd6⟩ := ap5.on s6 hd5
            have ra6 := RepL.mono s6.fz acc (RepL.mono s5.fz acc ra4)
            refine ⟨va, hd6, by rw [big_eq, ra6.length]; exact hz, ?_⟩
            obtain ⟨k7, s7, o7⟩ := bump o1 hD ((s14.trans s5).trans s6) o6 ap6 (.lst (va ++ [yv]))
            exact ⟨F6, ρ5, L6, acc ++ [d6], va ++ [yv], s7, o7, ⟨ap6.nf, ap6.nl⟩, upd_same, RepL.mono k7 _ (ra6.append (RepL.one q6)), h6⟩
      | none =>
        refine .inl ⟨g2 eo, ?_⟩
        obtain ⟨k3, s3, o3⟩ := adopt hD s2 o2 ap2 hd2
        exact h2 _ _ _ _ s3 o3 (show Rep K (VL.F1 F2 D) H2 (.lst acc) (.ref D) from ⟨D, va, rfl, ⟨.inr rfl, hd2⟩, RepL.mono k3 acc ra2⟩)
section
variable {X : Cx} {W : WX} {elt tg iter e : Expr} {ifs : List Expr} {scope : Scope} {own : List (Str × Nat)} {pos : Pos} {fi : IG} {tf : TgF} {tt : TF} {fe : EF} {is : List Nat} {T : IterT} {k : Nat}
theorem ke_compG (hN : X.N.Nodup) (hi : KJ X W tg iter fi) (ok : BlkOk X.N X.env.scope scope own)
    (hg : ∀ (s : Shared) (H : Hp) (C : Addr) (cl : List (Str × Addr)) (fp : List Addr), KG (X.blk s H scope (compEnvC scope cl C X.env) fp) tg is tf)
    (ht : ∀ (s : Shared) (H : Hp) (C : Addr) (cl : List (Str × Addr)) (fp : List Addr), KTs (X.blk s H scope (compEnvC scope cl C X.env) fp) Wn ifs tt)
    (he : ∀ (s : Shared) (H : Hp) (C : Addr) (cl : List (Str × Addr)) (fp : List Addr), KE (X.blk s H scope (compEnvC scope cl C X.env) fp) Wn elt fe)
    (hv : own.map (·.2) = is := by rfl) (hc : X.calm = true := by rfl) (hs : ∀ x, foldedSetIterable iter X.env x = pure x := by intro _; rfl) :
    KE X W (.ListComp elt [⟨tg, iter, ifs, 0⟩] scope pos) (eCompG fi is tf tt fe) := by
  subst hv
  exact pe_wk (pe_lc hc hN hi ok hg ht he hs) fun σ H Q h => comp_readG h
def iItG (T : IterT) (fe : EF) : IG := fun st L => (fe st L).bind fun u L1 => match u with
  | .l n => (match L1[n]? with
    | some (.l _) => .ok (.liv n) L1
    | some (.z d) => opt (walkD T d) fun ds => .ok (.fix ds) L1
    | _ => .no)
  | .d d => opt (walkD T d) fun ds => .ok (.fix ds) L1
theorem ki_itG (O : OwnTs X.prog X.w X.K X.mg X.base k T) (hr : Rm k X.A) (he : KE X W e fe) : KJ X W tg e (iItG T fe) := by
  refine ⟨fun pins s σ H R I ⟨F, ρ, L, st, o, r, h⟩ => ?_⟩
  refine thn (PE.run he pins s σ H _ I (RG.one (Q' := Nx RepU PIs X.K W σ F ρ H L R fun u L1 => match u with
    | .l n => (match L1[n]? with
      | some (.l _) => .ok (.liv n) L1
      | some (.z d) => opt (walkD T d) fun ds => .ok (.fix ds) L1
      | _ => .no)
    | .d d => opt (walkD T d) fun ds => .ok (.fix ds) L1) o r h fun x H1 F1 ρ1 L1 u s1 o1 r1 p1 h1 => ⟨F1, ρ1, L1, u, s1, o1, p1, h1⟩)) fun v s1 ⟨x, H1, I1, rx, F1, ρ1, L1, uu, st1, o1, p1, h1⟩ => ?_
  have rest : ∀ d, Rep X.K F1 H1 d x → GE PIs X.K W σ F1 ρ1 H1 L1 R (opt (walkD T d) fun ds => .ok (.fix ds) L1) → wpAny (model X.prog X.w) X.A (pyIter v) (PIE X pins σ tg R) X.xe s1 := fun d q2 h2 => by
    obtain ⟨ds, e2, h3⟩ := h2.opt
    have gen : itemsOf T d = some ds → wpAny (model X.prog X.w) X.A (pyIter v) (PIE X pins σ tg R) X.xe s1 := fun e2 => by
      refine val_iter (⟨hr.rm, rfl⟩ : Sub X k X.A) O I1 q2 rx e2 fun b a it vs s' ga gb G => ?_
      cases b
      · exact ⟨it, [it], _, _, H1, rfl, G.inv, turn_tuple a it, G.at_, fun c hc => by rw [List.mem_singleton.mp hc]; exact G.fp, h3 F1 ρ1 H1 (Itt X.K a) Step.refl o1 (itb_tup ga gb).its⟩
      · exact ⟨it, [it], _, _, H1, rfl, G.inv, turn_list a it, G.at_, fun c hc => by rw [List.mem_singleton.mp hc]; exact G.fp, h3 F1 ρ1 H1 (Itl X.K a) Step.refl o1 (itb_list ga.1 ga.2 gb).its⟩
    cases d with
    | str y =>
      cases e2
      cases q2
      obtain ⟨t, rfl⟩ := rx
      have qq := h3 F1 ρ1 H1 (Its y) Step.refl o1 (itb_str y).its
      cases ha : y.cps.all (· < 128)
      · exact wpAny_pyIter_wide ha (pi_one (tk := s1.toks) I1 _ (turn_str _ y t "str_iterator" (.inr rfl)) ⟨_, Heap.get?_push_size _ rfl, rfl, rfl⟩ qq)
      · exact wpAny_pyIter_ascii ha (pi_one (tk := s1.toks) I1 _ (turn_str _ y t "str_ascii_iterator" (.inl rfl)) ⟨_, Heap.get?_push_size _ rfl, rfl, rfl⟩ qq)
    | _ => exact gen e2
  cases uu with
  | d d => exact rest d p1 h1
  | l n =>
    obtain ⟨hn, rfl⟩ := p1
    dsimp only at h1
    split at h1
    · rename_i xs q
      obtain ⟨nf, vs, g1, g2⟩ := o1.at_ n _ q
      obtain rfl : v = Value.ref (ρ1 n) := rx
      obtain ⟨its, rv, pl, hz⟩ := I1.list (.inl (.inl g1))
      exact wpAny_pyIter_list pl.isList (pi_one (tk := s1.toks) I1 _ (turn_list (ρ1 n) _) ⟨_, Heap.get?_push_size _ rfl, rfl, rfl⟩ (h1 F1 ρ1 H1 (Itl X.K (ρ1 n)) Step.refl o1 (its_liv hn)))
    · rename_i d q
      exact rest d (o1.at_ n _ q) h1
    · exact h1.elim
end
/-! ### the plain side: what the words reckon -/
theorem compG_fm {tf : TgF} {tt : TF} {fe : EF} {st : SS} {L : LS} {s : Src} {xs : List D} (hx : ∀ i, s.at_ L i = some xs[i]?) (g : D → Option D)
    (h : ∀ d ∈ xs, ∃ st1, tf d st = some st1 ∧ ((∃ y, tt st1 L = .ok true L ∧ fe st1 L = .ok (.d y) L ∧ g d = some y) ∨ (tt st1 L = .ok false L ∧ g d = none))) :
    ∀ (m i : Nat) (acc : List D), i + m = xs.length → acc.length + m ≤ big → compG tf tt fe st s (m + 1) i acc L = .ok (acc ++ (xs.drop i).filterMap g) L
  | 0, i, acc, hm, _ => by
    have : xs[i]? = none := List.getElem?_eq_none_iff.mpr (by omega)
    simp [compG, hx, this, List.drop_eq_nil_of_le (show xs.length ≤ i by omega)]
  | m + 1, i, acc, hm, hl => by
    have hi : i < xs.length := by omega
    have e0 : xs[i]? = some xs[i] := List.getElem?_eq_getElem hi
    obtain ⟨st1, e1, h1⟩ := h xs[i] (List.getElem_mem hi)
    have hl' : acc.length < big := by omega
    rw [List.drop_eq_getElem_cons hi, List.filterMap_cons]
    rcases h1 with ⟨y, e2, e3, e4⟩ | ⟨e2, e4⟩
    · have ih := compG_fm hx g h m (i + 1) (acc ++ [y]) (by omega) (by simp; omega)
      rw [compG, hx, e0]
      simp only [opt, e1, e2, bindN_ok, if_true, e3, fzU, hl', ih, e4, List.append_assoc, List.singleton_append]
    · have ih := compG_fm hx g h m (i + 1) acc (by omega) (by omega)
      rw [compG, hx, e0]
      simp [opt, e1, e2, ih, e4]
theorem comp_g {fi : IG} {vs : List Nat} {tf : TgF} {tt : TF} {fe : EF} {st : SS} {L : LS} {s : Src} {xs : List D} (g : D → Option D) (hi : fi st L = .ok s L) (hx : ∀ i, s.at_ L i = some xs[i]?) (hn : s.len L = xs.length) (hl : xs.length ≤ big)
    (h : ∀ d ∈ xs, ∃ st1, tf d (wipeS st vs) = some st1 ∧ ((∃ y, tt st1 L = .ok true L ∧ fe st1 L = .ok (.d y) L ∧ g d = some y) ∨ (tt st1 L = .ok false L ∧ g d = none))) : eCompG fi vs tf tt fe st L = .ok (.d (.lst (xs.filterMap g))) L := by
  unfold eCompG
  rw [hi]
  simp only [Rs.bind]
  rw [hn, compG_fm hx g h xs.length 0 [] (by omega) (by simpa using hl)]
  simp [Rs.bind]
theorem comp_f {fi : IF} {vs : List Nat} {tf : TgF} {tt : TF} {fe : EF} {st : SS} {L : LS} {xs : List D} (g : D → Option D) (hi : fi st L = .ok xs L) (hl : xs.length ≤ big)
    (h : ∀ d ∈ xs, ∃ st1, tf d (wipeS st vs) = some st1 ∧ ((∃ y, tt st1 L = .ok true L ∧ fe st1 L = .ok (.d y) L ∧ g d = some y) ∨ (tt st1 L = .ok false L ∧ g d = none))) : eComp fi vs tf tt fe st L = .ok (.d (.lst (xs.filterMap g))) L := by
  unfold eComp
  rw [hi]
  simp only [Rs.bind]
  rw [compF_fm g xs [] h (by simpa using hl)]
  simp [Rs.bind]
/-- each item to its own -/
theorem comp_m {fi : IF} {vs : List Nat} {tf : TgF} {fe : EF} {st : SS} {L : LS} {xs : List D} (g : D → D) (hi : fi st L = .ok xs L) (hl : xs.length ≤ big)
    (h : ∀ d ∈ xs, ∃ st1, tf d (wipeS st vs) = some st1 ∧ fe st1 L = .ok (.d (g d)) L) : eComp fi vs tf tYesF fe st L = .ok (.d (.lst (xs.map g))) L := by
  have := comp_f (tt := tYesF) (fun d => some (g d)) hi hl (fun d hd => let ⟨st1, e1, e2⟩ := h d hd; ⟨st1, e1, .inl ⟨g d, rfl, e2, rfl⟩⟩)
  rw [this]
  simp [List.filterMap_eq_map]
theorem comp_mg {fi : IG} {vs : List Nat} {tf : TgF} {fe : EF} {st : SS} {L : LS} {s : Src} {xs : List D} (g : D → D) (hi : fi st L = .ok s L) (hx : ∀ i, s.at_ L i = some xs[i]?) (hn : s.len L = xs.length) (hl : xs.length ≤ big)
    (h : ∀ d ∈ xs, ∃ st1, tf d (wipeS st vs) = some st1 ∧ fe st1 L = .ok (.d (g d)) L) : eCompG fi vs tf tYesF fe st L = .ok (.d (.lst (xs.map g))) L := by
  have := comp_g (tt := tYesF) (fun d => some (g d)) hi hx hn hl (fun d hd => let ⟨st1, e1, e2⟩ := h d hd; ⟨st1, e1, .inl ⟨g d, rfl, e2, rfl⟩⟩)
  rw [this]
  simp [List.filterMap_eq_map]
end VL

set_option Elab.async false
set_option linter.all false
set_option maxRecDepth 100000
set_option maxHeartbeats 4000000
namespace VL
open PySem PySem.Spec PyProof.Rows L2
open PySem.W (Frag)
/-! ### draws while other things of ours change, too -/
structure PenR (R : LS) (n : Nat) (L : LS) : Prop where
  ex : ∃ cs spot rest, L = penL cs spot rest ++ R ∧ 0 ≤ spot ∧ spot ≤ (n : Int) ∧ 0 ≤ rest
theorem PenR.mono {R : LS} {m n : Nat} {L : LS} (p : PenR R m L) (h : m ≤ n) : PenR R n L := let ⟨cs, s, r, e, h1, h2, h3⟩ := p.ex; ⟨cs, s, r, e, h1, by omega, h3⟩
theorem PenR.len {R : LS} {n : Nat} {L : LS} (p : PenR R n L) : L.length = R.length + 1 := by obtain ⟨cs, s, r, rfl, _⟩ := p.ex; simp [penL]
theorem PenR.one {R : LS} {n : Nat} {L : LS} (p : PenR R n L) : ∃ lo, L = lo :: R := by obtain ⟨cs, s, r, rfl, _⟩ := p.ex; exact ⟨_, rfl⟩
theorem PenR.more {R : LS} {n : Nat} {lo : LO} (p : PenR R n (lo :: R)) (S : LS) : PenR S n (lo :: S) := by
  obtain ⟨cs, s, r, e, h⟩ := p.ex
  have e : lo :: R = .l [.lst (cs.map .int), .int s, .int r] :: R := e
  have e1 : lo = .l [.lst (cs.map .int), .int s, .int r] := (List.cons.inj e).1
  exact ⟨cs, s, r, by rw [e1]; rfl, h⟩
theorem PenR.of {n : Nat} {L : LS} (p : Pen n L) : PenR [] n L := let ⟨cs, s, r, e, h⟩ := p.ex; ⟨cs, s, r, by rw [e]; simp, h⟩
theorem draw_okR {R : LS} {a1 b1 m1 a2 b2 m2 b3 a4 b4 m3 : Int} (hc : Cs a1 b1 m1 a2 b2 m2 b3 a4 b4 m3) {n : Nat} (hn : n < 2 ^ 20) {L : LS} (p : PenR R n L) {many : Int} (h0 : 0 < many) (h1 : many < 2 ^ 30) :
    ∃ r L', fnF 2 7 (drawB a1 b1 m1 a2 b2 m2 b3 a4 b4 m3) [.l 0, .d (.int many)] L = .ok (.d (.int r)) L' ∧ 0 ≤ r ∧ r < many ∧ PenR R (n + 1) L' := by
  obtain ⟨cs, spot, rest, rfl, hs0, hs1, hr⟩ := p.ex
  obtain ⟨ha1, hb1, hm1, ha2, hb2, hm2, hb3, ha4, hb4, hm3⟩ := hc
  have hspot : spot < 2 ^ 20 := by omega
  have h1' : many < 1073741824 := h1
  by_cases hrest : 0 < rest
  · refine ⟨rest % many, penL cs spot (rest / many) ++ R, ?_, Int.emod_nonneg _ (by omega), Int.emod_lt_of_pos _ h0, ⟨cs, spot, rest / many, rfl, hs0, by omega, Int.ediv_nonneg hr (by omega)⟩⟩
    simp [Rs.bind, opt, LO.rd, rdU, fzU, eVar, eC, op2, op1, eBin, eUn, eCmp, bop2, bCmp, eChain, bChain, trU, bTru, eAnd, eOr, eNot, bAnd, bOr, bNot, eIf, rdUs, fzUs, aNil, aCons, eLst, eTup, eLstL, opn, eFn, oNone, oSome, eSl, eJoin, Rt.andThen, ofR, optS, sNil, sSeq, sDrop, sRet, sIf, sSet, sPar, tfName, tfNil, tfCons, tfTup, sAsg, sSub, outR, fnF, cPos, cBoth, Sr.get, arrU, eCall, iSeq, iRng1, iRng2, sFor, eComp, tYesF, eMake, mkF, eRest, sFld, eFnU, sBrk, sCnt, sRetN, eDic0, eDic, dPairs, keyU, bD, big, eBinU, bBinU, bTest, eMeth, own1, own2, ownLen, lenU, truU, notU, sRaise, eAppend, apnd, newL, catL, sTry, Rt.clr, eSlA, sliceA, sliceD, addU, taddU, mulA, tmulA, tupU, iIt, walkD, itemsOf, iZipG, iEnumG, aStar, aStarZ, sAug, eRev, iRng3, sPar3, ownOp, ownNe, ownCmp, ownIn, wipeS, List.take_length, listL, drawB, penL, List.take_length, gtB, hrest, ixD, atI, ixN, modD, intL, divD, h0, h1', putAt]
  · have hr0 : rest = 0 := by omega
    subst hr0
    -- what the cell is
    have cell : ∃ c : Int, (cs = [] ∧ c = a1 * spot + b1) ∨ (cs ≠ [] ∧ atI (cs.map D.int) (spot % (cs.length : Int)) = some (.int c)) := by
      cases hcs : cs with
      | nil => exact ⟨_, .inl ⟨rfl, rfl⟩⟩
      | cons x xs =>
        have hl : (0 : Int) < ((x :: xs).length : Int) := by rw [List.length_cons]; omega
        obtain ⟨c, hc⟩ := ints_at (x :: xs) (Int.emod_nonneg spot (by omega)) (Int.emod_lt_of_pos spot hl)
        exact ⟨c, .inr ⟨by simp, hc⟩⟩
    obtain ⟨c, hcell⟩ := cell
    have sm : smallI spot = true := small_of hs0 (by omega)
    have e1 : mulD (.int a1) (.int spot) = some (.int (a1 * spot)) := by simp [mulD, sm]
    have e2 : mulD (.int a2) (.int spot) = some (.int (a2 * spot)) := by simp [mulD, sm]
    have e3 : mulD (.int 2) (.int spot) = some (.int (2 * spot)) := by simp [mulD, sm]
    have e4 : mulD (.int a4) (.int spot) = some (.int (a4 * spot)) := by simp [mulD, sm]
    have e5 : mulD (.int (a4 * spot)) (.int spot) = some (.int (a4 * spot * spot)) := by simp [mulD, sm]
    have hB1 : 0 ≤ c % m1 + a2 * spot + b2 ∧ c % m1 + a2 * spot + b2 < 2 ^ 64 := by
      have := Int.emod_nonneg c (show m1 ≠ 0 by omega)
      have := Int.emod_lt_of_pos c hm1.1
      have : 0 ≤ a2 * spot := Int.mul_nonneg ha2.1 hs0
      have : a2 * spot ≤ 2 ^ 32 * 2 ^ 20 := Int.mul_le_mul (by omega) (by omega) hs0 (by omega)
      omega
    have p1 : powD (.int (c % m1 + a2 * spot + b2)) (.int 5) = some (.int ((c % m1 + a2 * spot + b2) ^ 5)) := by
      have : (c % m1 + a2 * spot + b2).natAbs < 2 ^ 64 := by omega
      simp only [powD]
      rw [if_pos ⟨by decide, by decide, this⟩]
      rfl
    generalize hs1' : (c % m1 + a2 * spot + b2) ^ 5 % m2 = s1
    have hs1a : 0 ≤ s1 ∧ s1 < m2 := by
      subst hs1'
      exact ⟨Int.emod_nonneg _ (by omega), Int.emod_lt_of_pos _ hm2.1⟩
    have sm1 : smallI s1 = true := small_of hs1a.1 (by omega)
    have e6 : mulD (.int s1) (.int (2 * spot + b3)) = some (.int (s1 * (2 * spot + b3))) := by simp [mulD, sm1]
    have hB2 : 0 ≤ s1 * (2 * spot + b3) + a4 * spot * spot + b4 ∧ s1 * (2 * spot + b3) + a4 * spot * spot + b4 < 2 ^ 64 := by
      have : 0 ≤ s1 * (2 * spot + b3) := Int.mul_nonneg hs1a.1 (by omega)
      have : s1 * (2 * spot + b3) ≤ 2 ^ 32 * 2 ^ 22 := Int.mul_le_mul (by omega) (by omega) (by omega) (by omega)
      have h3 : 0 ≤ a4 * spot := Int.mul_nonneg ha4.1 hs0
      have h4 : a4 * spot ≤ 2 ^ 20 * 2 ^ 20 := Int.mul_le_mul (by omega) (by omega) hs0 (by omega)
      have : 0 ≤ a4 * spot * spot := Int.mul_nonneg h3 hs0
      have : a4 * spot * spot ≤ 2 ^ 40 * 2 ^ 20 := Int.mul_le_mul (by omega) (by omega) hs0 (by omega)
      omega
    have p2 : powD (.int (s1 * (2 * spot + b3) + a4 * spot * spot + b4)) (.int 3) = some (.int ((s1 * (2 * spot + b3) + a4 * spot * spot + b4) ^ 3)) := by
      have : (s1 * (2 * spot + b3) + a4 * spot * spot + b4).natAbs < 2 ^ 64 := by omega
      simp only [powD]
      rw [if_pos ⟨by decide, by decide, this⟩]
      rfl
    have p3 : powD (.int 10) (.int 18) = some (.int (10 ^ 18)) := by
      simp only [powD]
      rw [if_pos ⟨by decide, by decide, by decide⟩]
      rfl
    generalize hs2' : (s1 * (2 * spot + b3) + a4 * spot * spot + b4) ^ 3 % m3 = s2
    have hlen : ((cs.map D.int).length : Int) = (cs.length : Int) := by simp
    have nn := ne_nil cs
    by_cases hg : spot < (cs.length : Int) ∧ 10 ^ 18 ≤ (if c < 0 then -c else c)
    · -- a great number
      have hne : cs ≠ [] := by
        intro z; rw [z] at hg; simp at hg; omega
      have hat : atI (cs.map D.int) (spot % (cs.length : Int)) = some (.int c) := by
        rcases hcell with ⟨z, _⟩ | ⟨_, z⟩
        · exact absurd z hne
        · exact z
      have hce : cs.isEmpty = false := by cases cs <;> simp_all
      generalize hac : (if c < 0 then -c else c) = ac
      rw [hac] at hg
      have e7 : mulD (.int 2) (.int (ac - 1000000000000000000)) = some (.int (2 * (ac - 1000000000000000000))) := by
        have : smallI 2 = true := by decide
        simp only [mulD, this, Bool.true_or, if_true]
      have hg0 : 0 ≤ 2 * (ac - 10 ^ 18) + (if c < 0 then 1 else 0) := by split <;> omega
      refine ⟨(2 * (ac - 10 ^ 18) + (if c < 0 then 1 else 0)) % many, penL cs (spot + 1) ((2 * (ac - 10 ^ 18) + (if c < 0 then 1 else 0)) / many) ++ R, ?_, Int.emod_nonneg _ (by omega), Int.emod_lt_of_pos _ h0, ⟨cs, spot + 1, _, rfl, by omega, by omega, Int.ediv_nonneg hg0 (by omega)⟩⟩
      have hl0 : (0 : Int) < (cs.length : Int) := by omega
      have hlN : 0 < cs.length := by omega
      have hg2 : (1000000000000000000 : Int) ≤ ac := by have := hg.2; omega
      have hat' : ixD (.lst (cs.map D.int)) (.int (spot % (cs.length : Int))) = some (.int c) := hat
      simp [Rs.bind, opt, LO.rd, rdU, fzU, eVar, eC, op2, op1, eBin, eUn, eCmp, bop2, bCmp, eChain, bChain, trU, bTru, eAnd, eOr, eNot, bAnd, bOr, bNot, eIf, rdUs, fzUs, aNil, aCons, eLst, eTup, eLstL, opn, eFn, oNone, oSome, eSl, eJoin, Rt.andThen, ofR, optS, sNil, sSeq, sDrop, sRet, sIf, sSet, sPar, tfName, tfNil, tfCons, tfTup, sAsg, sSub, outR, fnF, cPos, cBoth, Sr.get, arrU, eCall, iSeq, iRng1, iRng2, sFor, eComp, tYesF, eMake, mkF, eRest, sFld, eFnU, sBrk, sCnt, sRetN, eDic0, eDic, dPairs, keyU, bD, big, eBinU, bBinU, bTest, eMeth, own1, own2, ownLen, lenU, truU, notU, sRaise, eAppend, apnd, newL, catL, sTry, Rt.clr, eSlA, sliceA, sliceD, addU, taddU, mulA, tmulA, tupU, iIt, walkD, itemsOf, iZipG, iEnumG, aStar, aStarZ, sAug, eRev, iRng3, sPar3, ownOp, ownNe, ownCmp, ownIn, wipeS, List.take_length, listL, drawB, penL, List.take_length, gtB, ltB, geB, ix_0, ix_1, ix_2, add_i, ixN, modD, intL, divD, absD, lenD, subD, h0, h1', putAt, e1, nn, hce, hl0, hlN, hat', hac, hg.1, hg2, p3, e7]
    · have hs2a : 0 ≤ s2 := by subst hs2'; exact Int.emod_nonneg _ (by omega)
      refine ⟨(s2 / 32) % many, penL cs (spot + 1) 0 ++ R, ?_, Int.emod_nonneg _ (by omega), Int.emod_lt_of_pos _ h0, ⟨cs, spot + 1, 0, rfl, by omega, by omega, by omega⟩⟩
      rcases hcell with ⟨rfl, rfl⟩ | ⟨hne, hat⟩
      · have nn' : neB (.lst []) (.lst []) = some false := ne_nil []
        have hsn : ¬ spot < 0 := by omega
        simp [Rs.bind, opt, LO.rd, rdU, fzU, eVar, eC, op2, op1, eBin, eUn, eCmp, bop2, bCmp, eChain, bChain, trU, bTru, eAnd, eOr, eNot, bAnd, bOr, bNot, eIf, rdUs, fzUs, aNil, aCons, eLst, eTup, eLstL, opn, eFn, oNone, oSome, eSl, eJoin, Rt.andThen, ofR, optS, sNil, sSeq, sDrop, sRet, sIf, sSet, sPar, tfName, tfNil, tfCons, tfTup, sAsg, sSub, outR, fnF, cPos, cBoth, Sr.get, arrU, eCall, iSeq, iRng1, iRng2, sFor, eComp, tYesF, eMake, mkF, eRest, sFld, eFnU, sBrk, sCnt, sRetN, eDic0, eDic, dPairs, keyU, bD, big, eBinU, bBinU, bTest, eMeth, own1, own2, ownLen, lenU, truU, notU, sRaise, eAppend, apnd, newL, catL, sTry, Rt.clr, eSlA, sliceA, sliceD, addU, taddU, mulA, tmulA, tupU, iIt, walkD, itemsOf, iZipG, iEnumG, aStar, aStarZ, sAug, eRev, iRng3, sPar3, ownOp, ownNe, ownCmp, ownIn, wipeS, List.take_length, listL, drawB, penL, List.take_length, gtB, ltB, geB, ix_0, ix_1, ix_2, add_i, ixN, modD, intL, divD, absD, lenD, subD, h0, h1', putAt, e1, e2, e3, e4, e5, e6, nn', hsn, hm1.1, hm2.1, hm3.1, p1, p2, hs1', hs2']
      · have hlN : 0 < cs.length := by cases cs <;> simp_all
        have hl0 : (0 : Int) < (cs.length : Int) := by omega
        have hce : cs.isEmpty = false := by cases cs <;> simp_all
        have hat' : ixD (.lst (cs.map D.int)) (.int (spot % (cs.length : Int))) = some (.int c) := hat
        by_cases hsn : spot < (cs.length : Int)
        · have hgg : ¬ (1000000000000000000 : Int) ≤ (if c < 0 then -c else c) := fun z => hg ⟨hsn, z⟩
          simp [Rs.bind, opt, LO.rd, rdU, fzU, eVar, eC, op2, op1, eBin, eUn, eCmp, bop2, bCmp, eChain, bChain, trU, bTru, eAnd, eOr, eNot, bAnd, bOr, bNot, eIf, rdUs, fzUs, aNil, aCons, eLst, eTup, eLstL, opn, eFn, oNone, oSome, eSl, eJoin, Rt.andThen, ofR, optS, sNil, sSeq, sDrop, sRet, sIf, sSet, sPar, tfName, tfNil, tfCons, tfTup, sAsg, sSub, outR, fnF, cPos, cBoth, Sr.get, arrU, eCall, iSeq, iRng1, iRng2, sFor, eComp, tYesF, eMake, mkF, eRest, sFld, eFnU, sBrk, sCnt, sRetN, eDic0, eDic, dPairs, keyU, bD, big, eBinU, bBinU, bTest, eMeth, own1, own2, ownLen, lenU, truU, notU, sRaise, eAppend, apnd, newL, catL, sTry, Rt.clr, eSlA, sliceA, sliceD, addU, taddU, mulA, tmulA, tupU, iIt, walkD, itemsOf, iZipG, iEnumG, aStar, aStarZ, sAug, eRev, iRng3, sPar3, ownOp, ownNe, ownCmp, ownIn, wipeS, List.take_length, listL, drawB, penL, List.take_length, gtB, ltB, geB, ix_0, ix_1, ix_2, add_i, ixN, modD, intL, divD, absD, lenD, subD, h0, h1', putAt, e1, e2, e3, e4, e5, e6, nn, hce, hl0, hlN, hat', hsn, p3, hgg, hm1.1, hm2.1, hm3.1, p1, p2, hs1', hs2']
        · simp [Rs.bind, opt, LO.rd, rdU, fzU, eVar, eC, op2, op1, eBin, eUn, eCmp, bop2, bCmp, eChain, bChain, trU, bTru, eAnd, eOr, eNot, bAnd, bOr, bNot, eIf, rdUs, fzUs, aNil, aCons, eLst, eTup, eLstL, opn, eFn, oNone, oSome, eSl, eJoin, Rt.andThen, ofR, optS, sNil, sSeq, sDrop, sRet, sIf, sSet, sPar, tfName, tfNil, tfCons, tfTup, sAsg, sSub, outR, fnF, cPos, cBoth, Sr.get, arrU, eCall, iSeq, iRng1, iRng2, sFor, eComp, tYesF, eMake, mkF, eRest, sFld, eFnU, sBrk, sCnt, sRetN, eDic0, eDic, dPairs, keyU, bD, big, eBinU, bBinU, bTest, eMeth, own1, own2, ownLen, lenU, truU, notU, sRaise, eAppend, apnd, newL, catL, sTry, Rt.clr, eSlA, sliceA, sliceD, addU, taddU, mulA, tmulA, tupU, iIt, walkD, itemsOf, iZipG, iEnumG, aStar, aStarZ, sAug, eRev, iRng3, sPar3, ownOp, ownNe, ownCmp, ownIn, wipeS, List.take_length, listL, drawB, penL, List.take_length, gtB, ltB, geB, ix_0, ix_1, ix_2, add_i, ixN, modD, intL, divD, absD, lenD, subD, h0, h1', putAt, e1, e2, e3, e4, e5, e6, nn, hce, hl0, hlN, hat', hsn, hm1.1, hm2.1, hm3.1, p1, p2, hs1', hs2']
def DrR (d : FF) : Prop := ∀ {R : LS} {n : Nat} {L : LS} {many : Int}, n < 2 ^ 20 → PenR R n L → 0 < many → many < 2 ^ 30 → ∃ r L', d [.l 0, .d (.int many)] L = .ok (.d (.int r)) L' ∧ 0 ≤ r ∧ r < many ∧ PenR R (n + 1) L'
def PkR (p : FF) : Prop := ∀ {R : LS} {n : Nat} {L : LS} {xs : List D}, n < 2 ^ 20 → PenR R n L → xs ≠ [] → xs.length < 2 ^ 30 → ∃ x L', p [.l 0, .d (.lst xs)] L = .ok (.d x) L' ∧ x ∈ xs ∧ PenR R (n + 1) L'
theorem pick_okR {d : FF} (h : DrR d) : PkR (fnF 2 2 (pickB d)) := by
  intro R n L xs hn p h0 h1
  have hl : (0 : Int) < (xs.length : Int) := by
    cases xs with
    | nil => exact absurd rfl h0
    | cons x xs => rw [List.length_cons]; omega
  obtain ⟨r, L', e, r0, r1, p'⟩ := h hn p hl (by omega)
  have hr : r.toNat < xs.length := by omega
  have hx : ixD (.lst xs) (.int r) = some xs[r.toNat] := by
    simp [ixD, atI, ixN, r0, r1, hr]
  have e1 := p.len
  have e2 := p'.len
  have ht : List.take (R.length + 1) L' = L' := by rw [← e2]; exact List.take_length
  refine ⟨xs[r.toNat], L', ?_, List.getElem_mem _, p'⟩
  simp [Rs.bind, opt, LO.rd, rdU, fzU, eVar, eC, op2, op1, eBin, eUn, eCmp, bop2, bCmp, eChain, bChain, trU, bTru, eAnd, eOr, eNot, bAnd, bOr, bNot, eIf, rdUs, fzUs, aNil, aCons, eLst, eTup, eLstL, opn, eFn, oNone, oSome, eSl, eJoin, Rt.andThen, ofR, optS, sNil, sSeq, sDrop, sRet, sIf, sSet, sPar, tfName, tfNil, tfCons, tfTup, sAsg, sSub, outR, fnF, cPos, cBoth, Sr.get, arrU, eCall, iSeq, iRng1, iRng2, sFor, eComp, tYesF, eMake, mkF, eRest, sFld, eFnU, sBrk, sCnt, sRetN, eDic0, eDic, dPairs, keyU, bD, big, eBinU, bBinU, bTest, eMeth, own1, own2, ownLen, lenU, truU, notU, sRaise, eAppend, apnd, newL, catL, sTry, Rt.clr, eSlA, sliceA, sliceD, addU, taddU, mulA, tmulA, tupU, iIt, walkD, itemsOf, iZipG, iEnumG, aStar, aStarZ, sAug, eRev, iRng3, sPar3, ownOp, ownNe, ownCmp, ownIn, wipeS, List.take_length, listL, pickB, lenD, e, hx, e1, ht]
end VL

set_option Elab.async false
set_option linter.all false
set_option maxRecDepth 100000
set_option maxHeartbeats 4000000
namespace VL
open PySem PySem.Spec PyProof.Rows L2
theorem inRng_ok {i : Int} (h0 : -1000 ≤ i) (h1 : i ≤ 1000000) : inRng i = true := by
  unfold inRng
  rw [Bool.and_eq_true]
  exact ⟨decide_eq_true (by omega), decide_eq_true (by omega)⟩
theorem rng2_ok {f : AF} {st : SS} {L : LS} {i j : Int} {n : Nat} (h : f st L = .ok [.d (.int i), .d (.int j)] L) (h1 : inRng i = true) (h2 : inRng j = true) (e : (j - i).toNat = n) : iRng2 f st L = .ok (rngD i n) L := by
  unfold iRng2
  rw [h]
  simp only [Rs.bind, h1, h2, e]
  rfl
theorem rng1_ok {f : AF} {st : SS} {L : LS} {j : Int} {n : Nat} (h : f st L = .ok [.d (.int j)] L) (h2 : inRng j = true) (e : j.toNat = n) : iRng1 f st L = .ok (rngD 0 n) L := by
  unfold iRng1
  rw [h]
  simp only [Rs.bind, h2, e]
  rfl
theorem for_ok {fi : IF} {tf : TgF} {b : SF} {st : SS} {L : LS} {ds : List D} {r : Rt} (h : fi st L = .ok ds L) (e : forF tf b ds st L = r) : sFor fi tf b st L = r := by
  unfold sFor
  rw [h]
  exact e
theorem binU_ok {g : U → U → LS → Rs U} {fa fb : EF} {st : SS} {L L1 L2 : LS} {x y : U} {r : Rs U} (h1 : fa st L = .ok x L1) (h2 : fb st L1 = .ok y L2) (h3 : g x y L2 = r) : eBinU g fa fb st L = r := by
  unfold eBinU
  rw [h1]
  show (fb st L1).bind _ = r
  rw [h2]
  exact h3
theorem addU_lst {xs ys : List D} {L : LS} (h : xs.length + ys.length ≤ 16777216) : addU (.d (.lst xs)) (.d (.lst ys)) L = .ok (.d (.lst (xs ++ ys))) L := by
  simp [addU, rdU, opt, op2, addD, big, h]
theorem addU_int {i j : Int} {L : LS} : addU (.d (.int i)) (.d (.int j)) L = .ok (.d (.int (i + j))) L := rfl
theorem call_ok {m : FF} {src : List Sr} {n l : Nat} {fa : CF} {st : SS} {L L1 : LS} {us ws xs : List U} {r : Rs U} (h : fa st L = .ok (us, ws) L1) (h1 : us.length = n) (h2 : ws.length = l) (h3 : arrU us ws src = some xs) (h4 : m xs L1 = r) : eCall m src n l fa st L = r := by
  unfold eCall
  rw [h]
  show (if us.length = n ∧ ws.length = l then opt (arrU us ws src) fun xs => m xs L1 else .no) = r
  rw [if_pos ⟨h1, h2⟩, h3]
  exact h4
theorem fn1_ok {g : List D → Option D} {fe : EF} {st : SS} {L L1 : LS} {x y : D} (h1 : fe st L = .ok (.d x) L1) (h2 : g [x] = some y) : eFn g (aCons fe aNil) st L = .ok (.d y) L1 := by
  simp [eFn, aCons, aNil, h1, Rs.bind, opn, rdUs, rdU, opt, h2]
theorem fnU1_ok {g : List U → LS → Rs U} {fe : EF} {st : SS} {L L1 : LS} {u : U} {r : Rs U} (h1 : fe st L = .ok u L1) (h2 : g [u] L1 = r) : eFnU g (aCons fe aNil) st L = r := by
  simp [eFnU, aCons, aNil, h1, Rs.bind, h2]
theorem drop_ok {fe : EF} {st : SS} {L L1 : LS} {u : U} (h : fe st L = .ok u L1) : sDrop fe st L = .nx st L1 := by
  unfold sDrop
  rw [h]
  rfl
theorem lst1_ok (d : D) (st : SS) (L : LS) : eLst (aCons (eC d) aNil) st L = .ok (.d (.lst [d])) L := by
  simp [eLst, aCons, aNil, eC, Rs.bind, fzUs, fzU, opt, big]
/-- a def that ends with a value and leaves our things as they were -/
theorem fn_rt {n N : Nat} {b : SF} {us : List U} {L : LS} {d : D} (hn : us.length = n) (h : b (us.map some ++ List.replicate (N - n) none) L = .rt (.d d) L) : fnF n N b us L = .ok (.d d) L := by
  unfold fnF
  rw [if_pos hn, h]
  simp only [outR, List.take_length]
theorem fn_rtR {n N : Nat} {b : SF} {us : List U} {L L' M : LS} {d : D} (hn : us.length = n) (h : b (us.map some ++ List.replicate (N - n) none) L = .rt (.d d) M) (hm : M.take L.length = L') : fnF n N b us L = .ok (.d d) L' := by
  unfold fnF
  rw [if_pos hn, h]
  simp only [outR, hm]
theorem seq_nx {a b : SF} {st st1 : SS} {L L1 : LS} {r : Rt} (h : a st L = .nx st1 L1) (k : b st1 L1 = r) : sSeq a b st L = r := by
  unfold sSeq
  rw [h]
  exact k
theorem seq_rt {a b : SF} {st : SS} {L L1 : LS} {u : U} (h : a st L = .rt u L1) : sSeq a b st L = .rt u L1 := by
  unfold sSeq
  rw [h]
  rfl
theorem ret_ok {fe : EF} {st : SS} {L L1 : LS} {u : U} (h : fe st L = .ok u L1) : sRet fe st L = .rt u L1 := by
  unfold sRet
  rw [h]
  rfl
theorem set_ok {i : Nat} {fe : EF} {st : SS} {L L1 : LS} {u : U} (h : fe st L = .ok u L1) : sSet i fe st L = .nx (st.set i (some u)) L1 := by
  unfold sSet
  rw [h]
  rfl
theorem if_f {t : TF} {a b : SF} {st : SS} {L L1 : LS} {r : Rt} (h : t st L = .ok false L1) (k : b st L1 = r) : sIf t a b st L = r := by
  unfold sIf
  rw [h]
  exact k
theorem if_t {t : TF} {a b : SF} {st : SS} {L L1 : LS} {r : Rt} (h : t st L = .ok true L1) (k : a st L1 = r) : sIf t a b st L = r := by
  unfold sIf
  rw [h]
  exact k
theorem or_ff {a b : TF} {st : SS} {L L1 L2 : LS} (h : a st L = .ok false L1) (k : b st L1 = .ok false L2) : bOr a b st L = .ok false L2 := by
  unfold bOr
  rw [h]
  exact k
theorem and_tt {a b : TF} {st : SS} {L L1 : LS} {r : Rs Bool} (h : a st L = .ok true L1) (k : b st L1 = r) : bAnd a b st L = r := by
  unfold bAnd
  rw [h]
  exact k
theorem and_f {a b : TF} {st : SS} {L L1 : LS} (h : a st L = .ok false L1) : bAnd a b st L = .ok false L1 := by
  unfold bAnd
  rw [h]
  rfl
theorem not_ok {a : TF} {st : SS} {L L1 : LS} {b : Bool} (h : a st L = .ok b L1) : bNot a st L = .ok (!b) L1 := by
  unfold bNot
  rw [h]
  rfl
theorem tru_bl {a : EF} {st : SS} {L L1 : LS} {b : Bool} (h : a st L = .ok (.d (.bl b)) L1) : bTru a st L = .ok b L1 := by
  simp [bTru, h, Rs.bind, trU, truB, rdU, opt]
theorem cmp_ok {g : D → D → Option Bool} {a b : EF} {st : SS} {L L1 L2 : LS} {x y : D} {k : Bool} (h1 : a st L = .ok (.d x) L1) (h2 : b st L1 = .ok (.d y) L2) (e : g x y = some k) : bCmp g a b st L = .ok k L2 := by
  simp [bCmp, h1, h2, Rs.bind, bop2, rdU, opt, e]
theorem ecmp_ok {g : D → D → Option Bool} {a b : EF} {st : SS} {L L1 L2 : LS} {x y : D} {k : Bool} (h1 : a st L = .ok (.d x) L1) (h2 : b st L1 = .ok (.d y) L2) (e : g x y = some k) : eCmp g a b st L = .ok (.d (.bl k)) L2 := by
  simp [eCmp, h1, h2, Rs.bind, bD, eBin, op2, rdU, opt, e]
end VL

set_option Elab.async false
set_option linter.all false
set_option maxRecDepth 100000
set_option maxHeartbeats 4000000
/-! VL51: extend, calls with a star behind, `is True`, an operator of one of two kinds -/
namespace VL
open PySem PySem.Spec PyProof.Rows L2
open PySem.W (Frag)
section
variable {X : Cx} {W : WX} {o e : Expr} {fo fe : EF} {pos : Pos}
def extd (n : Nat) (vu : U) (L2 : LS) : Rs U := opt (fzU L2 vu) fun p => match p.1 with
  | .lst ys => (match p.2[n]? with
    | some (.l xs) => if xs.length + ys.length ≤ big then .ok (.d .non) (p.2.set n (.l (xs ++ ys))) else .no
    | _ => .no)
  | _ => .no
def eExtend (fo fe : EF) : EF := fun st L => (fo st L).bind fun ou L1 => match ou with
  | .l n => (match L1[n]? with
    | some (.l _) => (fe st L1).bind fun vu L2 => extd n vu L2
    | _ => .no)
  | _ => .no
theorem ke_extend {apos : Pos} (ho : KE X W o fo) (he : KE X W e fe) (hbase : attributeBase o "extend" X.env (eval o X.env) = eval o X.env := by rfl)
    (hline : (apos.endLine == pos.line) = true := by rfl) (hs : starEach [e] X.env = (false, eval e X.env) :: starEach [] X.env := by rfl) : KE X W (.Call (.Attribute o "extend" apos) [e] [] pos) (eExtend fo fe) := by
  refine pe_wk (pe_bm PySem.F.plainAttrs_list PySem.F.slot_list_extend PySem.F.type_list_extend mt_extend ho (pa_cons he pa_nil hs) hbase (by rw [hs]; rfl) hline hs (by rfl)) fun σ H Q ⟨F, ρ, L, st, o, r, h⟩ => ?_
  refine RG.one o r h fun x H1 F1 ρ1 L1 u s1 o1 r1 p1 h1 => ?_
  cases u with
  | d y => exact h1.elim
  | l n =>
    dsimp only at h1
    split at h1
    · rename_i ys hy
      obtain ⟨hn, rfl⟩ := p1
      obtain ⟨_, vs, g1, g2⟩ := o1.at_ n _ hy
      refine ⟨.inl ⟨rfl, vs, .inl (.inl g1)⟩, RG.one o1 r1 h1 fun y H2 F2 ρ2 L2 u2 s2 o2 r2 p2 h2 => ?_⟩
      obtain ⟨⟨d, L3⟩, e3, h2⟩ := h2.opt
      obtain ⟨F3, s3, o3, q3⟩ := fzU_ok o2 p2 e3
      dsimp only at h2
      split at h2
      · rename_i ds
        obtain ⟨q, us, rfl, g5, g6⟩ := q3
        split at h2
        · rename_i zs hz
          obtain ⟨hl, h2⟩ := ge_if h2
          obtain ⟨_, ws, g3, g4⟩ := o3.at_ n _ hz
          have e1 : ρ2 n = ρ1 n := s2.same n hn
          refine ⟨ρ1 n, q, ws, us, rfl, rfl, by rw [← e1]; exact g3, g5.2, by rw [big_eq, g4.length, g6.length]; exact hl, ?_⟩
          obtain ⟨s4, o4⟩ := put_live (u := .lst (ws ++ us)) (lo' := .l (zs ++ ds)) o3 hz rfl rfl fun kk nf => ⟨nf, _, upd_same, RepL.mono kk _ (g4.append g6)⟩
          rw [← e1]
          exact h2 F3 ρ2 _ .non (s3.trans s4) o4 rfl
        · exact h2.elim
      · exact h2.elim
    · exact h1.elim
theorem kc_star {es : List Expr} {f : AF} (ha : KA X W (e :: es) f) (he : starEach (e :: es) X.env = (false, eval e X.env) :: starEach es X.env := by rfl) (hpl : ∀ pos, (backTo pos (starEach es X.env)).any (·.1) = true := by intro _; rfl) : KC X W (e :: es) [] [] (cPos f) := by
  intro pos fv first pins s σ H Q hk I h
  obtain ⟨F, ρ, L, st, o, r, h⟩ := h
  refine PySem.W.callWith_S2 (h₀ := X.base) I.ok.mod.kin hk (thn (PA.run ha pos pins s σ H _ I (RG.one (P := RepUs) o r h fun vs H1 F1 ρ1 L1 us s1 o1 r1 p1 h1 => h1.fin (b := (vs, [])) o1 ⟨p1, rfl⟩)) fun us s1 ⟨vs, H1, I1, rv, q⟩ => ⟨I1.kIn, q s1 us [] I1 rv .nil⟩) he (hpl pos)
/-! ### is True -/
def isBlB : D → D → Option Bool
  | .bl a, .bl b => some (a == b)
  | _, _ => none
def notBlB : D → D → Option Bool
  | .bl a, .bl b => some (a != b)
  | _, _ => none
theorem op_isB : OpR X (compareOp .Is) (fun x y H Q => ∃ a b, x = .bl a ∧ y = .bl b ∧ Q (.bl (a == b)) H) := by
  intro pins s σ H x y v u Q I rx ry h
  obtain ⟨a, b, rfl, rfl, q⟩ := h
  cases rx
  cases ry
  exact is_bool (fin_bl I q rfl)
theorem op_notB : OpR X (compareOp .IsNot) (fun x y H Q => ∃ a b, x = .bl a ∧ y = .bl b ∧ Q (.bl (a != b)) H) := by
  intro pins s σ H x y v u Q I rx ry h
  obtain ⟨a, b, rfl, rfl, q⟩ := h
  cases rx
  cases ry
  exact isnot_bool (fin_bl I q rfl)
theorem od_isB : OpR X (compareOp .Is) (rD2 X.K (bD isBlB)) := by
  refine OpR.toD op_isB fun F ρ L H dx dy d x y Q o r1 r2 e k => ?_
  cases dx <;> cases dy <;> simp only [bD, isBlB, Option.map] at e <;> try cases e
  cases r1
  cases r2
  exact ⟨_, _, rfl, rfl, k F H _ Step.refl o rfl⟩
theorem od_notB : OpR X (compareOp .IsNot) (rD2 X.K (bD notBlB)) := by
  refine OpR.toD op_notB fun F ρ L H dx dy d x y Q o r1 r2 e k => ?_
  cases dx <;> cases dy <;> simp only [bD, notBlB, Option.map] at e <;> try cases e
  cases r1
  cases r2
  exact ⟨_, _, rfl, rfl, k F H _ Step.refl o rfl⟩
/-! ### one of two kinds -/
def isC (C : Addr) (L : LS) (x : U) : Bool := match rdU L x with
  | some (.ins C' _ _) => decide (C' = C)
  | _ => false
def opEi (C : Addr) (g h : U → U → LS → Rs U) : U → U → LS → Rs U := fun x y L => if isC C L x then g x y L else h x y L
theorem op_ei {op : Value → Value → Sem Value} {C : Addr} {g h : U → U → LS → Rs U} (hg : Op2U X W op g) (hh : Op2U X W op h) : Op2U X W op (opEi C g h) := by
  intro pins s σ H x y v u Q F ρ L ux uy I o px py rx ry z
  unfold opEi at z
  split at z
  · exact hg pins s σ H x y v u Q F ρ L ux uy I o px py rx ry z
  · exact hh pins s σ H x y v u Q F ρ L ux uy I o px py rx ry z
end
end VL

set_option Elab.async false
set_option linter.all false
set_option maxRecDepth 100000
set_option maxHeartbeats 4000000
/-! VL52: slices and comprehensions as new lists that may still change -/
namespace VL
open PySem PySem.Spec PyProof.Rows L2
open PySem.W (Frag)
section
variable {K : Frag} {F0 F : Addr → Prop} {ρ0 ρ : Nat → Addr} {H0 H : Hp} {L0 L : LS} {p : Addr}
theorem adoptL (h0 : H0 p = none) (s : Step F0 ρ0 H0 L0 F ρ H L) (o : Ok K F ρ H L) (a : Apart F ρ H L p) {lo : LO} (on : lo.on = true) (h : LAt K F H p lo) : Step F0 ρ0 H0 L0 F (ρ1 ρ L p) H (L ++ [lo]) ∧ Ok K F (ρ1 ρ L p) H (L ++ [lo]) := by
  have old : ∀ n, n < L.length → ρ1 ρ L p n = ρ n := fun n h => if_neg (Nat.ne_of_lt h)
  have new : ρ1 ρ L p L.length = p := if_pos rfl
  have gt : ∀ {m lo'}, (L ++ [lo])[m]? = some lo' → (m < L.length ∧ L[m]? = some lo') ∨ (m = L.length ∧ lo' = lo) := fun {m lo'} e => by
    by_cases hm : m < L.length
    · rw [List.getElem?_append_left hm] at e; exact .inl ⟨hm, e⟩
    · have hm' : m = L.length := by
        have := (List.getElem?_eq_some_iff.mp e).1
        simp at this; omega
      subst hm'
      rw [List.getElem?_append_right (Nat.le_refl _)] at e
      simp at e
      exact .inr ⟨rfl, e.symm⟩
  have npl : ∀ {m lo'}, L[m]? = some lo' → lo'.on = true → ρ m ≠ p := fun {m lo'} e t z => a.nl ⟨m, lo', e, t, z⟩
  have hl := s.len
  refine ⟨⟨s.fz, by simp; omega, fun n h => by rw [old n (by omega)]; exact s.same n h, s.keep, fun n l h e t => ?_, fun n l h e t => ?_, s.trk, s.fr⟩, ⟨fun m lo' e => ?_, fun m n lo1 lo2 e1 e2 t1 t2 q => ?_, o.stands⟩⟩
  · rcases gt e with ⟨hm, e⟩ | ⟨hm, _⟩
    · rw [old n hm]; exact s.new n l h e t
    · rw [hm, new]; exact h0
  · rw [List.getElem?_append_left (by omega)] at e; exact s.off n l h e t
  · rcases gt e with ⟨hm, e⟩ | ⟨rfl, rfl⟩
    · rw [old m hm]; exact o.at_ m lo' e
    · rw [new]; exact h
  · rcases gt e1 with ⟨h1, f1⟩ | ⟨h1, g1⟩ <;> rcases gt e2 with ⟨h2, f2⟩ | ⟨h2, g2⟩
    · rw [old m h1, old n h2] at q; exact o.inj m n _ _ f1 f2 t1 t2 q
    · rw [old m h1, h2, new] at q; exact absurd q (npl f1 t1)
    · rw [old n h2, h1, new] at q; exact absurd q.symm (npl f2 t2)
    · rw [h1, h2]
end
def eCompL (fi : IF) (vs : List Nat) (tf : TgF) (tt : TF) (fe : EF) : EF := fun st L => (fi st L).bind fun ds L1 => (compF tf tt fe (wipeS st vs) ds [] L1).bind fun xs L2 => .ok (.l L2.length) (L2 ++ [.l xs])
theorem comp_readL {K : Frag} {W : WX} {fi : IF} {vs : List Nat} {tf : TgF} {tt : TF} {fe : EF} {σ : L2.St} {H : Hp} {Q : VK} (h : RG RepU K W (eCompL fi vs tf tt fe) σ H Q) :
    tLc (RG PIt K W fi) (RT K vs tf) (RG PB K Wn tt) (RG RepU K Wn fe) vs σ H Q := by
  obtain ⟨F, ρ, L, st, o, r, h⟩ := h
  refine RG.one (P := PIt) o r h fun J H1 F1 ρ1 L1 ds s1 o1 r1 p1 h1 D hD => ?_
  refine ⟨fun i m H' => m = ds.length - i ∧ i ≤ ds.length ∧ ∃ F' ρ' L' acc va, Step F1 ρ1 H1 L1 F' ρ' H' L' ∧ Ok K F' ρ' H' L' ∧ Apart F' ρ' H' L' D ∧ H' D = some (.lst va) ∧ RepL K F' H' acc va ∧
    GE RepU K W σ F1 ρ1 H1 L1 Q ((compF tf tt fe (wipeS st vs) (ds.drop i) acc L').bind fun xs M2 => .ok (.l M2.length) (M2 ++ [.l xs])), ⟨ds.length, by simp, Nat.zero_le _, ?_⟩, ?_⟩
  · have ap : Apart F1 ρ1 H1 L1 D := by
      refine ⟨nF o1 hD, fun ⟨n, lo, e, t, z⟩ => ?_⟩
      have h := o1.at_ n lo e
      cases lo with
      | l xs => obtain ⟨_, vs, h1, _⟩ := h; rw [z, hD] at h1; cases h1
      | d ks xs => obtain ⟨_, vs, h1, _⟩ := h; rw [z, hD] at h1; cases h1
      | t ks xs => obtain ⟨_, vs, h1, _⟩ := h; rw [z, hD] at h1; cases h1
      | i C ns xs => obtain ⟨_, dx, fs, h1, _⟩ := h; rw [z, hD] at h1; cases h1
      | z d => cases t
    obtain ⟨_, s2, o2⟩ := bump o1 hD Step.refl o1 ap (.lst [])
    exact ⟨F1, ρ1, L1, [], [], s2, o2, ⟨ap.nf, ap.nl⟩, upd_same, rfl, h1⟩
  · rintro i m H2 ⟨rfl, hi, F2, ρ2, M2, acc, va, s2, o2, ap2, hd2, ra2, h2⟩
    obtain ⟨g1, g2⟩ := p1 F2 ρ2 H2 M2 s2 o2 i
    by_cases hlt : i < ds.length
    · have hdi : ds[i]? = some ds[i] := by simp [hlt]
      obtain ⟨go, yl⟩ := g1 _ hdi
      rw [List.drop_eq_getElem_cons hlt] at h2
      obtain ⟨st3, e3, h3⟩ := ge_optB h2
      refine .inr ⟨go, fun H' => ∃ F' ρ' L' acc va, Step F1 ρ1 H1 L1 F' ρ' H' L' ∧ Ok K F' ρ' H' L' ∧ Apart F' ρ' H' L' D ∧ H' D = some (.lst va) ∧ RepL K F' H' acc va ∧
        GE RepU K W σ F1 ρ1 H1 L1 Q ((compF tf tt fe (wipeS st vs) (ds.drop (i + 1)) acc L').bind fun xs M2 => .ok (.l M2.length) (M2 ++ [.l xs])), fun H' n => ⟨ds.length - (i + 1), by omega, rfl, hlt, n⟩, fun x H3 y => ?_⟩
      obtain ⟨F3, s3, o3, rx⟩ := yl x H3 y
      obtain ⟨ap3, hd3⟩ := ap2.on s3 hd2
      have r3 : RepSt K F3 ρ2 H3 M2 (L2.wipe σ vs) (wipeS st vs) := ((r1.wipe vs).mono s2).mono s3
      refine ⟨F3, ρ2, M2, wipeS st vs, ds[i], st3, o3, r3, rx, e3, fun σ4 r4 w4 => ⟨?_, F3, ρ2, M2, st3, o3, r4, ?_⟩⟩
      · have ww : ∀ (τ : L2.St) (us : List Nat), L2.wipe (L2.wipe τ us) us = L2.wipe τ us := by
          intro τ us
          induction us with
          | nil => rfl
          | cons u us ih =>
            show (L2.wipe ((L2.wipe τ us).set u none) us).set u none = (L2.wipe τ us).set u none
            rw [← wipe_set, ih]
            simp
        rw [w4, ww]
      · obtain ⟨k, L4, e4, h4⟩ := ge_bindN h3
        rw [e4]
        intro F4 ρ4 H4 b s4 o4 pb
        obtain rfl : k = b := pb
        obtain ⟨ap4, hd4⟩ := ap3.on s4 hd3
        have s14 := (s2.trans s3).trans s4
        have ra4 := RepL.mono s4.fz acc (RepL.mono s3.fz acc ra2)
        cases k with
        | false => exact iteF ⟨F4, ρ4, L4, acc, va, s14, o4, ap4, hd4, ra4, h4⟩
        | true =>
          refine iteT ⟨F4, ρ4, L4, st3, o4, r4.mono s4, ?_⟩
          obtain ⟨u, L5, e5, h5⟩ := ge_bindN h4
          rw [e5]
          intro F5 ρ5 H5 yv s5 o5 p5
          obtain ⟨ap5, hd5⟩ := ap4.on s5 hd4
          obtain ⟨⟨d6, L6⟩, e6, h6⟩ := ge_optB h5
          obtain ⟨hz, h6⟩ := ge_ifB h6
          obtain ⟨F6, s6, o6, q6⟩ := fzU_ok o5 p5 e6
          obtain ⟨ap6, hd6⟩ := ap5.on s6 hd5
          have ra6 := RepL.mono s6.fz acc (RepL.mono s5.fz acc ra4)
          refine ⟨va, hd6, by rw [big_eq, ra6.length]; exact hz, ?_⟩
          obtain ⟨k7, s7, o7⟩ := bump o1 hD ((s14.trans s5).trans s6) o6 ap6 (.lst (va ++ [yv]))
          exact ⟨F6, ρ5, L6, acc ++ [d6], va ++ [yv], s7, o7, ⟨ap6.nf, ap6.nl⟩, upd_same, RepL.mono k7 _ (ra6.append (RepL.one q6)), h6⟩
    · have e : i = ds.length := by omega
      subst e
      rw [List.drop_length] at h2
      refine .inl ⟨g2 (Nat.le_refl _), ?_⟩
      obtain ⟨s3, o3⟩ := adoptL hD s2 o2 ap2 (lo := .l acc) rfl ⟨ap2.nf, va, hd2, ra2⟩
      refine h2 _ _ _ _ s3 o3 ⟨by simp, ?_⟩
      show V.ref D = V.ref (if M2.length = M2.length then D else _)
      rw [if_pos rfl]
section
variable {X : Cx} {W : WX} {elt tg iter : Expr} {ifs : List Expr} {scope : Scope} {own : List (Str × Nat)} {pos : Pos} {fi : IF} {tf : TgF} {tt : TF} {fe : EF} {is : List Nat}
theorem ke_compL (hN : X.N.Nodup) (hi : KI X W tg iter fi) (ok : BlkOk X.N X.env.scope scope own)
    (hg : ∀ (s : Shared) (H : Hp) (C : Addr) (cl : List (Str × Addr)) (fp : List Addr), KG (X.blk s H scope (compEnvC scope cl C X.env) fp) tg is tf)
    (ht : ∀ (s : Shared) (H : Hp) (C : Addr) (cl : List (Str × Addr)) (fp : List Addr), KTs (X.blk s H scope (compEnvC scope cl C X.env) fp) Wn ifs tt)
    (he : ∀ (s : Shared) (H : Hp) (C : Addr) (cl : List (Str × Addr)) (fp : List Addr), KE (X.blk s H scope (compEnvC scope cl C X.env) fp) Wn elt fe)
    (hv : own.map (·.2) = is := by rfl) (hc : X.calm = true := by rfl) (hs : ∀ x, foldedSetIterable iter X.env x = pure x := by intro _; rfl) :
    KE X W (.ListComp elt [⟨tg, iter, ifs, 0⟩] scope pos) (eCompL fi is tf tt fe) := by
  subst hv
  exact pe_wk (pe_lc hc hN hi ok hg ht he hs) fun σ H Q h => comp_readL h
end
def eSlL (fa : EF) (fl fh : OF) : EF := fun st L => (fa st L).bind fun x L1 => (fl st L1).bind fun lo L2 => (fh st L2).bind fun hi L3 => opt (rdU L3 x) fun d => match d with
  | .lst xs => .ok (.l L3.length) (L3 ++ [.l (cutG xs lo hi)])
  | _ => .no
section
variable {X : Cx} {W : WX} {a b c e : Expr} {fa fb fc fe : EF} {pos : Pos}
theorem ke_sliceL {lo hi : Option Expr} {fl fh : OF} {p2 : Pos} (ha : KE X W a fa) (hl : KO X W lo fl) (hh : KO X W hi fh) : KE X W (.Subscript a (.Slice lo hi none p2) pos) (eSlL fa fl fh) := by
  refine pe_wk (pe_slice sl_list ha hl hh) fun σ H Q ⟨F, ρ, L, st, o, r, h⟩ => ?_
  refine RG.one o r h fun x H1 F1 ρ1 L1 u s1 o1 r1 p1 h1 => ?_
  refine RG.one (P := PI') o1 r1 h1 fun y H2 F2 ρ2 L2 u2 s2 o2 r2 p2 h2 => ?_
  refine RG.one (P := PI') o2 r2 h2 fun z H3 F3 ρ3 L3 u3 s3 o3 r3 p3 h3 => ?_
  obtain rfl : u2 = y := p2
  obtain rfl : u3 = z := p3
  obtain ⟨d, e1, h3⟩ := h3.opt
  have rd := rdr_of o3 ((p1.mono s2).mono s3) e1
  cases d with
  | lst xs =>
    obtain ⟨p, vs, rfl, g1, q1⟩ := rd
    refine ⟨p, vs, rfl, .inl (.inl g1), fun t ht => ?_⟩
    have k : ∀ a, F3 a → F3 a ∧ upd H3 t (.lst (cutV vs u2 u3)) a = H3 a := fun a f => ⟨f, upd_ne fun z => o3.stands a f (z ▸ ht)⟩
    obtain ⟨s4, o4⟩ := live_ok o3 ht (u := .lst (cutV vs u2 u3)) (lo := .l (cutG xs u2 u3)) rfl ⟨nF o3 ht, _, upd_same, RepL.mono k _ (q1.cut u2 u3)⟩
    refine h3 _ _ _ _ s4 o4 ⟨by simp, ?_⟩
    show V.ref t = V.ref (if L3.length = L3.length then t else _)
    rw [if_pos rfl]
  | _ => exact h3.elim
end
end VL

set_option Elab.async false
set_option linter.all false
set_option maxRecDepth 100000
set_option maxHeartbeats 4000000
/-! VL53: an instance as a test -/
namespace VL
open PySem PySem.Spec PyProof.Rows L2
open PySem.W (Frag)
section
variable {X : Cx} {W : WX} {a : Expr} {fa : EF} {k : Nat}
def bTruI (no : List Addr) (tb : List (Addr × FF)) (fa : EF) : TF := fun st L => (fa st L).bind fun u L1 => match rdU L1 u with
  | some (.ins _ _ _) => truG no tb u L1
  | _ => .no
theorem kb_truI {no : List Addr} {tb : List (Addr × FF)} (hno : ∀ C ∈ no, NoTru X.K C) (T : KMt X.prog X.w X.K X.mg X.base k "__bool__" 1 tb) (hr : Rm k X.A) (tk : Takes X W) (ha : KE X W a fa)
    (he : ∀ whole, isTrue a X.env whole = (do let v ← whole; standAt a.pos; holding [v] (truthy v)) := by intro _; rfl) : KB X W a (bTruI no tb fa) := by
  refine ⟨fun pins s σ H Q I ⟨F, ρ, L, st, o, r, h⟩ => ?_⟩
  refine isTrue_plain (thn (ha.run pins s σ H (fun x H1 => ∃ F1 ρ1 L1 u, Ok X.K F1 ρ1 H1 L1 ∧ RepU X.K F1 ρ1 H1 L1 u x ∧ GE PB X.K W σ F1 ρ1 H1 L1 Q (match rdU L1 u with
    | some (.ins _ _ _) => truG no tb u L1
    | _ => .no)) I (RG.one o r h fun x H1 F1 ρ1 L1 u s1 o1 r1 p1 h1 => ⟨F1, ρ1, L1, u, o1, p1, h1⟩)) fun v s1 ⟨x, H1, I1, r1, F1, ρ1, L1, u, o1, p1, h1⟩ => ?_) (he _)
  cases e : rdU L1 u with
  | none => rw [e] at h1; exact h1.elim
  | some d =>
    rw [e] at h1
    cases d with
    | ins C ns xs => exact truthy_ins hno T hr I1.env0 tk I1 o1 p1 r1 e h1
    | _ => exact h1.elim
end
end VL

set_option Elab.async false
set_option linter.all false
set_option maxRecDepth 100000
set_option maxHeartbeats 4000000
/-! VL54: dicts that may still change: display, in, [ ], setdefault, stores -/
namespace VL
open PySem PySem.Spec PyProof.Rows L2
open PySem.W (Frag)
def valKD (kvs : List (Key × D)) (k : Key) : Option D := (kvs.find? fun kv => decide (kv.1 = k)).map (·.2)
section
variable {K : Frag} {F : Addr → Prop} {H : Hp}
theorem repKV_of : ∀ {ks : List Key} {xs : List D} {kvs : List (Key × V)}, kvs.map (·.1) = ks → RepL K F H xs (kvs.map (·.2)) → RepKV K F H (ks.zip xs) kvs
  | _, [], [], e, _ => by subst e; exact .nil
  | _, [], _ :: _, _, r => by cases r
  | _, x :: xs, [], _, ⟨_, _, e, _, _⟩ => by cases e
  | _, x :: xs, (k, v) :: kvs, e, ⟨w, r, e1, h, t⟩ => by
    subst e
    simp only [List.map_cons, List.cons.injEq] at e1
    obtain ⟨rfl, rfl⟩ := e1
    exact .cons ⟨rfl, h⟩ (repKV_of rfl t)
theorem zip_keys : ∀ {ks : List Key} {xs : List D}, ks.length = xs.length → (ks.zip xs).map (·.1) = ks ∧ (ks.zip xs).map (·.2) = xs
  | [], [], _ => ⟨rfl, rfl⟩
  | k :: ks, x :: xs, h => by
    have := zip_keys (ks := ks) (xs := xs) (by simpa using h)
    simp [this.1, this.2]
  | [], _ :: _, h => by simp at h
  | _ :: _, [], h => by simp at h
theorem RepKV.val {k : Key} {a : List (Key × D)} {b : List (Key × V)} (h : RepKV K F H a b) : (valKD a k = none ∧ valV b k = none) ∨ ∃ d v, valKD a k = some d ∧ valV b k = some v ∧ Rep K F H d v := by
  induction h with
  | nil => exact .inl ⟨rfl, rfl⟩
  | cons q _ ih =>
    rename_i p p' r r' _
    by_cases e : p.1 = k
    · have e' : p'.1 = k := q.1 ▸ e
      refine .inr ⟨p.2, p'.2, ?_, ?_, q.2⟩
      · simp [valKD, List.find?_cons, e]
      · simp [valV, List.find?_cons, e']
    · have e' : ¬ p'.1 = k := q.1 ▸ e
      have h1 : valKD (p :: r) k = valKD r k := by simp [valKD, List.find?_cons, e]
      have h2 : valV (p' :: r') k = valV r' k := by simp [valV, List.find?_cons, e']
      rw [h1, h2]; exact ih
theorem RepKV.len {a : List (Key × D)} {b : List (Key × V)} (h : RepKV K F H a b) : b.length = a.length := by
  have := congrArg List.length h.keys
  simpa using this
end
def keyU' (L : LS) (u : U) : Option Key := (rdU L u).bind keyD
theorem keyR_ok {K : Frag} {F : Addr → Prop} {H : Hp} {d : D} {k : Key} {v : V} (e : keyD d = some k) (r : Rdr K F H d v) : v = kV k := by
  cases d <;> simp only [keyD] at e <;> cases e <;> cases r <;> rfl
/-- y in d, d[y] -/
def inDicB : D → D → Option Bool
  | y, .dic ks xs => (keyD y).map fun k => (valKD (ks.zip xs) k).isSome
  | _, _ => none
def notInDicB (y d : D) : Option Bool := (inDicB y d).map (!·)
def ixDicD : D → D → Option D
  | .dic ks xs, y => (keyD y).bind fun k => valKD (ks.zip xs) k
  | _, _ => none
section
variable {X : Cx} {W : WX} {a b c e o : Expr} {fa fb fe fo : EF} {pos : Pos}
theorem od_inDic (hu : X.A.units + 64 < cLine) : OpR X (compareOp .In) (rD2 X.K (bD inDicB)) := by
  intro pins s σ H x y v u Q I rx ry ⟨F, ρ, L, dx, dy, d, o, r1, r2, e, k⟩
  obtain ⟨kk, e9, rfl⟩ := Option.map_eq_some_iff.mp (show (inDicB dx dy).map D.bl = some d from e)
  clear e; have e := e9; clear e9
  cases dy with
  | dic ks xs =>
    obtain ⟨key, e1, rfl⟩ := Option.map_eq_some_iff.mp e
    obtain ⟨p, kvs, rfl, g, hk, q⟩ := r2
    obtain rfl := keyR_ok e1 r1
    cases ry
    have rk := repKV_of hk q
    have ev : (valV kvs key).isSome = (valKD (ks.zip xs) key).isSome := by
      rcases rk.val (k := key) with ⟨h1, h2⟩ | ⟨d1, v1, h1, h2, _⟩ <;> rw [h1, h2] <;> rfl
    exact d_in (o := valV kvs key) (by omega) I (.inl ⟨kvs, key, .inl g, rfl, rfl⟩) rx fun s' I' => ⟨.bl _, H, I', rfl, by rw [ev]; exact k F H _ Step.refl o rfl⟩
  | _ => simp only [inDicB] at e; cases e
theorem od_notInDic (hu : X.A.units + 64 < cLine) : OpR X (compareOp .NotIn) (rD2 X.K (bD notInDicB)) := by
  intro pins s σ H x y v u Q I rx ry ⟨F, ρ, L, dx, dy, d, o, r1, r2, e, k⟩
  obtain ⟨kk, e0, rfl⟩ := Option.map_eq_some_iff.mp (show (notInDicB dx dy).map D.bl = some d from e)
  clear e
  obtain ⟨k1, e, rfl⟩ := Option.map_eq_some_iff.mp (show (inDicB dx dy).map (!·) = some kk from e0)
  cases dy with
  | dic ks xs =>
    obtain ⟨key, e1, rfl⟩ := Option.map_eq_some_iff.mp e
    obtain ⟨p, kvs, rfl, g, hk, q⟩ := r2
    obtain rfl := keyR_ok e1 r1
    cases ry
    have rk := repKV_of hk q
    have ev : (valV kvs key).isSome = (valKD (ks.zip xs) key).isSome := by
      rcases rk.val (k := key) with ⟨h1, h2⟩ | ⟨d1, v1, h1, h2, _⟩ <;> rw [h1, h2] <;> rfl
    exact d_notIn (o := valV kvs key) (by omega) I (.inl ⟨kvs, key, .inl g, rfl, rfl⟩) rx fun s' I' => ⟨.bl _, H, I', rfl, by rw [ev]; exact k F H _ Step.refl o rfl⟩
  | _ => simp only [inDicB] at e; cases e
theorem ke_ixDic (hu : X.A.units + 64 < cLine) (ha : KE X W a fa) (hb : KE X W b fb) (hs : NoSl b := by exact fun _ _ => rfl) : KE X W (.Subscript a b pos) (eBin ixDicD fa fb) := by
  refine pe_wk (pe_dget (by omega) ha hb hs) fun σ H Q ⟨F, ρ, L, st, o, r, h⟩ => ?_
  refine RG.one o r h fun x H1 F1 ρ1 L1 u s1 o1 r1 p1 h1 => ?_
  refine RG.one o1 r1 h1 fun y H2 F2 ρ2 L2 u2 s2 o2 r2 p2 h2 => ?_
  obtain ⟨dx, e1, g2⟩ := h2.opt
  obtain ⟨dy, e2, g3⟩ := g2.opt
  obtain ⟨d, e3, g4⟩ := g3.opt
  clear h h1 h2 g2 g3
  have rx := rdr_of o2 (p1.mono s2) e1
  have ry := rdr_of o2 p2 e2
  cases dx with
  | dic ks xs =>
    obtain ⟨key, e4, e5⟩ := Option.bind_eq_some_iff.mp e3
    obtain ⟨p, kvs, rfl, g, hk, q⟩ := rx
    obtain rfl := keyR_ok e4 ry
    rcases (repKV_of hk q).val (k := key) with ⟨h1, _⟩ | ⟨d1, v1, h1, h3, rd⟩
    · rw [h1] at e5; cases e5
    · rw [h1] at e5; cases e5
      exact ⟨p, v1, rfl, .inl ⟨kvs, key, .inl g, rfl, h3.symm⟩, g4 F2 ρ2 H2 v1 Step.refl o2 rd⟩
  | _ => cases e3
/-- d.setdefault(k, v) -/
def setD (n : Nat) (uk uv : U) (L : LS) : Rs U := opt (keyU' L uk) fun k => opt (fzU L uv) fun p => match p.2[n]? with
  | some (.d ks xs) => if ks.length < big then (match valKD (ks.zip xs) k with
      | some d => .ok (.d d) p.2
      | none => .ok (.d p.1) (p.2.set n (.d ((putKD (ks.zip xs) k p.1).map (·.1)) ((putKD (ks.zip xs) k p.1).map (·.2))))) else .no
  | _ => .no
def eSetd (fo fk fv : EF) : EF := fun st L => (fo st L).bind fun ou L1 => match ou with
  | .l n => (match L1[n]? with
    | some (.d _ _) => (fk st L1).bind fun uk L2 => (fv st L2).bind fun uv L3 => setD n uk uv L3
    | _ => .no)
  | _ => .no
theorem ke_setd {k v : Expr} {fk fv : EF} {apos : Pos} (ho : KE X W o fo) (hk : KE X W k fk) (hv : KE X W v fv) (m : M2 X o "setdefault" apos k v pos := by exact ⟨rfl, rfl, rfl, rfl⟩) : KE X W (.Call (.Attribute o "setdefault" apos) [k, v] [] pos) (eSetd fo fk fv) := by
  refine pe_wk (pe_dsetd ho hk hv m) fun σ H Q ⟨F, ρ, L, st, o, r, h⟩ => ?_
  refine RG.one o r h fun x H1 F1 ρ1 L1 u s1 o1 r1 p1 h1 => ?_
  cases u with
  | d y => exact h1.elim
  | l n =>
    dsimp only at h1
    split at h1
    · rename_i ks0 xs0 hy
      obtain ⟨hn, rfl⟩ := p1
      obtain ⟨_, kvs0, g1, _⟩ := o1.at_ n _ hy
      refine ⟨ρ1 n, rfl, .inl ⟨kvs0, .inl g1⟩, RG.one o1 r1 h1 fun y H2 F2 ρ2 L2 u2 s2 o2 r2 p2 h2 => ?_⟩
      refine RG.one o2 r2 h2 fun z H3 F3 ρ3 L3 u3 s3 o3 r3 p3 h3 => ?_
      obtain ⟨key, e1, h3⟩ := h3.opt
      obtain ⟨⟨d, L4⟩, e2, h3⟩ := h3.opt
      obtain ⟨dk, e3, e4⟩ := Option.bind_eq_some_iff.mp e1
      obtain rfl := keyR_ok e4 (rdr_of o3 (p2.mono s3) e3)
      obtain ⟨F4, s4, o4, q4⟩ := fzU_ok o3 p3 e2
      dsimp only at h3
      split at h3
      · rename_i ks xs hz
        obtain ⟨hl, h3⟩ := ge_if h3
        obtain ⟨_, kvs, g3, hk, g4⟩ := o4.at_ n _ hz
        have e5 : ρ3 n = ρ1 n := (s3.same n (Nat.lt_of_lt_of_le hn s2.len)).trans (s2.same n hn)
        have rk := repKV_of hk g4
        have hlen : kvs.length = ks.length := by rw [← hk, List.length_map]
        have hlx : ks.length = xs.length := by rw [← hlen, ← g4.length, List.length_map]
        refine ⟨kvs, key, by rw [← e5]; exact g3, rfl, by rw [big_eq, hlen]; exact hl, fun w hw => ?_, fun hw => ?_⟩
        · rcases rk.val (k := key) with ⟨_, h2⟩ | ⟨d1, v1, k1, k2, rd⟩
          · rw [h2] at hw; cases hw
          · rw [k2] at hw; cases hw
            rw [k1] at h3
            exact h3 F4 ρ3 H3 _ s4 o4 rd
        · rcases rk.val (k := key) with ⟨k1, _⟩ | ⟨d1, v1, k1, k2, rd⟩
          · rw [k1] at h3
            obtain ⟨s5, o5⟩ := put_live (u := .dK (putK kvs key z)) (lo' := .d ((putKD (ks.zip xs) key d).map (·.1)) ((putKD (ks.zip xs) key d).map (·.2))) o4 hz rfl rfl fun kk nf => by
              have rp := RepKV.mono kk (RepKV.put (k := key) q4 rk)
              exact ⟨nf, _, upd_same, rp.keys, rp.vals⟩
            rw [← e5]
            exact h3 F4 ρ3 _ z (s4.trans s5) o5 (Rep.mono s5.fz _ q4)
          · rw [k2] at hw; cases hw
      · exact h3.elim
    · exact h1.elim
/-- a dict display that may still change -/
def eDicL (ps : List (EF × EF)) : EF := fun st L => (dPairs ps st L).bind fun kvs L1 => if kvs.length ≤ 15 then .ok (.l L1.length) (L1 ++ [.d ((mergeKD [] kvs).map (·.1)) ((mergeKD [] kvs).map (·.2))]) else .no
theorem ke_dictL {keys : List (Option Expr)} {values : List Expr} {ps : List (EF × EF)} (h : KPs X W pos keys values ps) (hall : keys.all (·.isSome) = true := by rfl) (hl : keys.length = values.length := by rfl) (h0 : keys ≠ [] := by simp) (h15 : keys.length ≤ 15 := by decide) : KE X W (.Dict keys values pos) (eDicL ps) := by
  refine pe_wk (pe_disp h.run hall hl h0 h15) fun σ H Q ⟨F, ρ, L, st, o, r, h⟩ p hp => ?_
  have ap := apart_none o hp
  obtain ⟨_, s1, o1⟩ := bump o hp Step.refl o ap (.dK [])
  have ap1 : Apart F ρ (upd H p (.dK [])) L p := ⟨ap.nf, ap.nl⟩
  refine pairs_read ps (RG.base (P := PKV) s1 o1 (r.mono s1) h fun z H2 F2 ρ2 L2 a s2 o2 r2 p2 h2 => ?_)
  obtain ⟨kvs, rfl, q⟩ := p2
  obtain ⟨hz, h2⟩ := ge_if h2
  obtain ⟨ap2, e2⟩ := ap1.on s2 upd_same
  have hlen : kvs.length = a.length := by rw [← List.length_map (·.1), RepKV.keys q, List.length_map]
  refine ⟨e2, kvs, rfl, by rw [hlen]; exact hz, ?_⟩
  obtain ⟨k3, s3, o3⟩ := bump o hp (s1.trans s2) o2 ap2 (.dK (mergeK [] kvs))
  have q4 := RepKV.merge (RepKV.mono k3 q) .nil
  obtain ⟨s4, o4⟩ := adoptL hp s3 o3 ⟨ap2.nf, ap2.nl⟩ (lo := .d ((mergeKD [] a).map (·.1)) ((mergeKD [] a).map (·.2))) rfl ⟨ap2.nf, _, upd_same, RepKV.keys q4, RepKV.vals q4⟩
  refine h2 _ _ _ _ s4 o4 ⟨by simp, ?_⟩
  show V.ref p = V.ref (if L2.length = L2.length then p else _)
  rw [if_pos rfl]
def eDicL0 : EF := fun _ L => .ok (.l L.length) (L ++ [.d [] []])
theorem ke_dicL0 : KE X W (.Dict [] [] pos) eDicL0 := by
  refine pe_wk pe_dnewK fun σ H Q ⟨F, ρ, L, st, o, r, h⟩ p hp => ?_
  obtain ⟨s1, o1⟩ := live_ok o hp (u := .dK []) (lo := .d [] []) rfl ⟨nF o hp, [], upd_same, rfl, rfl⟩
  refine h _ _ _ _ s1 o1 ⟨by simp, ?_⟩
  show V.ref p = V.ref (if L.length = L.length then p else _)
  rw [if_pos rfl]
end
end VL

set_option Elab.async false
set_option linter.all false
set_option maxRecDepth 100000
set_option maxHeartbeats 4000000
/-! VL55: defs with *rest, classes whose __init__ has *rest -/
namespace VL
open PySem PySem.Spec PyProof.Rows L2
open PySem.W (Frag)
/-- a def f(a, .., *rest) with n parameters ahead of rest -/
structure KFnS (P : Program) (w : World) (K : Frag) (mg : Str → Option Value) (base : Heap) (k : Nat) (f : Addr) (n : Nat) (m : FF) : Prop where
  run : ∀ (A : Around) (outer : List Env) (s : Shared) (H : Hp) (us1 us2 : List Value) (vs rest : List V) (Q : VK) (E : XK), Rm k A → Env0 P w K mg base A outer s H → Vals vs us1 → Vals rest us2 → vs.length = n →
    (∃ F ρ L uu ds, Ok K F ρ H L ∧ RepUs K F ρ H L uu vs ∧ RepL K F H ds rest ∧ ds.length ≤ big ∧ GE RepU K (fun c d _ H' => E c d H') [] F ρ H L Q (m (uu ++ [.d (.tup ds)]) L)) →
    codeAny (model P w) A (.call (.ref f) ⟨us1 ++ us2, []⟩) (CR (L2.CX P w) outer P w H s Q E) s
theorem KFnS.mono {P : Program} {w : World} {K : Frag} {mg : Str → Option Value} {base : Heap} {j k n : Nat} {f : Addr} {m : FF} (h : KFnS P w K mg base j f n m) (q : j ≤ k) : KFnS P w K mg base k f n m :=
  ⟨fun A outer s H us1 us2 vs rest Q E hr => h.run A outer s H us1 us2 vs rest Q E (hr.mono q)⟩
theorem RepUs.app1 {K : Frag} {F : Addr → Prop} {ρ : Nat → Addr} {H : Hp} {L : LS} {u : U} {v : V} (h : RepU K F ρ H L u v) : ∀ {us : List U} {vs : List V}, RepUs K F ρ H L us vs → RepUs K F ρ H L (us ++ [u]) (vs ++ [v])
  | [], _, e => by cases e; exact ⟨v, [], rfl, h, rfl⟩
  | _ :: _, _, ⟨x, r, e, q, t⟩ => by subst e; exact ⟨x, _, rfl, q, RepUs.app1 h t⟩
section
variable {P : Program} {w : World} {K : Frag} {mg : Str → Option Value} {base : Heap}
theorem kfnS_at {k : Nat} {f : Addr} {name qual : Str} {params : Arguments} {body : List Stmt} {scope : Scope} {dV kV doc pm cdv ct oc : Value} {an od : Option Addr} {osl : Array (Option Value)} {N ps : List Str} {pv : Str} {fb : SF}
    (lk : K.lookup f = some ⟨oc, od, .func (PySem.W.fnOf name qual params body scope dV kV doc pm an cdv ct), osl⟩) (hcd : PySem.W.codeIn K cdv qual = true) (S : FnScope N (ps ++ [pv]) scope)
    (hbd : ∀ us rest : List Value, us.length = ps.length → bindArgs (PySem.W.fnOf name qual params body scope dV kV doc pm an cdv ct) ⟨us ++ rest, []⟩ = (newTuple rest >>= fun t => pure (ps.zip us ++ [(pv, t)])))
    (hb : ∀ (A : Around) (outer : List Env) (s : Shared) (H : Hp) (E : XK), Rm k (A.deeper (envOfC qual scope s.heap.objs.size f cdv)) → KSs (cxOf (L2.CX P w) P w K mg base N qual scope f cdv A outer s H E) (fun c d _ H' => E c d H') body fb) :
    KFnS P w K mg base (k + 1) f ps.length (fnF (ps.length + 1) N.length fb) := by
  refine ⟨fun A outer s H us1 us2 vs rest Q E hr e0 r1 r2 hl hsp => ?_⟩
  obtain ⟨F, ρ, L, uu, ds, o, ru, rd, hz, g⟩ := hsp
  have hn : H s.heap.objs.size = Option.none := e0.hok.fresh (Nat.le_refl _)
  have hu : uu.length = ps.length := ru.length.symm.trans hl
  have hl1 : us1.length = ps.length := by rw [← r1.length]; exact hl
  have hzv : rest.length ≤ sizeLine := by rw [rd.length, big_eq]; exact hz
  have hl2 : us2.length ≤ sizeLine := by rw [← r2.length]; exact hzv
  refine StX.run_bnd lk hcd S hr.rm e0 (G := fun xs H2 => ∃ p, H p = Option.none ∧ xs = vs ++ [V.ref p] ∧ H2 = upd H p (.tup rest)) (fun A' Ex Q' h => ?_) fun s2 H2 xs ⟨p, hp, ex, eH⟩ hr' => ?_
  · rw [hbd us1 us2 hl1]
    refine wpAny_bind (wpAny_newTuple (wpAny_pure ?_) hl2)
    have new : ObjOk P w (upd H s.heap.objs.size (.tup rest)) (s.heap.push ({ cls := .type "tuple", data := .seq us2.toArray } : Obj)) s.heap.objs.size (.tup rest) := ⟨hzv, us2, r2, ⟨_, Heap.get?_push_size _ rfl, rfl, _, rfl⟩⟩
    have un := StX.un_laid (fs := frs outer) (s := s) (o := ({ cls := .type "tuple", data := .seq us2.toArray } : Obj)) (u := .tup rest) hn
    have z := h _ _ (vs ++ [V.ref s.heap.objs.size]) (us1 ++ [Value.ref s.heap.objs.size]) (StX.env0_laid e0 new) un rfl (fun e s' => StX.cxUp outer s H _ _ E e s' un (fun b o q => Heap.get?_push_of_some _ q) rfl) (r1.append (.cons rfl .nil))
      (by rw [List.length_append, List.length_append, hl] <;> rfl) ⟨_, hn, rfl, rfl⟩
    rw [List.zip_append hl1.symm] at z
    exact z
  · subst ex eH
    refine ⟨_, hb A outer s2 _ E (hr.deeper _), ?_⟩
    obtain ⟨s1, o1⟩ := new_ok o hp (.tup rest)
    have rt := new_tup o hp rd
    have g1 := GE.on s1 g
    have ru1 : RepUs K (F1 F p) ρ (upd H p (.tup rest)) L (uu ++ [.d (.tup ds)]) (vs ++ [V.ref p]) := RepUs.app1 (u := .d (.tup ds)) (v := V.ref p) rt (ru.mono s1)
    have rst := start_rep (N := N) ru1
    have hu1 : (uu ++ [U.d (.tup ds)]).length = ps.length + 1 := by simp [hu]
    rw [hu1] at rst
    refine ⟨F1 F p, ρ, L, _, o1, rst, ?_⟩
    unfold fnF at g1
    rw [if_pos hu1] at g1
    cases e : fb ((uu ++ [U.d (.tup ds)]).map some ++ List.replicate (N.length - (ps.length + 1)) none) L with
    | nx st' L' => rw [e] at g1; exact fun F' ρ' H' σ' s' o' _ => GE.out (u := .d .non) g1 s' o' rfl
    | rt u L' => rw [e] at g1; exact fun F' ρ' H' v s' o' p' => GE.out g1 s' o' p'
    | ex C ns xs st' L' => rw [e] at g1; exact fun F' ρ' H' σ' d s' o' _ t => g1 F' ρ' H' d (cut_ok s' o').1 (cut_ok s' o').2 t
    | bk st' L' => rw [e] at g1; exact g1.elim
    | ct st' L' => rw [e] at g1; exact g1.elim
    | no => rw [e] at g1; exact g1
theorem kfnS_of {k : Nat} {x qual : Str} {st : Stmt} {f : Addr} {fd : FuncData} {N ps : List Str} {pv : Str} {fb : SF} (T : Fun K x qual st f fd) (S : FnScope N (ps ++ [pv]) (defScope st))
    (hbd : ∀ (kV doc pm : Value) (an : Option Addr) (cdv ct : Value), ∀ us rest : List Value, us.length = ps.length → bindArgs (PySem.W.fnOf x qual (defArgs st) (defBody st) (defScope st) .none kV doc pm an cdv ct) ⟨us ++ rest, []⟩ = (newTuple rest >>= fun t => pure (ps.zip us ++ [(pv, t)])))
    (hb : ∀ (cdv : Value) (A : Around) (outer : List Env) (s : Shared) (H : Hp) (E : XK), Rm k (A.deeper (envOfC qual (defScope st) s.heap.objs.size f cdv)) → KSs (cxOf (L2.CX P w) P w K mg base N qual (defScope st) f cdv A outer s H E) (fun c d _ H' => E c d H') (defBody st) fb) :
    KFnS P w K mg base (k + 1) f ps.length (fnF (ps.length + 1) N.length fb) := by
  obtain ⟨oc, od, kV, doc, pm, an, cdv, ct, osl, rfl, lk, hcd⟩ := T.ex
  exact kfnS_at lk hcd S (hbd kV doc pm an cdv ct) fun A outer s H E hr => hb cdv A outer s H E hr
end
section
variable {X : Cx} {W : WX}
/-- C(..) where __init__ is def (self, *rest) -/
def mkS (C : Addr) (m : FF) (p : List U × List U) (L1 : LS) : Rs U := match p.2 with
  | [] => opt (fzUs L1 p.1) fun q => if q.1.length ≤ big then (m [.l q.2.length, .d (.tup q.1)] (q.2 ++ [.i C [] []])).bind fun u L2 => (match u with
      | .d .non => .ok (.l q.2.length) L2
      | _ => .no) else .no
  | _ => .no
theorem run_mkS {k : Nat} {C f : Addr} {m : FF} {pins : List (Addr × Obj)} {σ : L2.St} {H : Hp} {s : Shared} {Q : VK} {F : Addr → Prop} {ρ : Nat → Addr} {L : LS} {p : List U × List U} {vs : List V} {uv : List Value}
    (M : Mk X.K C f) (oc : OwnC X.K C) (G : KFnS X.prog X.w X.K X.mg X.base k f 1 m) (hr : Rm (k + 1) X.A) (tk : Takes X W) (I : Inv X pins σ H s) (o : Ok X.K F ρ H L) (r1 : RepUs X.K F ρ H L p.1 vs) (v1 : Vals vs uv)
    (h : GE RepU X.K W σ F ρ H L Q (mkS C m p L)) : wpAny (model X.prog X.w) X.A (call (.ref C) uv []) (EP X pins σ Q) X.xe s := by
  unfold mkS at h
  split at h
  · obtain ⟨⟨ds, L0⟩, e1, h⟩ := h.opt
    obtain ⟨hz, h⟩ := ge_if h
    obtain ⟨F0, s0, o0, rd0⟩ := fzUs_ok o r1 e1
    have h := GE.on s0 h
    clear o r1 s0
    have hx := I.hok.fresh (Nat.le_succ s.heap.objs.size)
    have hd := I.hok.fresh (Nat.le_refl s.heap.objs.size)
    have ne : s.heap.objs.size ≠ s.heap.objs.size + 1 := Nat.ne_of_lt (Nat.lt_succ_self _)
    have I2 := Inv.made (C := C) I
    obtain ⟨ρ', ex, s1, o1⟩ := made_ok o0 oc hx hd ne
    have h := GE.on s1 h
    have rd1 := RepL.mono s1.fz ds rd0
    have q0 : RepUs X.K F0 ρ' (upd (upd H s.heap.objs.size (.own (s.heap.objs.size + 1))) (s.heap.objs.size + 1) (.ins C s.heap.objs.size [])) (L0 ++ [.i C [] []]) [.l L0.length] [.ref (s.heap.objs.size + 1)] := ⟨_, _, rfl, ⟨by simp, by rw [ex]⟩, rfl⟩
    refine wpAny_call (make_map (f := f) I.kIn M.makes M.init (beq_iff_eq.mp M.fn) (codeAny_mono (G.run _ X.stack _ _ [Value.ref (s.heap.objs.size + 1)] uv [V.ref (s.heap.objs.size + 1)] vs (fun v H2 => v = .non ∧ Q (.ref (s.heap.objs.size + 1)) H2) (fun c d H' => W c d σ H') (hr.make C uv []) (I2.env0.make C uv []) (.cons rfl .nil) v1 rfl ⟨F0, ρ', _, [.l L0.length], ds, o1, q0, rd1, hz, ?_⟩) fun r s' hq => ?_))
    · show GE RepU X.K _ [] F0 ρ' _ _ _ (m [.l L0.length, .d (.tup ds)] (L0 ++ [.i C [] []]))
      cases e : m [.l L0.length, .d (.tup ds)] (L0 ++ [.i C [] []]) with
      | ok a L' =>
        rw [e] at h
        clear e
        dsimp only [Rs.bind] at h
        intro F2 ρ2 H2 b s2 o2 p2
        split at h
        · obtain rfl : b = .non := p2
          refine ⟨rfl, h F2 ρ2 H2 _ s2 o2 ⟨by have := s2.len; simp at this; omega, ?_⟩⟩
          rw [s2.same _ (by simp), ex]
        · exact h.elim
      | ex C ns ds L' => rw [e] at h; exact h
      | no => rw [e] at h; exact h
    · cases r with
      | error x => exact tk x s' (XE.of_call I2 (fun _ _ _ z => z) hq)
      | ok fl =>
        cases fl with
        | ret u =>
          obtain ⟨v, H', I3, rv, ev, q3⟩ := I2.after hq
          subst ev
          exact ⟨rv, ⟨V.ref (s.heap.objs.size + 1), H', I3, rfl, q3⟩⟩
        | next => exact False.elim hq
        | brk => exact False.elim hq
        | cont => exact False.elim hq
  · exact h.elim
def eMakeS (C : Addr) (m : FF) (fa : CF) : EF := fun st L => (fa st L).bind fun p L1 => mkS C m p L1
theorem ke_makeS {x : Str} {k : Nat} {C f : Addr} {m : FF} {args : List Expr} {fa : CF} {p pos : Pos} (tk : Takes X W) (hr : Rm (k + 1) X.A) (M : Mk X.K C f) (oc : OwnC X.K C) (G : KFnS X.prog X.w X.K X.mg X.base k f 1 m)
    (hm : X.mg x = some (.ref C)) (ha : KC X W args [] [] fa) (hg : Gl X x := by rfl) (hdb : (x == ("__debug__" : Str)) = false := by decide) : KE X W (.Call (.Name x p) args [] pos) (eMakeS C m fa) := by
  refine ⟨fun pins s σ H Q I ⟨F, ρ, L, st, o, r, h⟩ => ?_⟩
  refine wpAny_Call_Name_kw (ld_glob I hg hm ?_ hdb)
  refine ha pos (.ref C) [] pins s σ H _ M.kp I (RG.one (P := PUU) o r h fun b H1 F1 ρ1 L1 a s1 o1 r1 p1 h1 s2 us ws I2 v1 v2 => ?_)
  exact run_mkS M oc G hr tk I2 o1 p1.1 v1 h1
/-- f(*xs), xs alone -/
def cStar (fe : EF) : CF := fun st L => (fe st L).bind fun u L1 => opt (fzU L1 u) fun p => match p.1 with
  | .tup ds => .ok (ds.map .d, []) p.2
  | _ => .no
theorem repUs_map {K : Frag} {F : Addr → Prop} {ρ : Nat → Addr} {H : Hp} {L : LS} : ∀ {ds : List D} {vs : List V}, RepL K F H ds vs → RepUs K F ρ H L (ds.map .d) vs
  | [], _, h => h
  | _ :: _, _, ⟨v, r, e, h, t⟩ => ⟨v, r, e, h, repUs_map t⟩
theorem kc_star1 {e : Expr} {fe : EF} {p : Pos} (he : KE X W e fe) (hst : starEach [.Starred e p] X.env = [(true, eval e X.env)] := by rfl) : KC X W [.Starred e p] [] [] (cStar fe) := by
  intro pos fv first pins s σ H Q hk I h
  obtain ⟨F, ρ, L, st, o, r, h⟩ := h
  refine PySem.W.callWith_S (h₀ := X.base) I.ok.mod.kin hk (thn (PE.run he pins s σ H (fun y H1 => ∃ a xs, y = V.ref a ∧ SqT X.K H1 a xs ∧ ∀ s1 us, Inv X pins σ H1 s1 → Vals xs us → wpAny (model X.prog X.w) X.A (call fv (first ++ us) ([].zip [])) Q X.xe s1) I (RG.one o r h fun x H1 F1 ρ1 L1 u s1 o1 r1 p1 h1 => ?_)) fun v s1 ⟨y, H1, I1, ry, a, xs, ey, hxs, q⟩ => ?_) hst
  · obtain ⟨⟨d, L2⟩, e1, h1⟩ := h1.opt
    obtain ⟨F2, s2, o2, q2⟩ := fzU_ok o1 p1 e1
    dsimp only at h1
    split at h1
    · rename_i ds
      obtain ⟨a, vs, rfl, g1, g2⟩ := q2
      refine ⟨a, vs, rfl, g1.sq, fun s3 us I3 rv => ?_⟩
      exact h1 F2 ρ1 H1 (vs, []) s2 o2 ⟨repUs_map g2, rfl⟩ s3 us [] I3 rv .nil
    · exact h1.elim
  · subst ey
    obtain rfl : v = Value.ref a := ry
    exact StX.star_any I1 (.inl hxs) fun us s2 I2 r2 => ⟨I2.kIn, q s2 us I2 r2⟩
end
end VL

set_option Elab.async false
set_option linter.all false
set_option maxRecDepth 100000
set_option maxHeartbeats 4000000
/-! VL56: walks over ranges of any ints; len(set(..)) -/
namespace VL
open PySem PySem.Spec PyProof.Rows L2
open PySem.W (Frag)
theorem turn_long {P : Program} {w : World} {K : Frag} {tg : Expr} (it : Addr) (lo : Int) (n : Nat) : Turn P w K tg (Itr lo n) [it] it (fun i h => IsLongIter h it (lo + (i : Nat) * 1) ((n : Int) - (i : Nat)) 1) where
  mem := by simp
  obj := fun i h st b hb => by
    have e : b = it := by simpa using hb
    subst e
    exact ⟨_, st, fun v z => by
      have z' : Data.fields _ = Data.cell v := z
      cases z'⟩
  keep := fun i h h' st k => k it (by simp) _ st
  item := by
    intro X hP hw hK hc i pins s σ H E I hf st hg
    subst hP hw hK
    obtain ⟨f0, f1, f2, f3, f4, f5⟩ := hf it (by simp)
    have W := Walks.longrange (prog := X.prog) (w := X.w) (I.ok.hd hc) it lo 1 n
    refine W.item i s _ _ hg st fun v h' tk hv st' kk => ?_
    obtain ⟨t, rfl⟩ := hv
    have I1 : Inv X pins σ H { s with heap := h', toks := tk } := I.turned (fun b o hb e => kk b o (by simpa using hb) e) f0 f1 f3 f4 f5
    refine ⟨_, rfl, go_of (s := { s with heap := h', toks := tk }) (n := "longrange_iterator") st' rfl rfl (by decide) ⟨.int (lo + i), H, I1, ⟨t, ?_⟩, ⟨rfl, rfl⟩, st', fun b hb => (hf b hb).1⟩⟩
    rw [Int.mul_one]
  done := by
    intro X hP hw hK hc i pins s σ H E I hf st hg
    subst hP hw hK
    obtain ⟨f0, f1, f2, f3, f4, f5⟩ := hf it (by simp)
    exact wpAny_pyNext_long_end (I.ok.hd hc) st (by have : n ≤ i := hg; omega) fun h' eb => ⟨rfl, I.turned (t' := s.toks) (fun b o hb e => eb b o hb e) f0 f1 f3 f4 f5⟩
  self := fun _ _ _ _ _ st h => wpAny_pyIter_longiter st h
section
variable {X : Cx} {W : WX} {tg a b : Expr} {pos : Pos}
theorem range_itL {pins : List (Addr × Obj)} {σ : L2.St} {H : Hp} {s : Shared} {R : It → Hp → Prop} {E : Value → Shared → Prop} {lo hi : Int} {t u v : Tok} {tk : Nat} (I : Inv X pins σ H s)
    (q : R (Itr lo (hi - lo).toNat) H) : wpAny (model X.prog X.w) X.A (pyIter (.ref s.heap.objs.size)) (PIE X pins σ tg R) E { s with heap := s.heap.push { cls := .type "range", data := .fields #[.int lo t, .int hi u, .int 1 v] }, toks := tk } := by
  have I1 : Inv X pins σ H { s with heap := s.heap.push { cls := .type "range", data := .fields #[.int lo t, .int hi u, .int 1 v] }, toks := tk } := I.kept fun b o e => Heap.get?_push_of_some _ e
  have e1 : lo + ((0 : Nat) : Int) * 1 = lo := by simp
  have e2 : (((hi - lo).toNat : Nat) : Int) - ((0 : Nat) : Int) = Builtin.Range.rangeSize lo hi 1 := by rw [rangeSize_one]; split <;> omega
  cases hs : Builtin.Range.small lo hi 1 with
  | true =>
    refine wpAny_pyIter_range (IsRange.new ..) hs ?_
    refine ⟨(s.heap.push { cls := .type "range", data := .fields #[.int lo t, .int hi u, .int 1 v] }).objs.size, [(s.heap.push { cls := .type "range", data := .fields #[.int lo t, .int hi u, .int 1 v] }).objs.size], _, _, H, rfl,
      I1.kept (t' := tk) fun b o e => Heap.get?_push_of_some _ e, turn_range _ lo (hi - lo).toNat, ?_, fun b hb => ?_, q⟩
    · show IsRangeIter _ _ (lo + ((0 : Nat) : Int) * 1) ((((hi - lo).toNat : Nat) : Int) - ((0 : Nat) : Int)) 1
      rw [e1, e2]
      exact Heap.get?_push_size _ rfl
    · have e : b = (s.heap.push { cls := .type "range", data := .fields #[.int lo t, .int hi u, .int 1 v] }).objs.size := by simpa using hb
      subst e
      exact I1.fpOk (Nat.le_refl _) (I1.hok.fresh (Nat.le_refl _))
  | false =>
    refine wpAny_pyIter_longrange (IsRange.new ..) hs ?_
    refine ⟨(s.heap.push { cls := .type "range", data := .fields #[.int lo t, .int hi u, .int 1 v] }).objs.size, [(s.heap.push { cls := .type "range", data := .fields #[.int lo t, .int hi u, .int 1 v] }).objs.size], _, _, H, rfl,
      I1.kept (t' := tk) fun b o e => Heap.get?_push_of_some _ e, turn_long _ lo (hi - lo).toNat, ?_, fun b hb => ?_, q⟩
    · show IsLongIter _ _ (lo + ((0 : Nat) : Int) * 1) ((((hi - lo).toNat : Nat) : Int) - ((0 : Nat) : Int)) 1
      rw [e1, e2]
      exact Heap.get?_push_size _ rfl
    · have e : b = (s.heap.push { cls := .type "range", data := .fields #[.int lo t, .int hi u, .int 1 v] }).objs.size := by simpa using hb
      subst e
      exact I1.fpOk (Nat.le_refl _) (I1.hok.fresh (Nat.le_refl _))
/-- range(i, j), any ints -/
def iRngW (f : AF) : IF := fun st L => (f st L).bind fun us L1 => match us with
  | [.d (.int i), .d (.int n)] => .ok (rngD i (n - i).toNat) L1
  | _ => .no
theorem ki_rangeW {f : AF} {p : Pos} (hm : X.mg "range" = none) (ha : KA X W [a, b] f) (hg : Gl X "range" := by rfl) (hs : starEach [a, b] X.env = [(false, eval a X.env), (false, eval b X.env)] := by rfl) (hs2 : starEach [b] X.env = [(false, eval b X.env)] := by rfl) : KI X W tg (.Call (.Name "range" p) [a, b] [] pos) (iRngW f) := by
  have base : PI X tg (.Call (.Name "range" p) [a, b] [] pos) (fun σ H R => RG RepUs X.K W f σ H fun vs H1 => ∃ i j : Int, vs = [.int i, .int j] ∧ R (Itr i (j - i).toNat) H1) := by
    refine ⟨fun pins s σ H R I h => ?_⟩
    refine Call_ (ld_blt I hg hm boot_range (PyProof.Rows.callWith_type1 (thn (PA.run ha pos pins s σ H _ I h) fun us s1 ⟨vs, H1, I1, r1, q1⟩ => ?_) (by rw [hs, hs2]) (by rw [hs2]; rfl)))
    obtain ⟨i, j, e, q⟩ := q1
    subst e
    cases r1 with
    | cons r rr =>
      cases rr with
      | cons r' rr =>
        cases rr
        obtain ⟨t, rfl⟩ := r
        obtain ⟨t', rfl⟩ := r'
        exact call_range_2 (range_itL I1 q)
  refine pi_wk base fun σ H R ⟨F, ρ, L, st, o, r, h⟩ => ?_
  refine RG.one (P := RepUs) o r h fun vs H1 F1 ρ1 L1 us s1 o1 r1 p1 h1 => ?_
  split at h1
  · rename_i i n
    obtain ⟨v, t, rfl, q, v2, t2, rfl, q2, e⟩ := p1
    cases e
    obtain rfl : v = .int i := q
    obtain rfl : v2 = .int n := q2
    exact ⟨i, n, rfl, h1.fin (P := PIt) o1 (itb_rng i (n - i).toNat)⟩
  · exact h1.elim
end
end VL

set_option Elab.async false
set_option linter.all false
set_option maxRecDepth 100000
set_option maxHeartbeats 4000000
/-! VL57: len(set(..)) of unlike ints; static methods; own operators with an int to the right -/
namespace VL
open PySem PySem.Spec PyProof.Rows L2
open PySem.W (Frag)
theorem firstMet_nodup (ns : List Int) (h : ns.Nodup) : ∀ i, i ≤ ns.length → firstMet (fun i => ns.getD i 0) i = ns.take i
  | 0, _ => rfl
  | i + 1, hi => by
    have hi' : i < ns.length := hi
    rw [firstMet_succ, firstMet_nodup ns h i (Nat.le_of_lt hi')]
    have e : ns.getD i 0 = ns[i] := by simp [List.getD_eq_getElem?_getD, hi']
    rw [e, List.take_succ_eq_append_getElem hi']
    unfold step_dedup
    have hn : ns[i] ∉ ns.take i := by
      intro hm
      obtain ⟨j, hj, ej⟩ := List.mem_iff_getElem.mp hm
      have hj1 : j < i := by simp at hj; omega
      have hj2 : j < ns.length := by omega
      have e2 : ns[j] = ns[i] := by rw [← ej]; simp
      exact List.pairwise_iff_getElem.mp h j i hj2 hi' hj1 e2
    first
    | rw [if_neg (by simpa using hn)]
    | simp [hn]
def lenSetD : D → Option D
  | .lst xs => (intsD xs).bind fun ns => if ns.Nodup ∧ ns.length ≤ 1000 then some (.int ns.length) else none
  | .tup xs => (intsD xs).bind fun ns => if ns.Nodup ∧ ns.length ≤ 1000 then some (.int ns.length) else none
  | _ => none
section
variable {X : Cx} {W : WX} {a b e o : Expr} {fa : EF} {pos : Pos}
def tLenSetI (K : Frag) (ta : TE) : TE := fun σ H Q => ta σ H fun x H1 => ∃ l, ∃ ns : List Int, x = .ref l ∧ (SqL K H1 l (ns.map V.int) ∨ SqT K H1 l (ns.map V.int)) ∧ ns.Nodup ∧ ns.length ≤ 1000 ∧ Q (.int ns.length) H1
theorem pe_lenSetI {ta : TE} {p p2 q : Pos} (hc : X.calm = true) (hg : Gl X "len") (hm : X.mg "len" = none) (hg2 : Gl X "set") (hm2 : X.mg "set" = none) (ha : PE X a ta)
    (na : starEach [a] X.env = (false, eval a X.env) :: starEach [] X.env := by rfl) : PE X (.Call (.Name "len" p) [.Call (.Name "set" p2) [a] [] q] [] pos) (tLenSetI X.K ta) := by
  refine ⟨fun pins s σ H Q I h => ?_⟩
  refine Call_ (ld_blt I hg hm boot_len ?_)
  refine PyProof.Rows.callWith_builtin1 (PyProof.Rows.args_cons ?_ rfl) rfl rfl
  refine Call_ (ld_blt I hg2 hm2 boot_set ?_)
  refine PyProof.Rows.callWith_type1 (PyProof.Rows.args_cons (thn (ha.run pins s σ H _ I h) fun v s1 ⟨x, H1, I1, r1, q1⟩ => PyProof.Rows.args_nil ?_) na) na rfl
  obtain ⟨l, ns, rfl, hq, nd, h1, q1⟩ := q1
  cases r1
  have fin : ∀ (n : Nat) (h' : Heap) (tk : Nat) (S : Int → Bool), n = ns.length → h'.SetOf (PySem.intKind X.prog X.w) s1.heap.objs.size S n →
      (∀ b o, b < s1.heap.objs.size → s1.heap.get? b = some o → h'.get? b = some o) →
      wpAny (model X.prog X.w) X.A (spliced (backTo pos (starEach [] X.env))) (fun vs s₂ => wpAny (model X.prog X.w) X.A (call (.builtin "len") (Value.ref s1.heap.objs.size :: vs)) (EP X pins σ Q) X.xe s₂) X.xe { s1 with heap := h', toks := tk } := fun n h' tk S en hS hk => by
    refine PyProof.Rows.args_nil ?_
    subst en
    obtain ⟨o, es, ep, t, ho, hex, hd, _, _, _, hf, hn⟩ := hS
    have I2 : Inv X pins σ H1 { s1 with heap := h', toks := tk } := I1.kept fun b o e => hk b o (Heap.lt_size e) e
    refine call_len_set ho hex hd hf (by rw [hn] <;> omega) ⟨.int ns.length, H1, I2.tok _, ⟨_, by rw [hn]⟩, q1⟩
  rcases hq with hq | hq
  · obtain ⟨its, r, pl, hz⟩ := I1.list hq
    have hi : IntsAre its.toArray.toList ns := ints_of_vals r
    have hl : its.toArray.size = ns.length := by rw [List.size_toArray, ← r.length, List.length_map]
    refine call_set_list (I1.ok.hd hc) pl.isList hi (by rw [hl]; unfold scanBound; omega) fun h' tk hS hk => fin _ h' tk _ ?_ hS hk
    rw [hl, firstMet_nodup ns nd ns.length (Nat.le_refl _), List.take_length]
  · obtain ⟨its, r, pl, hz⟩ := I1.tuple hq
    have hi : IntsAre its.toArray.toList ns := ints_of_vals r
    refine call_set_tupI ns (I1.ok.hd hc) pl hi (by unfold scanBound; omega) fun h' tk c R1 hcn hk => ?_
    refine fin c h' tk _ ?_ R1.setOf fun b o hb e => hk b o e
    obtain ⟨o, es, ep, t, ho, hex, hdt, g, nd2, hm2, hb, hf, hn, hr, hl2⟩ := R1
    have hp : (es.toList.map keyOf).Perm ns := (List.perm_ext_iff_of_nodup nd2 nd).mpr fun k => by rw [← hm2 k, decide_eq_true_eq]
    rw [← hn, ← hp.length_eq]
    simp
theorem ke_lenSet {p p2 q : Pos} (hm : X.mg "len" = none) (hm2 : X.mg "set" = none) (ha : KE X W a fa) (hc : X.calm = true := by rfl) (hg : Gl X "len" := by rfl) (hg2 : Gl X "set" := by rfl)
    (na : starEach [a] X.env = (false, eval a X.env) :: starEach [] X.env := by rfl) : KE X W (.Call (.Name "len" p) [.Call (.Name "set" p2) [a] [] q] [] pos) (eUn lenSetD fa) := by
  refine pe_wk (pe_lenSetI hc hg hm hg2 hm2 ha na) fun σ H Q ⟨F, ρ, L, st, o, r, h⟩ => ?_
  refine RG.one o r h fun x H1 F1 ρ1 L1 u s1 o1 r1 p1 h1 => ?_
  obtain ⟨d, e1, g1⟩ := h1.opt
  obtain ⟨z, e2, g2⟩ := g1.opt
  have rd := rdr_of o1 p1 e1
  clear h1 g1
  cases d with
  | lst xs =>
    obtain ⟨ns, e3, e4⟩ := Option.bind_eq_some_iff.mp (show (intsD xs).bind _ = some z from e2)
    split at e4
    · rename_i hh
      cases e4
      obtain ⟨p, vs, rfl, g, q⟩ := rd
      rw [intsD_map e3] at q
      rw [repL_ints q] at g
      exact ⟨p, ns, rfl, .inl (.inl (.inl g)), hh.1, hh.2, g2 F1 ρ1 H1 _ Step.refl o1 rfl⟩
    · cases e4
  | tup xs =>
    obtain ⟨ns, e3, e4⟩ := Option.bind_eq_some_iff.mp (show (intsD xs).bind _ = some z from e2)
    split at e4
    · rename_i hh
      cases e4
      obtain ⟨p, vs, rfl, g, q⟩ := rd
      rw [intsD_map e3] at q
      rw [repL_ints q] at g
      exact ⟨p, ns, rfl, .inr g, hh.1, hh.2, g2 F1 ρ1 H1 _ Step.refl o1 rfl⟩
    · cases e4
  | _ => cases e2
/-! ### static methods, called by the class's name -/
structure SMet (K : Frag) (C : Addr) (m : Str) (p g : Addr) : Prop where
  rd : PySem.W.readsIn K C (.type "type") = true
  ga : PySem.W.specialIn K (.ref C) "__getattribute__" = some (some (.builtin "type.__getattribute__"))
  at_ : PySem.W.findCls K (.ref C) (.type "type") m = some (.get (.builtin "staticmethod.__get__") (.ref p) .none (.ref C))
  rc : ∃ rest, PySem.W.recIn K p "staticmethod" = some (.ref g :: rest)
  kp : PySem.W.keepIn K (.ref g) = true
def smB (K : Frag) (C : Addr) (m : Str) (p g : Addr) : Bool := PySem.W.readsIn K C (.type "type") && (decide (PySem.W.specialIn K (.ref C) "__getattribute__" = some (some (.builtin "type.__getattribute__"))) && ((match PySem.W.findCls K (.ref C) (.type "type") m with
    | some (.get (.builtin i) (.ref q) .none (.ref D)) => decide (i = "staticmethod.__get__") && (decide (q = p) && decide (D = C))
    | _ => false) && ((match PySem.W.recIn K p "staticmethod" with
    | some (.ref q :: _) => decide (q = g)
    | _ => false) && PySem.W.keepIn K (.ref g))))
theorem smB_of {K : Frag} {C : Addr} {m : Str} {p g : Addr} (h : smB K C m p g = true) : SMet K C m p g := by
  unfold smB at h
  obtain ⟨h1, h⟩ := Bool.and_eq_true_iff.mp h
  obtain ⟨h2, h⟩ := Bool.and_eq_true_iff.mp h
  obtain ⟨h3, h⟩ := Bool.and_eq_true_iff.mp h
  obtain ⟨h4, h5⟩ := Bool.and_eq_true_iff.mp h
  refine ⟨h1, of_decide_eq_true h2, ?_, ?_, h5⟩
  · split at h3
    · rename_i i q D e
      obtain ⟨k1, k⟩ := Bool.and_eq_true_iff.mp h3
      obtain ⟨k2, k3⟩ := Bool.and_eq_true_iff.mp k
      rw [e, of_decide_eq_true k1, of_decide_eq_true k2, of_decide_eq_true k3]
    · cases h3
  · split at h4
    · rename_i q r e
      exact ⟨r, by rw [e, of_decide_eq_true h4]⟩
    · cases h4
theorem ke_stat {x name : Str} {k : Nat} {C p g : Addr} {fd : FuncData} {ps ks : List Str} {m : FF} {src : List Sr} {n : Nat} {args : List Expr} {kws : List Keyword} {fc : CF} {q apos : Pos} {pl : Sem Bool} (S : SMet X.K C name p g) (tk : Takes X W) (hr : Rm k X.A) (G : KFn X.prog X.w X.K X.mg X.base k g fd ps m) (hb : Bk X.K fd ps n ks src)
    (hm : X.mg x = some (.ref C)) (ha : KC X W args kws ks fc) {l : Nat} (hl : ks.length = l := by rfl) (hg : Gl X x := by rfl) (hdb : (x == ("__debug__" : Str)) = false := by decide)
    (ht : eval (.Call (.Attribute (.Name x q) name apos) args kws pos) X.env = (do
      let ov ← eval (.Name x q) X.env
      standAt apos.atName
      let (f, first) ← holding [ov] (getMethod ov name pl)
      callWith pos f first (backTo pos (starEach args X.env)) (backToKw pos (keywordEach kws X.env))) := by rfl) :
    KE X W (.Call (.Attribute (.Name x q) name apos) args kws pos) (eCall m src n l fc) := by
  subst hl
  have ho : KE X W (.Name x q) (eC (.obj C)) := ke_obj hm hg hdb
  refine ⟨fun pins s σ H Q I ⟨F, ρ, L, st, o, r, h⟩ => ?_⟩
  refine PySem.W.methodCall_KW (pl := pl) (thn (PE.run ho pins s σ H (fun y H1 => y = .ref C ∧ ∃ F1 ρ1, Ok X.K F1 ρ1 H1 L ∧ RepSt X.K F1 ρ1 H1 L σ st ∧ GE RepU X.K W σ F1 ρ1 H1 L Q (eCall m src n ks.length fc st L)) I ⟨F, ρ, L, st, o, r, fun F' ρ' H' b s' o' p' => ⟨p', F', ρ', o', r.mono s', GE.on s' h⟩⟩) fun v s1 ⟨y, H1, I1, ry, ey, F1, ρ1, o1, r1, h1⟩ => ?_) ht
  subst ey
  obtain rfl : v = Value.ref C := ry
  obtain ⟨rest, hp⟩ := S.rc
  refine PySem.W.method_cls I1.kIn S.ga (PySem.W.cls_bind I1.kIn S.rd S.at_ ?_)
  refine wpAny_call (PySem.W.sm_get (s := { s1 with toks := s1.toks + 1 }) I1.kIn hp (PySem.W.handed_on rfl ?_))
  refine ha pos (.ref g) [] pins _ σ H1 _ S.kp (I1.tok _) (RG.one (P := PUU) o1 r1 h1 fun b H2 F2 ρ2 L2 a s2 o2 r2 p2 h2 s3 us ws I3 v1 v2 => ?_)
  obtain ⟨hc, h2⟩ := ge_if h2
  exact run_k G hr hb tk I3 o2 p2.1 p2.2 v1 v2 hc.1 hc.2 h2
/-! ### own operators, an int to the right -/
structure IntR (K : Frag) (C : Addr) (nm : String) : Prop where
  sf : PySem.W.selfFirst K C = true
  rv : PySem.W.findIn K (.ref C) (dunderR nm) = some none
  i1 : ∃ fo, PySem.W.findIn K (.type "int") (PySem.dunder nm) = some fo
  i2 : ∃ ro, PySem.W.findIn K (.type "int") (dunderR nm) = some ro
  sub : PySem.W.subIn K (.type "int") (.ref C) = some false
def intRB (K : Frag) (C : Addr) (nm : String) : Bool := PySem.W.selfFirst K C && (decide (PySem.W.findIn K (.ref C) (dunderR nm) = some none) && ((PySem.W.findIn K (.type "int") (PySem.dunder nm)).isSome && ((PySem.W.findIn K (.type "int") (dunderR nm)).isSome && decide (PySem.W.subIn K (.type "int") (.ref C) = some false))))
theorem intRB_of {K : Frag} {C : Addr} {nm : String} (h : intRB K C nm = true) : IntR K C nm := by
  unfold intRB at h
  obtain ⟨h1, h⟩ := Bool.and_eq_true_iff.mp h
  obtain ⟨h2, h⟩ := Bool.and_eq_true_iff.mp h
  obtain ⟨h3, h⟩ := Bool.and_eq_true_iff.mp h
  obtain ⟨h4, h5⟩ := Bool.and_eq_true_iff.mp h
  exact ⟨h1, of_decide_eq_true h2, Option.isSome_iff_exists.mp h3, Option.isSome_iff_exists.mp h4, of_decide_eq_true h5⟩
def ownOpI (C : Addr) (m : FF) (x y : U) (L : LS) : Rs U := opt (rdU L y) fun d => match d with
  | .int _ => own2 C m x y L
  | _ => .no
theorem op_ownOI {k : Nat} {C : Addr} {m : FF} {op : Operator} (M : KM X.prog X.w X.K X.mg X.base k C (PySem.dunder op.info.2) 2 m) (hr : Rm k X.A) (tk : Takes X W) (hc : IntR X.K C op.info.2) : Op2U X W (binaryOp op) (ownOpI C m) := by
  intro pins s σ H x y v u Q F ρ L ux uy I o px py rx ry h
  obtain ⟨d, e, h1⟩ := h.opt
  clear h
  split at h1
  · rename_i i
    obtain rfl : y = .int i := rdr_of o py e
    obtain ⟨a, dx, fs, rfl, ha, oc, h2⟩ := own2_of o px h1
    cases rx
    obtain ⟨t, rfl⟩ := id ry
    obtain ⟨od, J⟩ := inst_ins I ha
    obtain ⟨f, Me, run⟩ := M.go hr I.env0 tk I o (us := [ux, uy]) (vs := [.ref a, .int i]) (uv := [.ref a, .int i t]) ⟨_, _, rfl, px, _, _, rfl, py, rfl⟩ (.cons rfl (.cons ry .nil)) rfl h2
    obtain ⟨mm, hF⟩ := I.fr
    obtain ⟨fo, h3⟩ := hc.i1
    obtain ⟨ro, h4⟩ := hc.i2
    exact PySem.W.ksp_binT hF I.ok.mod.kin J rfl hc.sf Me.at_ Me.fn hc.rv (.inl rfl) h3 h4 hc.sub (wpAny_mono run (fun _ _ z => back_ni z) fun _ _ z => z)
  · exact h1.elim
end
end VL

set_option Elab.async false
set_option linter.all false
set_option maxRecDepth 100000
set_option maxHeartbeats 4000000
/-! VL58: tuples of own instances compared by their own == -/
namespace VL
open PySem PySem.Spec PyProof.Rows L2
open PySem.W (Frag)
section
variable {prog : Program} {w : World} {A : Around} {R : Result → Shared → Prop}
theorem tuple_neG (l b : Addr) (items items2 : Array Value) (n n2 : Nat) (dd dd2 : Option Addr) (sl sl2 : Array (Option Value)) (hsz : items.size = items2.size) (I : Nat → Shared → Prop)
    (turn : ∀ i (h1 : i < items.size) (h2 : i < items2.size) s, I i s → wpAny (model prog w) A.in1 (eqBool items[i] items2[i]) (fun r s' => r = true ∧ I (i + 1) s') (fun e s' => R (.error e) s') s)
    (fin : ∀ s, I items.size s → R (.ok (.ret (.bool false))) s) {s : Shared} (hl1 : s.heap.get? l = some { cls := .type "tuple", dict := dd, data := .seq items n, slots := sl }) (hb1 : s.heap.get? b = some { cls := .type "tuple", dict := dd2, data := .seq items2 n2, slots := sl2 }) (h : I 0 s) :
    wpAny (model prog w) A.in1 (Builtin.«tuple.__ne__» ⟨[.ref l, .ref b], []⟩) (GQ.FinOf prog w A R) (fun e s' => R (.error e) s') s := by
  have f2 := AutoSeq1.sub_tuple_tuple
  have hZ : (items.toList.zip items2.toList).length = items.size := by simp [hsz]
  have h0 := h
  obtain ⟨hp, g, d, tk, os⟩ := s
  wp_walk using wpAny_loadPart' hl1, wpAny_loadPart' hb1, wpAny_forIn_list _ (fun rest b s' => b.1 = none ∧ ∃ i, rest = (items.toList.zip items2.toList).drop i ∧ i ≤ items.size ∧ I i s') _
  case turn =>
    rintro ⟨y, x⟩ rest b s' ⟨hb', i, hz, hi, hI⟩
    have hlt : i < (items.toList.zip items2.toList).length := by
      rcases Nat.lt_or_ge i (items.toList.zip items2.toList).length with h' | h'
      · exact h'
      · rw [List.drop_of_length_le h'] at hz; cases hz
    have h1 : i < items.size := hZ ▸ hlt
    have h2 : i < items2.size := hsz ▸ h1
    rw [List.drop_eq_getElem_cons hlt] at hz
    injection hz with hyx hrest
    have hy : y = items[i] := by have := congrArg Prod.fst hyx; simpa using this
    have hx : x = items2[i] := by have := congrArg Prod.snd hyx; simpa using this
    subst hy hx
    refine wpAny_bind (wpAny_mono (turn i h1 h2 s' hI) (fun r s2 q2 => ?_) fun _ _ x => x)
    obtain ⟨hr, q2⟩ := q2
    subst hr
    wp_walk
    exact ⟨rfl, i + 1, hrest, h1, q2⟩
  case fin =>
    rintro ⟨b1, b2⟩ s' ⟨hb', i, hz, hi, hI⟩
    simp only at hb'
    subst hb'
    have hge : items.size ≤ i := by
      rcases Nat.lt_or_ge i (items.toList.zip items2.toList).length with h' | h'
      · rw [List.drop_eq_getElem_cons h'] at hz; cases hz
      · exact hZ ▸ h'
    have hi' : i = items.size := by omega
    have hR : R (.ok (.ret (.bool false))) s' := fin s' (hi' ▸ hI)
    wp_walk
    simpa [Builtin.Tuple.tupleCompareSizes, hsz] using hR
  case h =>
    exact ⟨rfl, 0, rfl, Nat.zero_le _, h0⟩
end
section
variable {prog : Program} {w : World} {A : Around} {E : Value → Shared → Prop} {s : Shared}
theorem rc_tupN {l b : Addr} {items items2 : Array Value} {Q : Value → Shared → Prop} (hsz : items.size = items2.size) (hu : A.units < cLine) (I : Nat → Shared → Prop)
    (hl : s.heap.IsTuple l items) (hb : s.heap.IsTuple b items2)
    (turn : ∀ i (h1 : i < items.size) (h2 : i < items2.size) s, I i s → wpAny (model prog w) A.in1 (eqBool items[i] items2[i]) (fun r s' => r = true ∧ I (i + 1) s') E s)
    (fin : ∀ s, I items.size s → Q (.bool false) s) (h : I 0 s) : wpAny (model prog w) A (richCompare .NotEq (.ref l) (.ref b)) Q E s := by
  obtain ⟨⟨cls, dd, data, sl⟩, ho, hc, n, hd⟩ := id hl
  obtain ⟨⟨cls2, dd2, data2, sl2⟩, ho2, hc2, n2, hd2⟩ := id hb
  simp only at hc hd hc2 hd2
  subst hc hd hc2 hd2
  refine wpAny_richCompare_same_room (op := .NotEq) ⟨_, ho, rfl⟩ ⟨_, ho2, rfl⟩ F.slot_tuple_ne (GQ.call_here F.slot_tuple_ne ⟨_, ho, rfl⟩ F.entry_tuple_ne (F.args_tuple_ne_2 _ _) ?_) hu
  exact tuple_neG (R := wants (fun v s' => v ≠ .notImplemented ∧ Q v s') E) l b items items2 n n2 dd dd2 sl sl2 hsz I turn (fun s' q => ⟨(fun x => nomatch x), fin s' q⟩) ho ho2 h
end
/-! ### the heap has grown -/
section
variable {K : Frag} {F : Addr → Prop} {ρ : Nat → Addr} {H H' : Hp} {L : LS}
theorem ext_k (o : Ok K F ρ H L) (e : Ext H H') : ∀ a, F a → F a ∧ H' a = H a := fun a f => ⟨f, by
  cases h : H a with
  | none => exact absurd h (o.stands a f)
  | some u => exact e a u h⟩
theorem ext_ok (o : Ok K F ρ H L) (e : Ext H H') : Step F ρ H L F ρ H' L ∧ Ok K F ρ H' L := by
  have k := ext_k o e
  refine ⟨⟨k, Nat.le_refl _, fun _ _ => rfl, fun a u h _ => e a u h, fun n lo h q _ => absurd (List.getElem?_eq_some_iff.mp q).1 (Nat.not_lt.mpr h), fun n lo _ q t => ⟨lo, q, t⟩, fun a h => ?_, fun a h => .inl h⟩, ⟨fun n lo q => ?_, o.inj, fun a f h => ?_⟩⟩
  · cases h0 : H a with
    | none => rfl
    | some u => rw [e a u h0] at h; cases h
  · have h := o.at_ n lo q
    cases lo with
    | l xs => obtain ⟨f, vs, h1, h2⟩ := h; exact ⟨f, vs, e _ _ h1, RepL.mono k xs h2⟩
    | d ks xs => obtain ⟨f, vs, h1, h2, h3⟩ := h; exact ⟨f, vs, e _ _ h1, h2, RepL.mono k xs h3⟩
    | t ks xs => obtain ⟨f, vs, h1, h2, h3⟩ := h; exact ⟨f, vs, e _ _ h1, h2, RepL.mono k xs h3⟩
    | i C ns xs => obtain ⟨f, dx, fs, h1, oc, h2, h3⟩ := h; exact ⟨f, dx, fs, e _ _ h1, oc, h2, RepL.mono k xs h3⟩
    | z d => exact Rep.mono k d h
  · have := o.stands a f
    rw [(k a f).2] at h
    exact this h
theorem nil_ok (o : Ok K F ρ H L) : Ok K F ρ H [] := ⟨fun n lo q => by simp at q, fun m n lo lo' q => by simp at q, o.stands⟩
end
/-- item by item, by the own == -/
def eqPairs (C : Addr) (m : FF) : List D → List D → Bool
  | [], [] => true
  | .ins C1 ns1 xs1 :: ds, .ins C2 ns2 xs2 :: es => decide (C1 = C) && (decide (C2 = C) && ((match m [.d (.ins C1 ns1 xs1), .d (.ins C2 ns2 xs2)] [] with
      | .ok (.d (.bl true)) [] => true
      | _ => false) && eqPairs C m ds es))
  | _, _ => false
theorem eqPairs_len {C : Addr} {m : FF} : ∀ {xs ys : List D}, eqPairs C m xs ys = true → xs.length = ys.length
  | [], [], _ => rfl
  | .ins C1 ns1 xs1 :: ds, .ins C2 ns2 xs2 :: es, h => by
    simp only [eqPairs, Bool.and_eq_true] at h
    simp [eqPairs_len h.2.2.2]
  | [], _ :: _, h => by simp [eqPairs] at h
  | d :: _, [], h => by cases d <;> simp [eqPairs] at h
  | .non :: _, _ :: _, h => by simp [eqPairs] at h
  | .bl _ :: _, _ :: _, h => by simp [eqPairs] at h
  | .int _ :: _, _ :: _, h => by simp [eqPairs] at h
  | .str _ :: _, _ :: _, h => by simp [eqPairs] at h
  | .lst _ :: _, _ :: _, h => by simp [eqPairs] at h
  | .tup _ :: _, _ :: _, h => by simp [eqPairs] at h
  | .dic _ _ :: _, _ :: _, h => by simp [eqPairs] at h
  | .dit _ _ :: _, _ :: _, h => by simp [eqPairs] at h
  | .exc _ _ _ :: _, _ :: _, h => by simp [eqPairs] at h
  | .ex0 _ :: _, _ :: _, h => by simp [eqPairs] at h
  | .obj _ :: _, _ :: _, h => by simp [eqPairs] at h
  | .ty _ :: _, _ :: _, h => by simp [eqPairs] at h
  | .scr _ :: _, _ :: _, h => by simp [eqPairs] at h
  | .ins _ _ _ :: _, d :: _, h => by cases d <;> first | (simp [eqPairs] at h; done) | (simp only [eqPairs, Bool.and_eq_true] at h; simp [eqPairs_len h.2.2.2])
def EqOne (C : Addr) (m : FF) (d e : D) : Prop := ∃ ns1 xs1 ns2 xs2, d = .ins C ns1 xs1 ∧ e = .ins C ns2 xs2 ∧ m [.d d, .d e] [] = .ok (.d (.bl true)) []
theorem eqPairs_get {C : Addr} {m : FF} : ∀ {xs ys : List D}, eqPairs C m xs ys = true → ∀ {i : Nat} {d e : D}, xs[i]? = some d → ys[i]? = some e → EqOne C m d e
  | [], _, _, _, _, _, h, _ => by simp at h
  | _ :: _, [], _, _, _, _, _, h => by simp at h
  | d :: ds, e :: es, h, i, d', e', h1, h2 => by
    cases d with
    | ins C1 ns1 xs1 =>
      cases e with
      | ins C2 ns2 xs2 =>
        simp only [eqPairs, Bool.and_eq_true, decide_eq_true_eq] at h
        obtain ⟨rfl, rfl, h3, h4⟩ := h
        cases i with
        | zero =>
          simp at h1 h2
          subst h1 h2
          refine ⟨_, _, _, _, rfl, rfl, ?_⟩
          split at h3
          · assumption
          · cases h3
        | succ i => exact eqPairs_get h4 (i := i) (by simpa using h1) (by simpa using h2)
      | _ => simp [eqPairs] at h
    | _ => simp [eqPairs] at h
def eqTupU (C : Addr) (m : FF) (neg : Bool) (x y : U) (L : LS) : Rs U := opt (rdU L x) fun dx => opt (rdU L y) fun dy => match dx, dy with
  | .tup xs, .tup ys => if eqPairs C m xs ys = true then .ok (.d (.bl (!neg))) L else .no
  | _, _ => op2 (bD (if neg then neB else eqB)) x y L
section
variable {X : Cx} {W : WX} {k : Nat} {C : Addr} {m : FF}
theorem eq_turn (M : KM X.prog X.w X.K X.mg X.base k C (cmpInfo .Eq).2.1 2 m) (hr : Rm (k + 1) X.A) (tk : Takes X W) (hc : PySem.W.notFirst X.K C (.ref C) = true) {pins : List (Addr × Obj)} {σ : L2.St} {F : Addr → Prop} {ρ : Nat → Addr} {H H1 : Hp} {L : LS} {s' : Shared}
    (o : Ok X.K F ρ H L) (e1 : Ext H H1) (I1 : Inv X pins σ H1 s') {d e : D} {x y : V} {u v : Value} (q : EqOne C m d e) (rd : Rep X.K F H d x) (re : Rep X.K F H e y) (ru : RelV x u) (rv : RelV y v) :
    wpAny (model X.prog X.w) X.A.in1 (eqBool u v) (fun r s2 => r = true ∧ ∃ H', Inv X pins σ H' s2 ∧ Ext H H') X.xe s' := by
  obtain ⟨o1s, o1⟩ := ext_ok o e1
  have rd1 := Rep.mono o1s.fz d rd
  have re1 := Rep.mono o1s.fz e re
  obtain ⟨ns1, xs1, ns2, xs2, rfl, rfl, hm⟩ := q
  obtain ⟨a, dx, fs, rfl, fa, ha, oc, _, _⟩ := id rd1
  obtain ⟨b, dy, gs, rfl, fb, hb, _, _, _⟩ := id re1
  cases ru
  cases rv
  by_cases hab : a = b
  · subst hab
    exact SeqAt.EqAt.same (A := X.A.in1) (s := s') (.ref a) X.prog X.w X.xe _ ⟨rfl, H1, I1, e1⟩
  · refine GQ.eqBool_refG hab ?_
    obtain ⟨od, J⟩ := inst_ins I1 ha
    obtain ⟨od', J'⟩ := inst_ins I1 hb
    have g : GE RepU X.K W σ F ρ H1 [] (fun z H2 => z = .bl true ∧ Ext H1 H2) (m [.d (.ins C ns1 xs1), .d (.ins C ns2 xs2)] []) := by
      rw [hm]
      intro F2 ρ2 H2 z s2 o2 p2
      exact ⟨p2, fun c w hw => s2.keep c w hw fun ⟨n, lo, q, _, _⟩ => by simp at q⟩
    obtain ⟨f, Me, run⟩ := M.go hr.in1 I1.env0.in1 tk I1 (nil_ok o1) (us := [.d (.ins C ns1 xs1), .d (.ins C ns2 xs2)]) (vs := [.ref a, .ref b]) (uv := [.ref a, .ref b]) ⟨_, _, rfl, rd1, _, _, rfl, re1, rfl⟩ (.cons rfl (.cons rfl .nil)) rfl g
    obtain ⟨mm, hF⟩ := I1.fr
    have hu : X.A.in1.units < cLine := by have := hr.in1.rm.units; omega
    refine PySem.W.cmp_K (op := .Eq) hu hF I1.ok.mod.kin J J'.type hc Me.at_ Me.fn (wpAny_mono run (fun v2 s2 z => ?_) fun _ _ z => z)
    obtain ⟨z, H2, I2, rz, ez, ex⟩ := z
    subst ez
    cases rz
    exact ⟨true, rfl, rfl, H2, I2, e1.trans ex⟩
theorem tup_at {K : Frag} {F : Addr → Prop} {H : Hp} {xs : List D} {v : V} (h : Rdr K F H (.tup xs) v) : ∃ a vs, v = .ref a ∧ SqT K H a vs ∧ RepL K F H xs vs := h
theorem op_eqTup (M : KM X.prog X.w X.K X.mg X.base k C (cmpInfo .Eq).2.1 2 m) (hr : Rm (k + 1) X.A) (tk : Takes X W) (hc : PySem.W.notFirst X.K C (.ref C) = true) : Op2U X W (compareOp .Eq) (eqTupU C m false) := by
  intro pins s σ H x y v u Q F ρ L ux uy I o px py rx ry h
  obtain ⟨dx, e1, h1⟩ := h.opt
  obtain ⟨dy, e2, h2⟩ := h1.opt
  clear h h1
  split at h2
  · rename_i xs ys
    split at h2
    · rename_i hp
      obtain ⟨a, vs, rfl, ga, ra⟩ := tup_at (rdr_of o px e1)
      obtain ⟨b, ws, rfl, gb, rb⟩ := tup_at (rdr_of o py e2)
      cases rx
      cases ry
      obtain ⟨its, rv, pa, _⟩ := I.tuple ga
      obtain ⟨its2, rw', pb, _⟩ := I.tuple gb
      have hsz : its.toArray.size = its2.toArray.size := by rw [List.size_toArray, List.size_toArray, ← rv.length, ← rw'.length, ra.length, rb.length]; exact eqPairs_len hp
      refine GQ.rc_tupG hsz (by have := hr.rm.units; omega) (fun _ s' => ∃ H', Inv X pins σ H' s' ∧ Ext H H') pa pb (fun i h1 h2 s' q => ?_) (fun s' q => ?_) ⟨H, I, Ext.rfl'⟩
      · obtain ⟨H1, I1, x1⟩ := q
        have k1 : i < its.length := by simpa using h1
        have k2 : i < its2.length := by simpa using h2
        have j1 : i < xs.length := by rw [← ra.length, rv.length]; exact k1
        have j2 : i < ys.length := by rw [← rb.length, rw'.length]; exact k2
        obtain ⟨v1, g1, r1⟩ := ra.get (List.getElem?_eq_getElem j1)
        obtain ⟨v2, g2, r2⟩ := rb.get (List.getElem?_eq_getElem j2)
        obtain ⟨u1, f1, q1⟩ := rv.get g1
        obtain ⟨u2, f2, q2⟩ := rw'.get g2
        have c1 : its.toArray[i] = u1 := by rw [List.getElem?_eq_getElem k1] at f1; simpa using f1
        have c2 : its2.toArray[i] = u2 := by rw [List.getElem?_eq_getElem k2] at f2; simpa using f2
        rw [c1, c2]
        exact eq_turn M hr tk hc o x1 I1 (eqPairs_get hp (List.getElem?_eq_getElem j1) (List.getElem?_eq_getElem j2)) r1 r2 q1 q2
      · obtain ⟨H1, I1, x1⟩ := q
        obtain ⟨s1, o1⟩ := ext_ok o x1
        exact ⟨.bl true, H1, I1, rfl, h2 F ρ H1 _ s1 o1 rfl⟩
    · exact h2.elim
  · exact od_eq hr.u pins s σ H x y v u Q I rx ry (op2_ok o px py h2)
theorem op_neTup (M : KM X.prog X.w X.K X.mg X.base k C (cmpInfo .Eq).2.1 2 m) (hr : Rm (k + 1) X.A) (tk : Takes X W) (hc : PySem.W.notFirst X.K C (.ref C) = true) : Op2U X W (compareOp .NotEq) (eqTupU C m true) := by
  intro pins s σ H x y v u Q F ρ L ux uy I o px py rx ry h
  obtain ⟨dx, e1, h1⟩ := h.opt
  obtain ⟨dy, e2, h2⟩ := h1.opt
  clear h h1
  split at h2
  · rename_i xs ys
    split at h2
    · rename_i hp
      obtain ⟨a, vs, rfl, ga, ra⟩ := tup_at (rdr_of o px e1)
      obtain ⟨b, ws, rfl, gb, rb⟩ := tup_at (rdr_of o py e2)
      cases rx
      cases ry
      obtain ⟨its, rv, pa, _⟩ := I.tuple ga
      obtain ⟨its2, rw', pb, _⟩ := I.tuple gb
      have hsz : its.toArray.size = its2.toArray.size := by rw [List.size_toArray, List.size_toArray, ← rv.length, ← rw'.length, ra.length, rb.length]; exact eqPairs_len hp
      refine rc_tupN hsz (by have := hr.rm.units; omega) (fun _ s' => ∃ H', Inv X pins σ H' s' ∧ Ext H H') pa pb (fun i h1 h2 s' q => ?_) (fun s' q => ?_) ⟨H, I, Ext.rfl'⟩
      · obtain ⟨H1, I1, x1⟩ := q
        have k1 : i < its.length := by simpa using h1
        have k2 : i < its2.length := by simpa using h2
        have j1 : i < xs.length := by rw [← ra.length, rv.length]; exact k1
        have j2 : i < ys.length := by rw [← rb.length, rw'.length]; exact k2
        obtain ⟨v1, g1, r1⟩ := ra.get (List.getElem?_eq_getElem j1)
        obtain ⟨v2, g2, r2⟩ := rb.get (List.getElem?_eq_getElem j2)
        obtain ⟨u1, f1, q1⟩ := rv.get g1
        obtain ⟨u2, f2, q2⟩ := rw'.get g2
        have c1 : its.toArray[i] = u1 := by rw [List.getElem?_eq_getElem k1] at f1; simpa using f1
        have c2 : its2.toArray[i] = u2 := by rw [List.getElem?_eq_getElem k2] at f2; simpa using f2
        rw [c1, c2]
        exact eq_turn M hr tk hc o x1 I1 (eqPairs_get hp (List.getElem?_eq_getElem j1) (List.getElem?_eq_getElem j2)) r1 r2 q1 q2
      · obtain ⟨H1, I1, x1⟩ := q
        obtain ⟨s1, o1⟩ := ext_ok o x1
        exact ⟨.bl false, H1, I1, rfl, h2 F ρ H1 _ s1 o1 rfl⟩
    · exact h2.elim
  · exact od_ne hr.u pins s σ H x y v u Q I rx ry (op2_ok o px py h2)
end
end VL

set_option Elab.async false
set_option linter.all false
set_option maxRecDepth 100000
set_option maxHeartbeats 4000000
/-! VL59: properties -/
namespace VL
open PySem PySem.Spec PyProof.Rows L2
open PySem.W (Frag)
def propB (K : Frag) (C : Addr) (f : Str) (p g : Addr) : Bool := decide (PySem.W.findIn K (.ref C) f = some (some (.ref p))) && (decide (PySem.W.specialIn K (.ref p) "__get__" = some (some (.builtin "property.__get__"))) && (decide (PySem.W.takesIn K (.ref p) = some true) && (match PySem.W.recIn K p "property" with
    | some (.ref q :: _) => decide (q = g)
    | _ => false)))
theorem propB_of {K : Frag} {C : Addr} {f : Str} {p g : Addr} (h : propB K C f p g = true) : PropOf K C f p g := by
  unfold propB at h
  obtain ⟨h1, h⟩ := Bool.and_eq_true_iff.mp h
  obtain ⟨h2, h⟩ := Bool.and_eq_true_iff.mp h
  obtain ⟨h3, h4⟩ := Bool.and_eq_true_iff.mp h
  refine ⟨of_decide_eq_true h1, of_decide_eq_true h2, of_decide_eq_true h3, ?_⟩
  split at h4
  · rename_i q r e
    exact ⟨r, by rw [e, of_decide_eq_true h4]⟩
  · cases h4
/-- o.f, f a property whose def does not raise -/
def eProp (C : Addr) (m : FF) (fa : EF) : EF := fun st L => (fa st L).bind fun u L1 => opt (rdU L1 u) fun d => match d with
  | .ins C' _ _ => if C' = C then (match m [u] L1 with
      | .ok a L2 => .ok a L2
      | _ => .no) else .no
  | _ => .no
section
variable {X : Cx} {W : WX} {a : Expr} {fa : EF} {pos : Pos}
theorem ke_prop {k : Nat} {C p g : Addr} {f : Str} {fd : FuncData} {ps : List Str} {m : FF} {src : List Sr} (hp : PropOf X.K C f p g) (G : KFn X.prog X.w X.K X.mg X.base k g fd ps m) (hb : Bk X.K fd ps 1 [] src) (hr : Rm (k + 1) X.A) (ha : KE X W a fa)
    (hab : attributeBase a f X.env (eval a X.env) = eval a X.env := by rfl) : KE X W (.Attribute a f pos) (eProp C (fun us L => opt (arrU us [] src) fun xs => m xs L) fa) := by
  refine ⟨fun pins s σ H Q I ⟨F, ρ, L, st, o, r, h⟩ => ?_⟩
  refine attr_of hab (thn (PE.run ha pins s σ H (fun x H1 => ∃ F1 ρ1 L1 u, Ok X.K F1 ρ1 H1 L1 ∧ RepU X.K F1 ρ1 H1 L1 u x ∧ GE RepU X.K W σ F1 ρ1 H1 L1 Q _) I (RG.one o r h fun x H1 F1 ρ1 L1 u s1 o1 r1 p1 h1 => ⟨F1, ρ1, L1, u, o1, p1, h1⟩)) fun v s1 ⟨x, H1, I1, rx, F1, ρ1, L1, u, o1, p1, h1⟩ => ?_)
  obtain ⟨d, e, h2⟩ := h1.opt
  clear h1 h
  split at h2
  · rename_i C' ns xs
    obtain ⟨hC, h3⟩ := ge_if h2
    clear h2
    subst hC
    obtain ⟨b, dx, fs, rfl, ea, oc, _⟩ := (show ∃ a dx fs, x = .ref a ∧ H1 a = some (.ins C' dx fs) ∧ OwnC X.K C' ∧ fs.map (·.1) = ns ∧ RepL X.K F1 H1 xs (fs.map (·.2)) from rdr_of o1 p1 e)
    obtain rfl : v = Value.ref b := rx
    obtain ⟨mA, O, _, _, _, _⟩ := ins_get I1.hok ea
    obtain ⟨od, J, _⟩ := O.look
    obtain ⟨rest, hrec⟩ := hp.rec_
    have I2 := I1.tok (s1.toks + 1)
    have hc : (PySem.W.clsIn X.K C').isSome = true := by
      obtain ⟨cd, hc, _⟩ := PySem.W.any_some oc.cl.hd
      rw [hc]
      rfl
    cases ex : arrU [u] [] src with
    | none => simp only [ex, opt] at h3; exact h3.elim
    | some xs1 =>
      simp only [ex, opt] at h3
      obtain ⟨out, bd, pr⟩ := hb.bind { s1 with toks := s1.toks + 1 } [.ref b] [] I2.kIn rfl rfl
      obtain ⟨ys, q1, q2⟩ := arr_ok (us := [u]) (vs := [.ref b]) (ws := []) (zs := []) (uv := [.ref b]) (wv := []) ⟨_, _, rfl, p1, rfl⟩ rfl (.cons rfl .nil) .nil pr ex
      have hlen : xs1.length = ps.length := by
        rw [← q1.length, q2.length, ← Paired.length pr]; exact hb.len
      refine PySem.W.get_bind I1.kIn J (PySem.W.plainGet_of (oc.cl.get f)).1 (PySem.W.findObj_data hc hp.at_ hp.get hp.tak) (PySem.W.plainGet_of (oc.cl.get f)).2 (wpAny_call (PySem.W.prop_get (s := { s1 with toks := s1.toks + 1 }) I1.kIn hrec ?_))
      refine codeAny_mono (G.run X.A.in1 X.stack { s1 with toks := s1.toks + 1 } H1 ⟨[.ref b], []⟩ out ys Q (fun _ _ _ => False) hr.in1 I2.env0.in1 bd q2 ⟨F1, ρ1, L1, xs1, o1, q1, hlen, ?_⟩) fun r s' hq => ?_
      · cases em : m xs1 L1 with
        | ok a L2 => rw [em] at h3; exact h3
        | ex C ns xs L2 => rw [em] at h3; exact h3.elim
        | no => rw [em] at h3; exact h3.elim
      · cases r with
        | error er =>
          obtain ⟨_, _, _, _, _, _, _, _, _, _, _, _, he⟩ := hq
          exact False.elim he
        | ok fl =>
          cases fl with
          | ret u =>
            obtain ⟨v, H', I3, rv, q3⟩ := I2.after hq
            show wpAny _ _ (handedOut u) _ _ _
            rw [PySem.W.handedOut_of (handed_of rv)]
            exact wpAny_pure ⟨v, H', I3, rv, q3⟩
          | next => exact False.elim hq
          | brk => exact False.elim hq
          | cont => exact False.elim hq
  · exact h2.elim
end
end VL

set_option Elab.async false
set_option linter.all false
set_option maxRecDepth 100000
set_option maxHeartbeats 4000000
/-! VL60: the plain side's combinators (namespace VL.Q) -/
namespace VL.Q
open PySem PySem.Spec PyProof.Rows L2 VL
section
variable {fa fb fc fe fo : EF} {st : SS} {L L1 L2 L3 L4 : LS} {x y z : D} {u v w : U}
theorem ac_ok {f : AF} {us : List U} (h1 : fa st L = .ok u L1) (h2 : f st L1 = .ok us L2) : aCons fa f st L = .ok (u :: us) L2 := by
  simp [aCons, h1, h2, Rs.bind]
theorem an_ok : aNil st L = .ok [] L := rfl
theorem pos_ok {f : AF} {us : List U} (h : f st L = .ok us L1) : cPos f st L = .ok (us, []) L1 := by simp [cPos, h, Rs.bind]
theorem pos0 : cPos aNil st L = .ok ([], []) L := rfl
theorem pos1 (h : fa st L = .ok u L1) : cPos (aCons fa aNil) st L = .ok ([u], []) L1 := pos_ok (ac_ok h rfl)
theorem pos2 (h : fa st L = .ok u L1) (h2 : fb st L1 = .ok v L2) : cPos (aCons fa (aCons fb aNil)) st L = .ok ([u, v], []) L2 := pos_ok (ac_ok h (ac_ok h2 rfl))
theorem pos3 (h : fa st L = .ok u L1) (h2 : fb st L1 = .ok v L2) (h3 : fc st L2 = .ok w L3) : cPos (aCons fa (aCons fb (aCons fc aNil))) st L = .ok ([u, v, w], []) L3 := pos_ok (ac_ok h (ac_ok h2 (ac_ok h3 rfl)))
theorem pos4 {fd : EF} {t : U} (h : fa st L = .ok u L1) (h2 : fb st L1 = .ok v L2) (h3 : fc st L2 = .ok w L3) (h4 : fd st L3 = .ok t L4) : cPos (aCons fa (aCons fb (aCons fc (aCons fd aNil)))) st L = .ok ([u, v, w, t], []) L4 := pos_ok (ac_ok h (ac_ok h2 (ac_ok h3 (ac_ok h4 rfl))))
theorem kw1 (h : fa st L = .ok u L1) : cBoth aNil (aCons fa aNil) st L = .ok ([], [u]) L1 := by simp [cBoth, aNil, aCons, h, Rs.bind]
theorem fz_ds : ∀ (ds : List D), fzUs L (ds.map U.d) = some (ds, L)
  | [] => rfl
  | d :: ds => by simp [fzUs, fzU, fz_ds ds]
theorem rd_ds : ∀ (ds : List D), rdUs L (ds.map U.d) = some ds
  | [] => rfl
  | d :: ds => by simp [rdUs, rdU, rd_ds ds]
theorem lst_ok {f : AF} {ds : List D} (h : f st L = .ok (ds.map U.d) L1) (hl : ds.length ≤ 1000) : eLst f st L = .ok (.d (.lst ds)) L1 := by
  unfold eLst
  rw [h]
  show opt (fzUs L1 (ds.map U.d)) _ = _
  rw [fz_ds]
  have : ds.length ≤ big := by unfold big; omega
  simp [opt, this]
theorem nil_ok : eLst aNil st L = .ok (.d (.lst [])) L := lst_ok (ds := []) rfl (by simp)
theorem tup_ok {f : AF} {ds : List D} (h : f st L = .ok (ds.map U.d) L1) (hl : ds.length ≤ 1000) : eTup f st L = .ok (.d (.tup ds)) L1 := by
  unfold eTup
  rw [h]
  show opt (fzUs L1 (ds.map U.d)) _ = _
  rw [fz_ds]
  have : ds.length ≤ big := by unfold big; omega
  simp [opt, this]
theorem tup0 : eTup aNil st L = .ok (.d (.tup [])) L := tup_ok (ds := []) rfl (by simp)
theorem tup1 (h : fa st L = .ok (.d x) L1) : eTup (aCons fa aNil) st L = .ok (.d (.tup [x])) L1 := tup_ok (ds := [x]) (ac_ok h rfl) (by simp)
theorem tup2 (h : fa st L = .ok (.d x) L1) (h2 : fb st L1 = .ok (.d y) L2) : eTup (aCons fa (aCons fb aNil)) st L = .ok (.d (.tup [x, y])) L2 := tup_ok (ds := [x, y]) (ac_ok h (ac_ok h2 rfl)) (by simp)
theorem lst1 (h : fa st L = .ok (.d x) L1) : eLst (aCons fa aNil) st L = .ok (.d (.lst [x])) L1 := lst_ok (ds := [x]) (ac_ok h rfl) (by simp)
theorem lstL0 : eLstL aNil st L = .ok (.l L.length) (L ++ [.l []]) := by simp [eLstL, aNil, Rs.bind, fzUs, opt, big]
theorem bin_ok {g : D → D → Option D} (h1 : fa st L = .ok (.d x) L1) (h2 : fb st L1 = .ok (.d y) L2) (h3 : g x y = some z) : eBin g fa fb st L = .ok (.d z) L2 := by
  simp [eBin, h1, h2, Rs.bind, op2, rdU, opt, h3]
/-- what is read, at rest or not -/
theorem bin_rd {g : D → D → Option D} (h1 : fa st L = .ok u L1) (h2 : fb st L1 = .ok v L2) (r1 : rdU L2 u = some x) (r2 : rdU L2 v = some y) (h3 : g x y = some z) : eBin g fa fb st L = .ok (.d z) L2 := by
  simp [eBin, h1, h2, Rs.bind, op2, r1, r2, opt, h3]
theorem un_ok {g : D → Option D} (h1 : fa st L = .ok (.d x) L1) (h3 : g x = some z) : eUn g fa st L = .ok (.d z) L1 := by
  simp [eUn, h1, Rs.bind, op1, rdU, opt, h3]
theorem un_rd {g : D → Option D} (h1 : fa st L = .ok u L1) (r1 : rdU L1 u = some x) (h3 : g x = some z) : eUn g fa st L = .ok (.d z) L1 := by
  simp [eUn, h1, Rs.bind, op1, r1, opt, h3]
theorem fn_ok {g : List D → Option D} {f : AF} {ds : List D} (h1 : f st L = .ok (ds.map U.d) L1) (h2 : g ds = some y) : eFn g f st L = .ok (.d y) L1 := by
  unfold eFn
  rw [h1]
  show opn g (ds.map U.d) L1 = _
  unfold opn
  rw [rd_ds]
  simp [opt, h2]
theorem fn1 {g : List D → Option D} (h1 : fe st L = .ok (.d x) L1) (h2 : g [x] = some y) : eFn g (aCons fe aNil) st L = .ok (.d y) L1 := fn_ok (ds := [x]) (ac_ok h1 rfl) h2
theorem fn2 {g : List D → Option D} (h1 : fa st L = .ok (.d x) L1) (h2 : fb st L1 = .ok (.d y) L2) (h3 : g [x, y] = some z) : eFn g (aCons fa (aCons fb aNil)) st L = .ok (.d z) L2 := fn_ok (ds := [x, y]) (ac_ok h1 (ac_ok h2 rfl)) h3
theorem fn1_rd {g : List D → Option D} (h1 : fe st L = .ok u L1) (r : rdU L1 u = some x) (h2 : g [x] = some y) : eFn g (aCons fe aNil) st L = .ok (.d y) L1 := by
  simp [eFn, aCons, aNil, h1, Rs.bind, opn, rdUs, r, opt, h2]
theorem cmp_rd {g : D → D → Option Bool} {k : Bool} (h1 : fa st L = .ok u L1) (h2 : fb st L1 = .ok v L2) (r1 : rdU L2 u = some x) (r2 : rdU L2 v = some y) (e : g x y = some k) : bCmp g fa fb st L = .ok k L2 := by
  simp [bCmp, h1, h2, Rs.bind, bop2, r1, r2, opt, e]
theorem ecmp_rd {g : D → D → Option Bool} {k : Bool} (h1 : fa st L = .ok u L1) (h2 : fb st L1 = .ok v L2) (r1 : rdU L2 u = some x) (r2 : rdU L2 v = some y) (e : g x y = some k) : eCmp g fa fb st L = .ok (.d (.bl k)) L2 := by
  simp [eCmp, h1, h2, Rs.bind, bD, eBin, op2, r1, r2, opt, e]
theorem eand_t (h1 : fa st L = .ok (.d (.bl true)) L1) {r : Rs U} (h2 : fb st L1 = r) : eAnd fa fb st L = r := by
  simp [eAnd, h1, Rs.bind, trU, truB, rdU, opt, h2]
theorem eand_f (h1 : fa st L = .ok (.d (.bl false)) L1) : eAnd fa fb st L = .ok (.d (.bl false)) L1 := by
  simp [eAnd, h1, Rs.bind, trU, truB, rdU, opt]
theorem enot {b : Bool} (h1 : fa st L = .ok (.d (.bl b)) L1) : eNot fa st L = .ok (.d (.bl (!b))) L1 := by
  simp [eNot, h1, Rs.bind, trU, truB, rdU, opt]
theorem eif_t {t : TF} {r : Rs U} (h : t st L = .ok true L1) (k : fa st L1 = r) : eIf t fa fb st L = r := by
  unfold eIf; rw [h]; exact k
theorem eif_f {t : TF} {r : Rs U} (h : t st L = .ok false L1) (k : fb st L1 = r) : eIf t fa fb st L = r := by
  unfold eIf; rw [h]; exact k
theorem or_t {a b : TF} (h : a st L = .ok true L1) : bOr a b st L = .ok true L1 := by
  unfold bOr; rw [h]; rfl
theorem or_f {a b : TF} {r : Rs Bool} (h : a st L = .ok false L1) (k : b st L1 = r) : bOr a b st L = r := by
  unfold bOr; rw [h]; exact k
theorem not_t {a : TF} (h : a st L = .ok true L1) : bNot a st L = .ok false L1 := not_ok h
theorem not_f {a : TF} (h : a st L = .ok false L1) : bNot a st L = .ok true L1 := not_ok h
theorem par2 {i j : Nat} (h1 : fa st L = .ok u L1) (h2 : fb st L1 = .ok v L2) : sPar i j (aCons fa (aCons fb aNil)) st L = .nx ((st.set i (some u)).set j (some v)) L2 := by
  simp [sPar, aCons, aNil, h1, h2, Rs.bind, ofR]
theorem chain_ok {a b c : Int} (h1 : fa st L = .ok (.d (.int a)) L1) (h2 : fb st L1 = .ok (.d (.int b)) L2) (h3 : fc st L2 = .ok (.d (.int c)) L2) : bChain leB leB fa fb fc st L = .ok (decide (a ≤ b) && decide (b ≤ c)) L2 := by
  simp only [bChain, h1, h2, Rs.bind, bop2, rdU, opt, leB]
  cases h : decide (a ≤ b)
  · rfl
  · simp only [if_true, h3, Rs.bind, bop2, rdU, opt, leB, Bool.true_and]
theorem echain_ok {a b c : Int} (h1 : fa st L = .ok (.d (.int a)) L1) (h2 : fb st L1 = .ok (.d (.int b)) L2) (h3 : fc st L2 = .ok (.d (.int c)) L2) : eChain leB leB fa fb fc st L = .ok (.d (.bl (decide (a ≤ b) && decide (b ≤ c)))) L2 := by
  simp only [eChain, h1, h2, Rs.bind, bop2, rdU, opt, leB]
  cases h : decide (a ≤ b)
  · rfl
  · simp only [if_true, h3, Rs.bind, op2, rdU, opt, leB, bD, Option.map, Bool.true_and]
theorem rest_ok {d : D} {M : LS} (h : fe st L = .ok u L1) (h2 : fzU L1 u = some (d, L2)) (h3 : L2.take L.length = M) : eRest fe st L = .ok (.d d) M := by
  unfold eRest; rw [h]; simp [Rs.bind, h2, opt, h3]
theorem meth_ok {nm : Str} {C : Addr} {ns : List Str} {xs : List D} {m : List U → List U → LS → Rs U} {n l : Nat} {fc : CF} {us ws : List U} {r : Rs U} (h1 : fo st L = .ok (.d (.ins C ns xs)) L1) (hn : nm ∉ ns) (h2 : fc st L1 = .ok (us, ws) L2) (h3 : us.length = n) (h4 : ws.length = l) (h5 : m (.d (.ins C ns xs) :: us) ws L2 = r) :
    eMeth C nm m n l fo fc st L = r := by
  unfold eMeth
  rw [h1]
  show (opt (rdU L1 (.d (.ins C ns xs))) fun d => match d with
    | .ins C' ns _ => if C' = C ∧ nm ∉ ns then (fc st L1).bind fun p L2 => (if p.1.length = n ∧ p.2.length = l then m (.d (.ins C ns xs) :: p.1) p.2 L2 else .no) else .no
    | _ => .no) = r
  simp [rdU, opt, hn, h2, Rs.bind, h3, h4, h5]
theorem prop_ok {C : Addr} {ns : List Str} {xs : List D} {m : FF} (h1 : fo st L = .ok (.d (.ins C ns xs)) L1) (h2 : m [.d (.ins C ns xs)] L1 = .ok u L2) : eProp C m fo st L = .ok u L2 := by
  simp [eProp, h1, Rs.bind, rdU, opt, h2]
theorem make_ok {C : Addr} {m : FF} {src : List Sr} {n l : Nat} {fc : CF} {us ws zs : List U} (h1 : fc st L = .ok (us, ws) L1) (h2 : us.length = n) (h3 : ws.length = l) (h4 : arrU (.l L1.length :: us) ws src = some zs) (h5 : m zs (L1 ++ [.i C [] []]) = .ok (.d .non) L2) :
    eMake C m src n l fc st L = .ok (.l L1.length) L2 := by
  unfold eMake
  rw [h1]
  simp [Rs.bind, mkF, h2, h3, h4, opt, h5]
/-- as meth_ok, what it comes to behind its arguments -/
theorem seq_ex {a b : SF} {C : Addr} {ns : List Str} {xs : List D} {st1 : SS} (h : a st L = .ex C ns xs st1 L1) : sSeq a b st L = .ex C ns xs st1 L1 := by
  unfold sSeq; rw [h]; rfl
theorem it_ok {T : IterT} {ds : List D} {M : LS} (h : fe st L = .ok u L1) (h2 : fzU L1 u = some (x, M)) (h3 : walkD T x = some ds) : iIt T fe st L = .ok ds M := by
  unfold iIt; rw [h]; simp [Rs.bind, h2, opt, h3]
theorem it_l {T : IterT} {ds : List D} (h : fe st L = .ok (.d (.lst ds)) L1) : iIt T fe st L = .ok ds L1 := it_ok h rfl rfl
theorem it_t {T : IterT} {ds : List D} (h : fe st L = .ok (.d (.tup ds)) L1) : iIt T fe st L = .ok ds L1 := it_ok h rfl rfl
theorem rngW_ok {f : AF} {i j : Int} {n : Nat} (h : f st L = .ok [.d (.int i), .d (.int j)] L1) (e : (j - i).toNat = n) : iRngW f st L = .ok (rngD i n) L1 := by
  unfold iRngW; rw [h]; simp [Rs.bind, e]
theorem for_run {fi : IF} {tf : TgF} {b : SF} {ds : List D} {r : Rt} (h : fi st L = .ok ds L1) (e : forF tf b ds st L1 = r) : sFor fi tf b st L = r := by
  unfold sFor; rw [h]; exact e
end
/-! ### loops -/
theorem forF_go {tf : TgF} {body : SF} {all : List D} (P : Nat → SS → LS → Prop) (Qr : U → LS → Prop)
    (h : ∀ j d st L, all[j]? = some d → P j st L → ∃ st1, tf d st = some st1 ∧ ((∃ st2 L2, body st1 L = .nx st2 L2 ∧ P (j + 1) st2 L2) ∨ ∃ u L2, body st1 L = .rt u L2 ∧ Qr u L2)) :
    ∀ (n i : Nat) (st : SS) (L : LS), i + n = all.length → P i st L → (∃ st' L', forF tf body (all.drop i) st L = .nx st' L' ∧ P all.length st' L') ∨ ∃ u L', forF tf body (all.drop i) st L = .rt u L' ∧ Qr u L'
  | 0, i, st, L, hn, p => by
    have e : all.drop i = [] := List.drop_eq_nil_of_le (by omega)
    have ei : i = all.length := by omega
    exact .inl ⟨st, L, by rw [e]; rfl, ei ▸ p⟩
  | n + 1, i, st, L, hn, p => by
    have hi : i < all.length := by omega
    rw [List.drop_eq_getElem_cons hi]
    obtain ⟨st1, e1, q⟩ := h i all[i] st L (List.getElem?_eq_getElem hi) p
    rcases q with ⟨st2, L2, e2, p2⟩ | ⟨u, L2, e2, q2⟩
    · rcases forF_go P Qr h n (i + 1) st2 L2 (by omega) p2 with ⟨st', L', e3, p3⟩ | ⟨u, L', e3, q3⟩
      · exact .inl ⟨st', L', by simp only [forF, e1, optS, e2, e3], p3⟩
      · exact .inr ⟨u, L', by simp only [forF, e1, optS, e2, e3], q3⟩
    · exact .inr ⟨u, L2, by simp only [forF, e1, optS, e2], q2⟩
theorem for_go {fi : IF} {tf : TgF} {body : SF} {all : List D} {st : SS} {L L1 : LS} (P : Nat → SS → LS → Prop) (Qr : U → LS → Prop) (hi : fi st L = .ok all L1) (p : P 0 st L1)
    (h : ∀ j d st L, all[j]? = some d → P j st L → ∃ st1, tf d st = some st1 ∧ ((∃ st2 L2, body st1 L = .nx st2 L2 ∧ P (j + 1) st2 L2) ∨ ∃ u L2, body st1 L = .rt u L2 ∧ Qr u L2)) :
    (∃ st' L', sFor fi tf body st L = .nx st' L' ∧ P all.length st' L') ∨ ∃ u L', sFor fi tf body st L = .rt u L' ∧ Qr u L' := by
  have := forF_go P Qr h all.length 0 st L1 (by omega) p
  rw [List.drop_zero] at this
  rcases this with ⟨st', L', e, q⟩ | ⟨u, L', e, q⟩
  · exact .inl ⟨st', L', for_run hi e, q⟩
  · exact .inr ⟨u, L', for_run hi e, q⟩
theorem for_nx {fi : IF} {tf : TgF} {body : SF} {all : List D} {st : SS} {L L1 : LS} (P : Nat → SS → LS → Prop) (hi : fi st L = .ok all L1) (p : P 0 st L1)
    (h : ∀ j d st L, all[j]? = some d → P j st L → ∃ st1 st2 L2, tf d st = some st1 ∧ body st1 L = .nx st2 L2 ∧ P (j + 1) st2 L2) :
    ∃ st' L', sFor fi tf body st L = .nx st' L' ∧ P all.length st' L' := by
  rcases for_go P (fun _ _ => False) hi p (fun j d st L e q => let ⟨st1, st2, L2, a, b, c⟩ := h j d st L e q; ⟨st1, a, .inl ⟨st2, L2, b, c⟩⟩) with r | ⟨_, _, _, z⟩
  · exact r
  · exact z.elim
theorem rng_get {lo : Int} {n j : Nat} {d : D} (h : (rngD lo n)[j]? = some d) : j < n ∧ d = .int (lo + j) := by
  unfold rngD at h
  rw [List.getElem?_map] at h
  cases e : (List.range n)[j]? with
  | none => rw [e] at h; cases h
  | some k =>
    rw [e] at h
    cases h
    have hj : j < n := by
      have := (List.getElem?_eq_some_iff.mp e).1
      simpa using this
    rw [List.getElem?_range hj] at e
    cases e
    exact ⟨hj, rfl⟩
theorem rng_len {lo : Int} {n : Nat} : (rngD lo n).length = n := by simp [rngD]
theorem while_go {t : TF} {body : SF} (P : Nat → SS → LS → Prop) (h0 : ∀ st L, P 0 st L → t st L = .ok false L) (hS : ∀ m st L, P (m + 1) st L → t st L = .ok true L ∧ ∃ st2 L2, body st L = .nx st2 L2 ∧ P m st2 L2) :
    ∀ (m n : Nat) (st : SS) (L : LS), m < n → P m st L → ∃ st' L', whileF t body n st L = .nx st' L' ∧ P 0 st' L'
  | _, 0, _, _, h, _ => by omega
  | 0, n + 1, st, L, _, p => ⟨st, L, by simp [whileF, ofR, h0 st L p], p⟩
  | m + 1, n + 1, st, L, h, p => by
    obtain ⟨e1, st2, L2, e2, p2⟩ := hS m st L p
    obtain ⟨st', L', e3, p3⟩ := while_go P h0 hS m n st2 L2 (by omega) p2
    exact ⟨st', L', by simp [whileF, ofR, e1, e2, e3], p3⟩
/-! ### ints -/
theorem toPyL_ints : ∀ (xs : List Int), toPyL (xs.map D.int) = some (xs.map PyData.int)
  | [] => rfl
  | x :: xs => by simp [toPyL, toPy, toPyL_ints xs]
theorem eqv_int (a b : Int) : PyData.eqv (.int a) (.int b) = decide (a = b) := by
  first
  | (simp [PyData.eqv]; done)
  | (rw [PyData.eqv]; by_cases h : a = b <;> simp [h])
theorem in_ints {n : Int} {xs : List Int} : inSeq (.int n) (xs.map D.int) = some (decide (n ∈ xs)) := by
  unfold inSeq
  rw [toPyL_ints]
  have hd : (PyData.int n).depth ≤ 60 := by simp [PyData.depth]
  simp only [toPy, Option.bind_some, hd, if_true, List.any_map]
  congr 1
  rw [Bool.eq_iff_iff]
  simp only [List.any_eq_true, Function.comp, eqv_int, decide_eq_true_eq]
  constructor
  · rintro ⟨x, hx, rfl⟩; exact hx
  · intro h; exact ⟨n, h, rfl⟩
theorem in_l {n : Int} {xs : List Int} : inB (.int n) (.lst (xs.map D.int)) = some (decide (n ∈ xs)) := in_ints
theorem in_t {n : Int} {xs : List Int} : inB (.int n) (.tup (xs.map D.int)) = some (decide (n ∈ xs)) := in_ints
end VL.Q

set_option Elab.async false
set_option linter.all false
set_option maxRecDepth 100000
set_option maxHeartbeats 4000000
namespace VL.P
open PySem PySem.Spec PyProof.Rows L2 VL
open PySem.W (Frag)
def topS (i : Nat) : Stmt := PySem.Challenge.pw_stayhouse_k41_whole_rows_of_stays_that_f.main.body.getD i (.Pass ⟨0, 0, 0, 0⟩)
abbrev s_ascending : Stmt := topS 32
abbrev s_is_integer : Stmt := topS 2
abbrev s_is_within : Stmt := topS 3
abbrev s_is_row : Stmt := topS 27
abbrev s_least_rows : Stmt := topS 28
abbrev s_Book_init : Stmt := inClass (topS 33) 0
abbrev s_common_round : Stmt := topS 30
abbrev s_need_book : Stmt := topS 29
abbrev s_row_of_both : Stmt := topS 31
abbrev s_Book_joined : Stmt := inClass (topS 33) 8
abbrev s_Book_or : Stmt := inClass (topS 33) 9
abbrev s_Book_row_on : Stmt := inClass (topS 33) 3
abbrev s_Stay_init : Stmt := inClass (topS 20) 0
abbrev s_Stay_nights : Stmt := inClass (topS 20) 2
abbrev s_need_stay : Stmt := topS 19
abbrev s_Book_row_for : Stmt := inClass (topS 33) 6
abbrev s_Book_fills : Stmt := inClass (topS 33) 7
abbrev s_Book_none : Stmt := inClass (topS 33) 1
abbrev s_Stay_eq : Stmt := inClass (topS 20) 8
abbrev s_Stay_moved : Stmt := inClass (topS 20) 3
abbrev s_Stay_rshift : Stmt := inClass (topS 20) 5
abbrev s_l_book : Stmt := topS 41
abbrev s_l_draw : Stmt := topS 38
abbrev s_l_let : Stmt := topS 42
abbrev s_l_fills : Stmt := topS 43
abbrev s_l_one_right : Stmt := topS 44
abbrev s_l_pen : Stmt := topS 37
abbrev s_l_rows : Stmt := topS 40
abbrev s_law : Stmt := topS 45
abbrev s_BadBook_init : Stmt := inClass (topS 7) 0
abbrev s_BadNumber_init : Stmt := inClass (topS 8) 0
abbrev s_BadStay_init : Stmt := inClass (topS 6) 0
abbrev s_TooMany_init : Stmt := inClass (topS 10) 0
theorem sc_ascending : FnScope ["row", "nights"] ["row"] (defScope s_ascending) := ⟨rfl, rfl, rfl, by decide +kernel, rfl, by decide +kernel, by decide +kernel⟩
theorem sc_is_integer : FnScope ["value"] ["value"] (defScope s_is_integer) := ⟨rfl, rfl, rfl, by decide +kernel, rfl, by decide +kernel, by decide +kernel⟩
theorem sc_is_within : FnScope ["value", "least", "most"] ["value", "least", "most"] (defScope s_is_within) := ⟨rfl, rfl, rfl, by decide +kernel, rfl, by decide +kernel, by decide +kernel⟩
theorem sc_is_row : FnScope ["value", "item"] ["value"] (defScope s_is_row) := ⟨rfl, rfl, rfl, by decide +kernel, rfl, by decide +kernel, by decide +kernel⟩
theorem sc_least_rows : FnScope ["rows", "many"] ["rows"] (defScope s_least_rows) := ⟨rfl, rfl, rfl, by decide +kernel, rfl, by decide +kernel, by decide +kernel⟩
theorem sc_Book_init : FnScope ["self", "rows", "at", "row", "found"] ["self", "rows"] (defScope s_Book_init) := ⟨rfl, rfl, rfl, by decide +kernel, rfl, by decide +kernel, by decide +kernel⟩
theorem sc_common_round : FnScope ["one", "other", "found"] ["one", "other"] (defScope s_common_round) := ⟨rfl, rfl, rfl, by decide +kernel, rfl, by decide +kernel, by decide +kernel⟩
theorem sc_need_book : FnScope ["value", "part"] ["value", "part"] (defScope s_need_book) := ⟨rfl, rfl, rfl, by decide +kernel, rfl, by decide +kernel, by decide +kernel⟩
theorem sc_row_of_both : FnScope ["mine", "its", "is_common", "nights"] ["mine", "its", "is_common"] (defScope s_row_of_both) := ⟨rfl, rfl, rfl, by decide +kernel, rfl, by decide +kernel, by decide +kernel⟩
theorem sc_Book_joined : FnScope ["self", "other", "is_common", "many", "pairs", "rows", "k", "mine", "its"] ["self", "other", "is_common"] (defScope s_Book_joined) := ⟨rfl, rfl, rfl, by decide +kernel, rfl, by decide +kernel, by decide +kernel⟩
theorem sc_Book_or : FnScope ["self", "other"] ["self", "other"] (defScope s_Book_or) := ⟨rfl, rfl, rfl, by decide +kernel, rfl, by decide +kernel, by decide +kernel⟩
theorem sc_Book_row_on : FnScope ["self", "day"] ["self", "day"] (defScope s_Book_row_on) := ⟨rfl, rfl, rfl, by decide +kernel, rfl, by decide +kernel, by decide +kernel⟩
theorem sc_Stay_init : FnScope ["self", "first", "after"] ["self", "first", "after"] (defScope s_Stay_init) := ⟨rfl, rfl, rfl, by decide +kernel, rfl, by decide +kernel, by decide +kernel⟩
theorem sc_Stay_nights : FnScope ["self"] ["self"] (defScope s_Stay_nights) := ⟨rfl, rfl, rfl, by decide +kernel, rfl, by decide +kernel, by decide +kernel⟩
theorem sc_need_stay : FnScope ["value", "part"] ["value", "part"] (defScope s_need_stay) := ⟨rfl, rfl, rfl, by decide +kernel, rfl, by decide +kernel, by decide +kernel⟩
theorem sc_Book_row_for : FnScope ["self", "stay", "came", "day", "nights", "found"] ["self", "stay"] (defScope s_Book_row_for) := ⟨rfl, rfl, rfl, by decide +kernel, rfl, by decide +kernel, by decide +kernel⟩
theorem sc_Book_fills : FnScope ["self", "stay"] ["self", "stay"] (defScope s_Book_fills) := ⟨rfl, rfl, rfl, by decide +kernel, rfl, by decide +kernel, by decide +kernel⟩
theorem sc_Book_none : FnScope [] [] (defScope s_Book_none) := ⟨rfl, rfl, rfl, by decide +kernel, rfl, by decide +kernel, by decide +kernel⟩
theorem sc_Stay_eq : FnScope ["self", "other"] ["self", "other"] (defScope s_Stay_eq) := ⟨rfl, rfl, rfl, by decide +kernel, rfl, by decide +kernel, by decide +kernel⟩
theorem sc_Stay_moved : FnScope ["self", "n"] ["self", "n"] (defScope s_Stay_moved) := ⟨rfl, rfl, rfl, by decide +kernel, rfl, by decide +kernel, by decide +kernel⟩
theorem sc_Stay_rshift : FnScope ["self", "n"] ["self", "n"] (defScope s_Stay_rshift) := ⟨rfl, rfl, rfl, by decide +kernel, rfl, by decide +kernel, by decide +kernel⟩
theorem sc_l_book : FnScope ["_law_rows_here"] ["_law_rows_here"] (defScope s_l_book) := ⟨rfl, rfl, rfl, by decide +kernel, rfl, by decide +kernel, by decide +kernel⟩
theorem sc_l_draw : FnScope ["_law_pen_here", "_law_bound", "_law_digit", "_law_used", "_law_cell", "_law_great", "_law_mixed"] ["_law_pen_here", "_law_bound"] (defScope s_l_draw) := ⟨rfl, rfl, rfl, by decide +kernel, rfl, by decide +kernel, by decide +kernel⟩
theorem sc_l_let : FnScope ["_law_rows_here", "_law_first", "_law_nights_so"] ["_law_rows_here", "_law_first", "_law_nights_so"] (defScope s_l_let) := ⟨rfl, rfl, rfl, by decide +kernel, rfl, by decide +kernel, by decide +kernel⟩
theorem sc_l_fills : FnScope ["_law_rows_here", "_law_begin", "_law_length", "_law_can", "_law_at", "_law_number"] ["_law_rows_here", "_law_begin", "_law_length"] (defScope s_l_fills) := ⟨rfl, rfl, rfl, by decide +kernel, rfl, by decide +kernel, by decide +kernel⟩
theorem sc_l_one_right : FnScope ["_law_rows_here", "_law_made", "_law_begin", "_law_length", "_law_due", "_law_asked", "_law_found", "_law_ends", "_law_one"] ["_law_rows_here", "_law_made", "_law_begin", "_law_length"] (defScope s_l_one_right) := ⟨rfl, rfl, rfl, by decide +kernel, rfl, by decide +kernel, by decide +kernel⟩
theorem sc_l_pen : FnScope ["_law_script"] ["_law_script"] (defScope s_l_pen) := ⟨rfl, rfl, rfl, by decide +kernel, rfl, by decide +kernel, by decide +kernel⟩
theorem sc_l_rows : FnScope ["_law_pen_here", "_law_most", "_law_rows_here", "_law_turn", "_law_number", "_law_row"] ["_law_pen_here", "_law_most"] (defScope s_l_rows) := ⟨rfl, rfl, rfl, by decide +kernel, rfl, by decide +kernel, by decide +kernel⟩
theorem sc_law : FnScope ["_law_script", "_law_pen_here", "_law_turn", "_law_rows_here", "_law_others", "_law_made", "_law_wide", "_law_begin", "_law_length", "_law_asked"] ["_law_script"] (defScope s_law) := ⟨rfl, rfl, rfl, by decide +kernel, rfl, by decide +kernel, by decide +kernel⟩
theorem sc_BadBook_init : SuScope ["self", "part"] ["self", "part"] (defScope s_BadBook_init) := ⟨rfl, rfl, rfl, by decide +kernel, rfl, by decide +kernel, by decide +kernel, by decide +kernel, by decide +kernel, by decide +kernel⟩
theorem sc_BadNumber_init : SuScope ["self", "value"] ["self", "value"] (defScope s_BadNumber_init) := ⟨rfl, rfl, rfl, by decide +kernel, rfl, by decide +kernel, by decide +kernel, by decide +kernel, by decide +kernel, by decide +kernel⟩
theorem sc_BadStay_init : SuScope ["self", "part"] ["self", "part"] (defScope s_BadStay_init) := ⟨rfl, rfl, rfl, by decide +kernel, rfl, by decide +kernel, by decide +kernel, by decide +kernel, by decide +kernel, by decide +kernel⟩
theorem sc_TooMany_init : SuScope ["self", "what", "most"] ["self", "what", "most"] (defScope s_TooMany_init) := ⟨rfl, rfl, rfl, by decide +kernel, rfl, by decide +kernel, by decide +kernel, by decide +kernel, by decide +kernel, by decide +kernel⟩
def isi : Isi := ⟨[((441, 88), false), ((441, 109), false), ((441, 67), false), ((441, 441), true), ((441, 278), false), ((441, 151), false), ((278, 88), false), ((278, 109), false), ((278, 67), false), ((278, 441), false), ((278, 278), true), ((278, 151), false), ((88, 88), true), ((88, 109), false), ((88, 67), false), ((88, 441), false), ((88, 278), false), ((88, 151), false), ((109, 88), false), ((109, 109), true), ((109, 67), false), ((109, 441), false), ((109, 278), false), ((109, 151), false), ((67, 88), false), ((67, 109), false), ((67, 67), true), ((67, 441), false), ((67, 278), false), ((67, 151), false), ((151, 88), false), ((151, 109), false), ((151, 67), false), ((151, 441), false), ((151, 278), false), ((151, 151), true)], [((441, "int"), false), ((441, "bool"), false), ((441, "str"), false), ((441, "list"), false), ((441, "tuple"), false), ((441, "dict"), false), ((441, "ValueError"), false), ((278, "int"), false), ((278, "bool"), false), ((278, "str"), false), ((278, "list"), false), ((278, "tuple"), false), ((278, "dict"), false), ((278, "ValueError"), false), ((88, "int"), false), ((88, "bool"), false), ((88, "str"), false), ((88, "list"), false), ((88, "tuple"), false), ((88, "dict"), false), ((88, "ValueError"), true), ((109, "int"), false), ((109, "bool"), false), ((109, "str"), false), ((109, "list"), false), ((109, "tuple"), false), ((109, "dict"), false), ((109, "ValueError"), true), ((67, "int"), false), ((67, "bool"), false), ((67, "str"), false), ((67, "list"), false), ((67, "tuple"), false), ((67, "dict"), false), ((67, "ValueError"), true), ((151, "int"), false), ((151, "bool"), false), ((151, "str"), false), ((151, "list"), false), ((151, "tuple"), false), ((151, "dict"), false), ((151, "ValueError"), true)], [88, 109, 67, 441, 278, 151]⟩
def cs_after : List Addr := [67, 88, 109, 151, 278, 441]
def cs_first : List Addr := [67, 88, 109, 151, 278, 441]
def cs_most : List Addr := [67, 88, 109, 151, 278, 441]
def cs_part : List Addr := [67, 88, 109, 151, 278, 441]
def cs_rows : List Addr := [67, 88, 109, 151, 278, 441]
def cs_value : List Addr := [67, 88, 109, 151, 278, 441]
def cs_what : List Addr := [67, 88, 109, 151, 278, 441]
def ts_Book : List Value := [.type "NoneType", .type "bool", .type "int", .type "str", .type "list", .type "tuple", .type "dict", .ref 441, .ref 278]
def ts_Stay : List Value := [.type "NoneType", .type "bool", .type "int", .type "str", .type "list", .type "tuple", .type "dict", .ref 441, .ref 278]
def mgs : List (Str × Addr) := [(("ascending" : Str), 333), (("is_integer" : Str), 28), (("is_within" : Str), 35), (("is_row" : Str), 301), (("least_rows" : Str), 308), (("common_round" : Str), 323), (("need_book" : Str), 316), (("row_of_both" : Str), 328), (("need_stay" : Str), 194), (("_law_book" : Str), 492), (("_law_draw" : Str), 473), (("_law_let" : Str), 499), (("_law_fills" : Str), 506), (("_law_one_right" : Str), 511), (("_law_pen" : Str), 466), (("_law_rows" : Str), 485), (("law" : Str), 518), (("BadBook" : Str), 88), (("BadNumber" : Str), 109), (("BadStay" : Str), 67), (("Book" : Str), 441), (("Stay" : Str), 278), (("TooMany" : Str), 151)]
def nos : List Str := ["abs", "all", "bool", "enumerate", "int", "isinstance", "len", "list", "min", "range", "repr", "set", "super", "tuple"]
def fns : List (Addr × Addr × Str) := [(333, 332, ("ascending" : Str)), (28, 27, ("is_integer" : Str)), (35, 34, ("is_within" : Str)), (301, 300, ("is_row" : Str)), (308, 307, ("least_rows" : Str)), (347, 346, ("Book.__init__" : Str)), (323, 322, ("common_round" : Str)), (316, 315, ("need_book" : Str)), (328, 327, ("row_of_both" : Str)), (407, 406, ("Book.joined" : Str)), (414, 413, ("Book.__or__" : Str)), (374, 373, ("Book.row_on" : Str)), (208, 207, ("Stay.__init__" : Str)), (225, 224, ("Stay.nights" : Str)), (194, 193, ("need_stay" : Str)), (395, 394, ("Book.row_for" : Str)), (402, 401, ("Book.fills" : Str)), (354, 353, ("Book.none" : Str)), (268, 267, ("Stay.__eq__" : Str)), (233, 232, ("Stay.moved" : Str)), (247, 246, ("Stay.__rshift__" : Str)), (492, 491, ("_law_book" : Str)), (473, 472, ("_law_draw" : Str)), (499, 498, ("_law_let" : Str)), (506, 505, ("_law_fills" : Str)), (511, 510, ("_law_one_right" : Str)), (466, 465, ("_law_pen" : Str)), (485, 484, ("_law_rows" : Str)), (518, 517, ("law" : Str))]
def itT : IterT := []
def mets : List (Addr × Str × Addr) := [(441, ("__or__" : Str), 414), (441, ("fills" : Str), 402), (441, ("joined" : Str), 407), (441, ("row_for" : Str), 395), (441, ("row_on" : Str), 374), (278, ("__eq__" : Str), 268), (278, ("__rshift__" : Str), 247), (278, ("moved" : Str), 233)]
def gints : List (Str × Int) := [(("MOST_FILLED" : Str), 2000), (("MOST_NIGHTS" : Str), 30), (("MOST_ROWS" : Str), 60)]
def gstrs : List (Str × Str) := []
def topB (K : Frag) : Bool := (mgB K mgs) && ((noB K nos) && ((fnsB K fns) && ((methB K mets) && ((intB K gints) && ((strB K gstrs) && ((ownB K 441) && ((mkB K 441 347) && ((ownB K 278) && ((mkB K 278 208) && ((naB K cs_after "after") && ((naB K cs_first "first") && ((naB K cs_most "most") && ((naB K cs_part "part") && ((naB K cs_rows "rows") && ((naB K cs_value "value") && ((naB K cs_what "what") && ((isiB K isi) && ((errB K PySem.Challenge.pw_stayhouse_k41_whole_rows_of_stays_that_f.main.file "BadBook.__init__" 88 85 84 73) && ((errB K PySem.Challenge.pw_stayhouse_k41_whole_rows_of_stays_that_f.main.file "BadNumber.__init__" 109 106 105 94) && ((errB K PySem.Challenge.pw_stayhouse_k41_whole_rows_of_stays_that_f.main.file "BadStay.__init__" 67 64 63 52) && ((errB K PySem.Challenge.pw_stayhouse_k41_whole_rows_of_stays_that_f.main.file "TooMany.__init__" 151 148 147 136) && ((ts_Book.all (fun t => PySem.W.notFirst K 441 t)) && ((ts_Stay.all (fun t => PySem.W.notFirst K 278 t)) && ((decide (PySem.W.findIn K (.ref 278) "__ne__" = some (some (.builtin "object.__ne__")))) && ((PySem.W.selfFirst K 441) && ((PySem.W.selfFirst K 278) && ((dflB K 316 [(.str "book")]) && ((dflB K 194 [(.str "stay")]) && ((propB K 278 "nights" 226 225) && ((smB K 441 "none" 356 354) && ((intRB K 278 "rshift"))))))))))))))))))))))))))))))))
structure TopB (K : Frag) : Prop where
  mg : (mgB K mgs) = true
  no : (noB K nos) = true
  fn : (fnsB K fns) = true
  me : (methB K mets) = true
  it : (intB K gints) = true
  st : (strB K gstrs) = true
  own_Book : (ownB K 441) = true
  mk_Book : (mkB K 441 347) = true
  own_Stay : (ownB K 278) = true
  mk_Stay : (mkB K 278 208) = true
  na_after : (naB K cs_after "after") = true
  na_first : (naB K cs_first "first") = true
  na_most : (naB K cs_most "most") = true
  na_part : (naB K cs_part "part") = true
  na_rows : (naB K cs_rows "rows") = true
  na_value : (naB K cs_value "value") = true
  na_what : (naB K cs_what "what") = true
  isi : (isiB K isi) = true
  err_BadBook : (errB K PySem.Challenge.pw_stayhouse_k41_whole_rows_of_stays_that_f.main.file "BadBook.__init__" 88 85 84 73) = true
  err_BadNumber : (errB K PySem.Challenge.pw_stayhouse_k41_whole_rows_of_stays_that_f.main.file "BadNumber.__init__" 109 106 105 94) = true
  err_BadStay : (errB K PySem.Challenge.pw_stayhouse_k41_whole_rows_of_stays_that_f.main.file "BadStay.__init__" 67 64 63 52) = true
  err_TooMany : (errB K PySem.Challenge.pw_stayhouse_k41_whole_rows_of_stays_that_f.main.file "TooMany.__init__" 151 148 147 136) = true
  nf_Book : (ts_Book.all (fun t => PySem.W.notFirst K 441 t)) = true
  nf_Stay : (ts_Stay.all (fun t => PySem.W.notFirst K 278 t)) = true
  ne_Stay : (decide (PySem.W.findIn K (.ref 278) "__ne__" = some (some (.builtin "object.__ne__")))) = true
  sf_Book : (PySem.W.selfFirst K 441) = true
  sf_Stay : (PySem.W.selfFirst K 278) = true
  df_need_book : (dflB K 316 [(.str "book")]) = true
  df_need_stay : (dflB K 194 [(.str "stay")]) = true
  pr_Stay_nights : (propB K 278 "nights" 226 225) = true
  sm_Book_none : (smB K 441 "none" 356 354) = true
  ir_Stay_rshift : (intRB K 278 "rshift") = true
theorem topB_of {K : Frag} (h : topB K = true) : TopB K := by
  unfold topB at h
  obtain ⟨h0, h⟩ := Bool.and_eq_true_iff.mp h
  obtain ⟨h1, h⟩ := Bool.and_eq_true_iff.mp h
  obtain ⟨h2, h⟩ := Bool.and_eq_true_iff.mp h
  obtain ⟨h3, h⟩ := Bool.and_eq_true_iff.mp h
  obtain ⟨h4, h⟩ := Bool.and_eq_true_iff.mp h
  obtain ⟨h5, h⟩ := Bool.and_eq_true_iff.mp h
  obtain ⟨h6, h⟩ := Bool.and_eq_true_iff.mp h
  obtain ⟨h7, h⟩ := Bool.and_eq_true_iff.mp h
  obtain ⟨h8, h⟩ := Bool.and_eq_true_iff.mp h
  obtain ⟨h9, h⟩ := Bool.and_eq_true_iff.mp h
  obtain ⟨h10, h⟩ := Bool.and_eq_true_iff.mp h
  obtain ⟨h11, h⟩ := Bool.and_eq_true_iff.mp h
  obtain ⟨h12, h⟩ := Bool.and_eq_true_iff.mp h
  obtain ⟨h13, h⟩ := Bool.and_eq_true_iff.mp h
  obtain ⟨h14, h⟩ := Bool.and_eq_true_iff.mp h
  obtain ⟨h15, h⟩ := Bool.and_eq_true_iff.mp h
  obtain ⟨h16, h⟩ := Bool.and_eq_true_iff.mp h
  obtain ⟨h17, h⟩ := Bool.and_eq_true_iff.mp h
  obtain ⟨h18, h⟩ := Bool.and_eq_true_iff.mp h
  obtain ⟨h19, h⟩ := Bool.and_eq_true_iff.mp h
  obtain ⟨h20, h⟩ := Bool.and_eq_true_iff.mp h
  obtain ⟨h21, h⟩ := Bool.and_eq_true_iff.mp h
  obtain ⟨h22, h⟩ := Bool.and_eq_true_iff.mp h
  obtain ⟨h23, h⟩ := Bool.and_eq_true_iff.mp h
  obtain ⟨h24, h⟩ := Bool.and_eq_true_iff.mp h
  obtain ⟨h25, h⟩ := Bool.and_eq_true_iff.mp h
  obtain ⟨h26, h⟩ := Bool.and_eq_true_iff.mp h
  obtain ⟨h27, h⟩ := Bool.and_eq_true_iff.mp h
  obtain ⟨h28, h⟩ := Bool.and_eq_true_iff.mp h
  obtain ⟨h29, h⟩ := Bool.and_eq_true_iff.mp h
  obtain ⟨h30, h⟩ := Bool.and_eq_true_iff.mp h
  exact ⟨h0, h1, h2, h3, h4, h5, h6, h7, h8, h9, h10, h11, h12, h13, h14, h15, h16, h17, h18, h19, h20, h21, h22, h23, h24, h25, h26, h27, h28, h29, h30, h⟩
structure Ad where
  d_ascending : FuncData
  d_is_integer : FuncData
  d_is_within : FuncData
  d_is_row : FuncData
  d_least_rows : FuncData
  d_Book_init : FuncData
  d_common_round : FuncData
  d_need_book : FuncData
  d_row_of_both : FuncData
  d_Book_joined : FuncData
  d_Book_or : FuncData
  d_Book_row_on : FuncData
  d_Stay_init : FuncData
  d_Stay_nights : FuncData
  d_need_stay : FuncData
  d_Book_row_for : FuncData
  d_Book_fills : FuncData
  d_Book_none : FuncData
  d_Stay_eq : FuncData
  d_Stay_moved : FuncData
  d_Stay_rshift : FuncData
  d_l_book : FuncData
  d_l_draw : FuncData
  d_l_let : FuncData
  d_l_fills : FuncData
  d_l_one_right : FuncData
  d_l_pen : FuncData
  d_l_rows : FuncData
  d_law : FuncData
  d_BadBook_init : FuncData
  d_BadNumber_init : FuncData
  d_BadStay_init : FuncData
  d_TooMany_init : FuncData
structure Tp (P : Program) (K : Frag) (mg : Str → Option Value) (a : Ad) : Prop where
  fun_ascending : Fun K "ascending" "ascending" s_ascending 333 a.d_ascending
  kp_ascending : PySem.W.keepIn K (.ref 333) = true
  mg_ascending : mg "ascending" = some (.ref 333)
  fun_is_integer : Fun K "is_integer" "is_integer" s_is_integer 28 a.d_is_integer
  kp_is_integer : PySem.W.keepIn K (.ref 28) = true
  mg_is_integer : mg "is_integer" = some (.ref 28)
  fun_is_within : Fun K "is_within" "is_within" s_is_within 35 a.d_is_within
  kp_is_within : PySem.W.keepIn K (.ref 35) = true
  mg_is_within : mg "is_within" = some (.ref 35)
  fun_is_row : Fun K "is_row" "is_row" s_is_row 301 a.d_is_row
  kp_is_row : PySem.W.keepIn K (.ref 301) = true
  mg_is_row : mg "is_row" = some (.ref 301)
  fun_least_rows : Fun K "least_rows" "least_rows" s_least_rows 308 a.d_least_rows
  kp_least_rows : PySem.W.keepIn K (.ref 308) = true
  mg_least_rows : mg "least_rows" = some (.ref 308)
  fun_Book_init : Fun K "__init__" "Book.__init__" s_Book_init 347 a.d_Book_init
  kp_Book_init : PySem.W.keepIn K (.ref 347) = true
  fun_common_round : Fun K "common_round" "common_round" s_common_round 323 a.d_common_round
  kp_common_round : PySem.W.keepIn K (.ref 323) = true
  mg_common_round : mg "common_round" = some (.ref 323)
  fun_need_book : FunE K "need_book" "need_book" s_need_book ([(.str "book")].map cstV) 316 a.d_need_book
  kp_need_book : PySem.W.keepIn K (.ref 316) = true
  mg_need_book : mg "need_book" = some (.ref 316)
  fun_row_of_both : Fun K "row_of_both" "row_of_both" s_row_of_both 328 a.d_row_of_both
  kp_row_of_both : PySem.W.keepIn K (.ref 328) = true
  mg_row_of_both : mg "row_of_both" = some (.ref 328)
  fun_Book_joined : Fun K "joined" "Book.joined" s_Book_joined 407 a.d_Book_joined
  kp_Book_joined : PySem.W.keepIn K (.ref 407) = true
  fun_Book_or : Fun K "__or__" "Book.__or__" s_Book_or 414 a.d_Book_or
  kp_Book_or : PySem.W.keepIn K (.ref 414) = true
  fun_Book_row_on : Fun K "row_on" "Book.row_on" s_Book_row_on 374 a.d_Book_row_on
  kp_Book_row_on : PySem.W.keepIn K (.ref 374) = true
  fun_Stay_init : Fun K "__init__" "Stay.__init__" s_Stay_init 208 a.d_Stay_init
  kp_Stay_init : PySem.W.keepIn K (.ref 208) = true
  fun_Stay_nights : Fun K "nights" "Stay.nights" s_Stay_nights 225 a.d_Stay_nights
  kp_Stay_nights : PySem.W.keepIn K (.ref 225) = true
  fun_need_stay : FunE K "need_stay" "need_stay" s_need_stay ([(.str "stay")].map cstV) 194 a.d_need_stay
  kp_need_stay : PySem.W.keepIn K (.ref 194) = true
  mg_need_stay : mg "need_stay" = some (.ref 194)
  fun_Book_row_for : Fun K "row_for" "Book.row_for" s_Book_row_for 395 a.d_Book_row_for
  kp_Book_row_for : PySem.W.keepIn K (.ref 395) = true
  fun_Book_fills : Fun K "fills" "Book.fills" s_Book_fills 402 a.d_Book_fills
  kp_Book_fills : PySem.W.keepIn K (.ref 402) = true
  fun_Book_none : Fun K "none" "Book.none" s_Book_none 354 a.d_Book_none
  kp_Book_none : PySem.W.keepIn K (.ref 354) = true
  fun_Stay_eq : Fun K "__eq__" "Stay.__eq__" s_Stay_eq 268 a.d_Stay_eq
  kp_Stay_eq : PySem.W.keepIn K (.ref 268) = true
  fun_Stay_moved : Fun K "moved" "Stay.moved" s_Stay_moved 233 a.d_Stay_moved
  kp_Stay_moved : PySem.W.keepIn K (.ref 233) = true
  fun_Stay_rshift : Fun K "__rshift__" "Stay.__rshift__" s_Stay_rshift 247 a.d_Stay_rshift
  kp_Stay_rshift : PySem.W.keepIn K (.ref 247) = true
  fun_l_book : Fun K "_law_book" "_law_book" s_l_book 492 a.d_l_book
  kp_l_book : PySem.W.keepIn K (.ref 492) = true
  mg__law_book : mg "_law_book" = some (.ref 492)
  fun_l_draw : Fun K "_law_draw" "_law_draw" s_l_draw 473 a.d_l_draw
  kp_l_draw : PySem.W.keepIn K (.ref 473) = true
  mg__law_draw : mg "_law_draw" = some (.ref 473)
  fun_l_let : Fun K "_law_let" "_law_let" s_l_let 499 a.d_l_let
  kp_l_let : PySem.W.keepIn K (.ref 499) = true
  mg__law_let : mg "_law_let" = some (.ref 499)
  fun_l_fills : Fun K "_law_fills" "_law_fills" s_l_fills 506 a.d_l_fills
  kp_l_fills : PySem.W.keepIn K (.ref 506) = true
  mg__law_fills : mg "_law_fills" = some (.ref 506)
  fun_l_one_right : Fun K "_law_one_right" "_law_one_right" s_l_one_right 511 a.d_l_one_right
  kp_l_one_right : PySem.W.keepIn K (.ref 511) = true
  mg__law_one_right : mg "_law_one_right" = some (.ref 511)
  fun_l_pen : Fun K "_law_pen" "_law_pen" s_l_pen 466 a.d_l_pen
  kp_l_pen : PySem.W.keepIn K (.ref 466) = true
  mg__law_pen : mg "_law_pen" = some (.ref 466)
  fun_l_rows : Fun K "_law_rows" "_law_rows" s_l_rows 485 a.d_l_rows
  kp_l_rows : PySem.W.keepIn K (.ref 485) = true
  mg__law_rows : mg "_law_rows" = some (.ref 485)
  fun_law : Fun K "law" "law" s_law 518 a.d_law
  kp_law : PySem.W.keepIn K (.ref 518) = true
  mg_law : mg "law" = some (.ref 518)
  mg_BadBook : mg "BadBook" = some (.ref 88)
  mg_BadNumber : mg "BadNumber" = some (.ref 109)
  mg_BadStay : mg "BadStay" = some (.ref 67)
  mg_Book : mg "Book" = some (.ref 441)
  mg_Stay : mg "Stay" = some (.ref 278)
  mg_TooMany : mg "TooMany" = some (.ref 151)
  own_Book : OwnC K 441
  mk_Book : Mk K 441 347
  own_Stay : OwnC K 278
  mk_Stay : Mk K 278 208
  na_after : naB K cs_after "after" = true
  na_first : naB K cs_first "first" = true
  na_most : naB K cs_most "most" = true
  na_part : naB K cs_part "part" = true
  na_rows : naB K cs_rows "rows" = true
  na_value : naB K cs_value "value" = true
  na_what : naB K cs_what "what" = true
  isi : isiB K isi = true
  err_BadBook : ErrC P K mg 88 85 "__init__" "BadBook.__init__" s_BadBook_init a.d_BadBook_init
  err_BadNumber : ErrC P K mg 109 106 "__init__" "BadNumber.__init__" s_BadNumber_init a.d_BadNumber_init
  err_BadStay : ErrC P K mg 67 64 "__init__" "BadStay.__init__" s_BadStay_init a.d_BadStay_init
  err_TooMany : ErrC P K mg 151 148 "__init__" "TooMany.__init__" s_TooMany_init a.d_TooMany_init
  me_Book_or : Meth K 441 "__or__" 414
  me_Book_fills : Meth K 441 "fills" 402
  me_Book_joined : Meth K 441 "joined" 407
  me_Book_row_for : Meth K 441 "row_for" 395
  me_Book_row_on : Meth K 441 "row_on" 374
  me_Stay_eq : Meth K 278 "__eq__" 268
  me_Stay_rshift : Meth K 278 "__rshift__" 247
  me_Stay_moved : Meth K 278 "moved" 233
  nf_Book : ∀ t ∈ ts_Book, PySem.W.notFirst K 441 t = true
  nf_Stay : ∀ t ∈ ts_Stay, PySem.W.notFirst K 278 t = true
  ne_Stay : PySem.W.findIn K (.ref 278) "__ne__" = some (some (.builtin "object.__ne__"))
  sf_Book : PySem.W.selfFirst K 441 = true
  sf_Stay : PySem.W.selfFirst K 278 = true
  pr_Stay_nights : PropOf K 278 "nights" 226 225
  sm_Book_none : SMet K 441 "none" 356 354
  ir_Stay_rshift : IntR K 278 "rshift"
  c_MOST_FILLED : ∃ t, mg "MOST_FILLED" = some (.int 2000 t)
  c_MOST_NIGHTS : ∃ t, mg "MOST_NIGHTS" = some (.int 30 t)
  c_MOST_ROWS : ∃ t, mg "MOST_ROWS" = some (.int 60 t)
  no_abs : mg "abs" = none
  no_all : mg "all" = none
  no_bool : mg "bool" = none
  no_enumerate : mg "enumerate" = none
  no_int : mg "int" = none
  no_isinstance : mg "isinstance" = none
  no_len : mg "len" = none
  no_list : mg "list" = none
  no_min : mg "min" = none
  no_range : mg "range" = none
  no_repr : mg "repr" = none
  no_set : mg "set" = none
  no_super : mg "super" = none
  no_tuple : mg "tuple" = none
section
variable {P : Program} {w : World} {K : Frag} {mg : Str → Option Value} {base : Heap} {a : Ad}
theorem b_l_pen_1 (T : Tp P K mg a) : Bk K a.d_l_pen ["_law_script"] 1 [] [.p 0] := bk_of T.fun_l_pen rfl fun _ _ _ _ _ _ us ws h1 h2 => match us, ws, h1, h2 with
  | [u0], [], _, _ => ⟨[u0], rfl, (.cons rfl .nil)⟩
theorem b_l_rows_2 (T : Tp P K mg a) : Bk K a.d_l_rows ["_law_pen_here", "_law_most"] 2 [] [.p 0, .p 1] := bk_of T.fun_l_rows rfl fun _ _ _ _ _ _ us ws h1 h2 => match us, ws, h1, h2 with
  | [u0, u1], [], _, _ => ⟨[u0, u1], rfl, (.cons rfl (.cons rfl .nil))⟩
theorem b_l_book_1 (T : Tp P K mg a) : Bk K a.d_l_book ["_law_rows_here"] 1 [] [.p 0] := bk_of T.fun_l_book rfl fun _ _ _ _ _ _ us ws h1 h2 => match us, ws, h1, h2 with
  | [u0], [], _, _ => ⟨[u0], rfl, (.cons rfl .nil)⟩
theorem b_Book_or_2 (T : Tp P K mg a) : Bk K a.d_Book_or ["self", "other"] 2 [] [.p 0, .p 1] := bk_of T.fun_Book_or rfl fun _ _ _ _ _ _ us ws h1 h2 => match us, ws, h1, h2 with
  | [u0, u1], [], _, _ => ⟨[u0, u1], rfl, (.cons rfl (.cons rfl .nil))⟩
theorem b_l_draw_2 (T : Tp P K mg a) : Bk K a.d_l_draw ["_law_pen_here", "_law_bound"] 2 [] [.p 0, .p 1] := bk_of T.fun_l_draw rfl fun _ _ _ _ _ _ us ws h1 h2 => match us, ws, h1, h2 with
  | [u0, u1], [], _, _ => ⟨[u0, u1], rfl, (.cons rfl (.cons rfl .nil))⟩
theorem b_l_one_right_4 (T : Tp P K mg a) : Bk K a.d_l_one_right ["_law_rows_here", "_law_made", "_law_begin", "_law_length"] 4 [] [.p 0, .p 1, .p 2, .p 3] := bk_of T.fun_l_one_right rfl fun _ _ _ _ _ _ us ws h1 h2 => match us, ws, h1, h2 with
  | [u0, u1, u2, u3], [], _, _ => ⟨[u0, u1, u2, u3], rfl, (.cons rfl (.cons rfl (.cons rfl (.cons rfl .nil))))⟩
theorem b_Stay_init_3 (T : Tp P K mg a) : Bk K a.d_Stay_init ["self", "first", "after"] 3 [] [.p 0, .p 1, .p 2] := bk_of T.fun_Stay_init rfl fun _ _ _ _ _ _ us ws h1 h2 => match us, ws, h1, h2 with
  | [u0, u1, u2], [], _, _ => ⟨[u0, u1, u2], rfl, (.cons rfl (.cons rfl (.cons rfl .nil)))⟩
theorem b_Book_fills_2 (T : Tp P K mg a) : Bk K a.d_Book_fills ["self", "stay"] 2 [] [.p 0, .p 1] := bk_of T.fun_Book_fills rfl fun _ _ _ _ _ _ us ws h1 h2 => match us, ws, h1, h2 with
  | [u0, u1], [], _, _ => ⟨[u0, u1], rfl, (.cons rfl (.cons rfl .nil))⟩
theorem b_Stay_rshift_2 (T : Tp P K mg a) : Bk K a.d_Stay_rshift ["self", "n"] 2 [] [.p 0, .p 1] := bk_of T.fun_Stay_rshift rfl fun _ _ _ _ _ _ us ws h1 h2 => match us, ws, h1, h2 with
  | [u0, u1], [], _, _ => ⟨[u0, u1], rfl, (.cons rfl (.cons rfl .nil))⟩
theorem b_Book_row_for_2 (T : Tp P K mg a) : Bk K a.d_Book_row_for ["self", "stay"] 2 [] [.p 0, .p 1] := bk_of T.fun_Book_row_for rfl fun _ _ _ _ _ _ us ws h1 h2 => match us, ws, h1, h2 with
  | [u0, u1], [], _, _ => ⟨[u0, u1], rfl, (.cons rfl (.cons rfl .nil))⟩
theorem b_Stay_eq_2 (T : Tp P K mg a) : Bk K a.d_Stay_eq ["self", "other"] 2 [] [.p 0, .p 1] := bk_of T.fun_Stay_eq rfl fun _ _ _ _ _ _ us ws h1 h2 => match us, ws, h1, h2 with
  | [u0, u1], [], _, _ => ⟨[u0, u1], rfl, (.cons rfl (.cons rfl .nil))⟩
theorem b_Book_none_0 (T : Tp P K mg a) : Bk K a.d_Book_none [] 0 [] [] := bk_of T.fun_Book_none rfl fun _ _ _ _ _ _ us ws h1 h2 => match us, ws, h1, h2 with
  | [], [], _, _ => ⟨[], rfl, .nil⟩
theorem b_is_row_1 (T : Tp P K mg a) : Bk K a.d_is_row ["value"] 1 [] [.p 0] := bk_of T.fun_is_row rfl fun _ _ _ _ _ _ us ws h1 h2 => match us, ws, h1, h2 with
  | [u0], [], _, _ => ⟨[u0], rfl, (.cons rfl .nil)⟩
theorem b_ascending_1 (T : Tp P K mg a) : Bk K a.d_ascending ["row"] 1 [] [.p 0] := bk_of T.fun_ascending rfl fun _ _ _ _ _ _ us ws h1 h2 => match us, ws, h1, h2 with
  | [u0], [], _, _ => ⟨[u0], rfl, (.cons rfl .nil)⟩
theorem b_least_rows_1 (T : Tp P K mg a) : Bk K a.d_least_rows ["rows"] 1 [] [.p 0] := bk_of T.fun_least_rows rfl fun _ _ _ _ _ _ us ws h1 h2 => match us, ws, h1, h2 with
  | [u0], [], _, _ => ⟨[u0], rfl, (.cons rfl .nil)⟩
theorem b_is_within_3 (T : Tp P K mg a) : Bk K a.d_is_within ["value", "least", "most"] 3 [] [.p 0, .p 1, .p 2] := bk_of T.fun_is_within rfl fun _ _ _ _ _ _ us ws h1 h2 => match us, ws, h1, h2 with
  | [u0, u1, u2], [], _, _ => ⟨[u0, u1, u2], rfl, (.cons rfl (.cons rfl (.cons rfl .nil)))⟩
theorem b_is_integer_1 (T : Tp P K mg a) : Bk K a.d_is_integer ["value"] 1 [] [.p 0] := bk_of T.fun_is_integer rfl fun _ _ _ _ _ _ us ws h1 h2 => match us, ws, h1, h2 with
  | [u0], [], _, _ => ⟨[u0], rfl, (.cons rfl .nil)⟩
theorem b_Book_joined_3 (T : Tp P K mg a) : Bk K a.d_Book_joined ["self", "other", "is_common"] 3 [] [.p 0, .p 1, .p 2] := bk_of T.fun_Book_joined rfl fun _ _ _ _ _ _ us ws h1 h2 => match us, ws, h1, h2 with
  | [u0, u1, u2], [], _, _ => ⟨[u0, u1, u2], rfl, (.cons rfl (.cons rfl (.cons rfl .nil)))⟩
theorem b_need_book_2 (T : Tp P K mg a) : Bk K a.d_need_book ["value", "part"] 2 [] [.p 0, .p 1] := bkE_of T.fun_need_book (by simp) rfl fun _ _ _ _ _ _ _ us ws its h1 h2 h3 => match us, ws, its, h1, h2, h3 with
  | [u0, u1], [], [d0], _, _, (.cons r0 .nil) => ⟨_, [u0, u1], rfl, rfl, (.cons rfl (.cons rfl .nil))⟩
theorem b_common_round_2 (T : Tp P K mg a) : Bk K a.d_common_round ["one", "other"] 2 [] [.p 0, .p 1] := bk_of T.fun_common_round rfl fun _ _ _ _ _ _ us ws h1 h2 => match us, ws, h1, h2 with
  | [u0, u1], [], _, _ => ⟨[u0, u1], rfl, (.cons rfl (.cons rfl .nil))⟩
theorem b_row_of_both_3 (T : Tp P K mg a) : Bk K a.d_row_of_both ["mine", "its", "is_common"] 3 [] [.p 0, .p 1, .p 2] := bk_of T.fun_row_of_both rfl fun _ _ _ _ _ _ us ws h1 h2 => match us, ws, h1, h2 with
  | [u0, u1, u2], [], _, _ => ⟨[u0, u1, u2], rfl, (.cons rfl (.cons rfl (.cons rfl .nil)))⟩
theorem b_need_stay_1 (T : Tp P K mg a) : Bk K a.d_need_stay ["value", "part"] 1 [] [.p 0, .c (.str "stay")] := bkE_of T.fun_need_stay (by simp) rfl fun _ _ _ _ _ _ _ us ws its h1 h2 h3 => match us, ws, its, h1, h2, h3 with
  | [u0], [], [d0], _, _, (.cons r0 .nil) => ⟨_, [u0, d0], rfl, rfl, (.cons rfl (.cons ⟨_, fun _ _ _ => rfl, r0⟩ .nil))⟩
theorem b_Stay_nights_1 (T : Tp P K mg a) : Bk K a.d_Stay_nights ["self"] 1 [] [.p 0] := bk_of T.fun_Stay_nights rfl fun _ _ _ _ _ _ us ws h1 h2 => match us, ws, h1, h2 with
  | [u0], [], _, _ => ⟨[u0], rfl, (.cons rfl .nil)⟩
theorem b_Book_row_on_2 (T : Tp P K mg a) : Bk K a.d_Book_row_on ["self", "day"] 2 [] [.p 0, .p 1] := bk_of T.fun_Book_row_on rfl fun _ _ _ _ _ _ us ws h1 h2 => match us, ws, h1, h2 with
  | [u0, u1], [], _, _ => ⟨[u0, u1], rfl, (.cons rfl (.cons rfl .nil))⟩
theorem b_Stay_moved_2 (T : Tp P K mg a) : Bk K a.d_Stay_moved ["self", "n"] 2 [] [.p 0, .p 1] := bk_of T.fun_Stay_moved rfl fun _ _ _ _ _ _ us ws h1 h2 => match us, ws, h1, h2 with
  | [u0, u1], [], _, _ => ⟨[u0, u1], rfl, (.cons rfl (.cons rfl .nil))⟩
theorem b_l_fills_3 (T : Tp P K mg a) : Bk K a.d_l_fills ["_law_rows_here", "_law_begin", "_law_length"] 3 [] [.p 0, .p 1, .p 2] := bk_of T.fun_l_fills rfl fun _ _ _ _ _ _ us ws h1 h2 => match us, ws, h1, h2 with
  | [u0, u1, u2], [], _, _ => ⟨[u0, u1, u2], rfl, (.cons rfl (.cons rfl (.cons rfl .nil)))⟩
theorem b_Book_row_for_1_stay (T : Tp P K mg a) : Bk K a.d_Book_row_for ["self", "stay"] 1 ["stay"] [.p 0, .k 0] := bk_of T.fun_Book_row_for rfl fun _ _ _ _ _ _ us ws h1 h2 => match us, ws, h1, h2 with
  | [u0], [w0], _, _ => ⟨[u0, w0], rfl, (.cons rfl (.cons rfl .nil))⟩
theorem b_l_let_3 (T : Tp P K mg a) : Bk K a.d_l_let ["_law_rows_here", "_law_first", "_law_nights_so"] 3 [] [.p 0, .p 1, .p 2] := bk_of T.fun_l_let rfl fun _ _ _ _ _ _ us ws h1 h2 => match us, ws, h1, h2 with
  | [u0, u1, u2], [], _, _ => ⟨[u0, u1, u2], rfl, (.cons rfl (.cons rfl (.cons rfl .nil)))⟩
theorem eb_BadBook (T : Tp P K mg a) : Binds K a.d_BadBook_init ["self", "part"] [] := ebinds_of T.err_BadBook fun _ _ _ _ _ _ _ us h => match us, h with
  | [u0, u1], _ => rfl
theorem x_BadBook (T : Tp P K mg a) : FnOk P w K mg base CX0 1 85 a.d_BadBook_init ["self", "part"] (spX 88 ["part"]) := fn_err (k := 0) T.err_BadBook sc_BadBook_init rfl rfl rfl rfl (fun _ _ _ => ⟨_, rfl⟩) (fun _ _ _ => rfl) (fun cda cc A outer s H b ws Q hl he hq => rest1 T.err_BadBook.oex (naB_of T.na_part 88 (by decide)) (pv 0) (pv 1) rfl hl he hq)
theorem eb_BadNumber (T : Tp P K mg a) : Binds K a.d_BadNumber_init ["self", "value"] [] := ebinds_of T.err_BadNumber fun _ _ _ _ _ _ _ us h => match us, h with
  | [u0, u1], _ => rfl
theorem x_BadNumber (T : Tp P K mg a) : FnOk P w K mg base CX0 1 106 a.d_BadNumber_init ["self", "value"] (spX 109 ["value"]) := fn_err (k := 0) T.err_BadNumber sc_BadNumber_init rfl rfl rfl rfl (fun _ _ _ => ⟨_, rfl⟩) (fun _ _ _ => rfl) (fun cda cc A outer s H b ws Q hl he hq => rest1 T.err_BadNumber.oex (naB_of T.na_value 109 (by decide)) (pv 0) (pv 1) rfl hl he hq)
theorem eb_BadStay (T : Tp P K mg a) : Binds K a.d_BadStay_init ["self", "part"] [] := ebinds_of T.err_BadStay fun _ _ _ _ _ _ _ us h => match us, h with
  | [u0, u1], _ => rfl
theorem x_BadStay (T : Tp P K mg a) : FnOk P w K mg base CX0 1 64 a.d_BadStay_init ["self", "part"] (spX 67 ["part"]) := fn_err (k := 0) T.err_BadStay sc_BadStay_init rfl rfl rfl rfl (fun _ _ _ => ⟨_, rfl⟩) (fun _ _ _ => rfl) (fun cda cc A outer s H b ws Q hl he hq => rest1 T.err_BadStay.oex (naB_of T.na_part 67 (by decide)) (pv 0) (pv 1) rfl hl he hq)
theorem eb_TooMany (T : Tp P K mg a) : Binds K a.d_TooMany_init ["self", "what", "most"] [] := ebinds_of T.err_TooMany fun _ _ _ _ _ _ _ us h => match us, h with
  | [u0, u1, u2], _ => rfl
theorem x_TooMany (T : Tp P K mg a) : FnOk P w K mg base CX0 1 148 a.d_TooMany_init ["self", "what", "most"] (spX 151 ["what", "most"]) := fn_err (k := 0) T.err_TooMany sc_TooMany_init rfl rfl rfl rfl (fun _ _ _ => ⟨_, rfl⟩) (fun _ _ _ => rfl) (fun cda cc A outer s H b ws Q hl he hq => rest2 T.err_TooMany.oex (naB_of T.na_what 151 (by decide)) (naB_of T.na_most 151 (by decide)) (pv 0) (pv 1) (pv 0) (pv 2) rfl rfl hl he hq)
theorem its_ok (T : Tp P K mg a) : OwnTs P w K mg base 1 itT := fun p hp => by cases hp
def m_ascending : FF := fnF 1 2 (sRet (eFnU tupU (aCons (eComp (iRngW (aCons (eC (.int 1)) (aCons (eBinU addU (eC (.int 30)) (eC (.int 1))) aNil))) [1] (tfName 1) (bCmp inB (eVar 1) (eVar 0)) (eVar 1)) aNil)))
theorem k_ascending (T : Tp P K mg a) (B : Bs base) : KFn P w K mg base 1 333 a.d_ascending ["row"] m_ascending :=
  kfn_of (k := 0) T.fun_ascending sc_ascending fun cdv A outer s H E hr =>
    (kss_one (ks_ret (ke_callTU cu_tuple T.no_tuple bt_tuple (ka_cons (ke_comp (own := [("nights", 1)]) sc_ascending.nd (ki_rangeW T.no_range (ka_cons ke_int (ka_cons (ke_binU op_addU (ke_gint T.c_MOST_NIGHTS) ke_int) ka_nil))) (blkOk_by (N := ["row", "nights"]) (sc := defScope s_ascending) (by decide +kernel)) (fun _ _ _ _ _ => (kg_name 1 sc_ascending.nd)) (fun _ _ _ _ _ => (kts_one (kb_cmp (od_in hr.u) (ke_var 1) (ke_var 0) (by first | exact nomark _ | rfl)))) (fun _ _ _ _ _ => (ke_var 1))) ka_nil))))
def m_is_integer : FF := fnF 1 1 (sRet (eAnd (eFn (isiT isi) (aCons (eVar 0) (aCons (eC (.ty "int")) aNil))) (eNot (eFn (isiT isi) (aCons (eVar 0) (aCons (eC (.ty "bool")) aNil))))))
theorem k_is_integer (T : Tp P K mg a) (B : Bs base) : KFn P w K mg base 1 28 a.d_is_integer ["value"] m_is_integer :=
  kfn_of (k := 0) T.fun_is_integer sc_is_integer fun cdv A outer s H E hr =>
    (kss_one (ks_ret (ke_and (ke_callB (cd_isiT T.isi) T.no_isinstance bt_isinstance (ka_cons (ke_var 0) (ka_cons (ke_ty T.no_int bt_int) ka_nil))) (ke_one (ke_not (ke_callB (cd_isiT T.isi) T.no_isinstance bt_isinstance (ka_cons (ke_var 0) (ka_cons (ke_ty T.no_bool bt_bool) ka_nil))))))))
def m_is_within : FF := fnF 3 3 (sRet (eAnd (eCall m_is_integer [.p 0] 1 0 (cPos (aCons (eVar 0) aNil))) (eChain leB leB (eVar 1) (eVar 0) (eVar 2))))
theorem k_is_within (T : Tp P K mg a) (B : Bs base) : KFn P w K mg base 2 35 a.d_is_within ["value", "least", "most"] m_is_within :=
  kfn_of (k := 1) T.fun_is_within sc_is_within fun cdv A outer s H E hr =>
    (kss_one (ks_ret (ke_and (ke_call tk_of hr ((k_is_integer T B).mono (by decide)) (b_is_integer_1 T) T.mg_is_integer T.kp_is_integer (kc_pos (ka_cons (ke_var 0) ka_nil))) (ke_one (ke_chain (od_le) (od_le) (ke_var 1) (ke_var 0) (ke_var 2))))))
def m_is_row : FF := fnF 1 2 (sSeq (sIf (bOr (bNot (bTru (eFn (isiT isi) (aCons (eVar 0) (aCons (eTup (aCons (eC (.ty "list")) (aCons (eC (.ty "tuple")) aNil))) aNil))))) (bNot (bTru (eFn allD (aCons (eComp (iIt itT (eVar 0)) [1] (tfName 1) tYesF (eCall m_is_within [.p 0, .p 1, .p 2] 3 0 (cPos (aCons (eVar 1) (aCons (eC (.int 1)) (aCons (eC (.int 30)) aNil)))))) aNil))))) (sRet (eC (.bl false))) sNil) (sRet (eCmp eqB (eUn lenSetD (eVar 0)) (eFn lenD (aCons (eVar 0) aNil)))))
theorem k_is_row (T : Tp P K mg a) (B : Bs base) : KFn P w K mg base 3 301 a.d_is_row ["value"] m_is_row :=
  kfn_of (k := 2) T.fun_is_row sc_is_row fun cdv A outer s H E hr =>
    (kss_cons (ks_if (kb_w (kw_or (kb_not (kb_tru (ke_callB (cd_isiT T.isi) T.no_isinstance bt_isinstance (ka_cons (ke_var 0) (ka_cons (ke_tup (ka_cons (ke_ty T.no_list bt_list) (ka_cons (ke_ty T.no_tuple bt_tuple) ka_nil))) ka_nil))))) (kw_or1 (kb_not (kb_tru (ke_callB (cd_all rfl) T.no_all bt_all (ka_cons (ke_comp (own := [("item", 1)]) sc_is_row.nd (ki_it (k := 1) (its_ok T) (hr.mono (by decide)) (ke_var 0)) (blkOk_by (N := ["value", "item"]) (sc := defScope s_is_row) (by decide +kernel)) (fun _ _ _ _ _ => (kg_name 1 sc_is_row.nd)) (fun _ _ _ _ _ => kts_nil) (fun _ _ _ _ _ => (ke_call tk0 hr ((k_is_within T B).mono (by decide)) (b_is_within_3 T) T.mg_is_within T.kp_is_within (kc_pos (ka_cons (ke_var 1) (ka_cons ke_int (ka_cons (ke_gint T.c_MOST_NIGHTS) ka_nil))))))) ka_nil))))))) (kss_one (ks_ret ke_bl)) kss_nil)
      (kss_one (ks_ret (ke_cmp (od_eq hr.u) (ke_lenSet T.no_len T.no_set (ke_var 0)) (ke_callB cd_len T.no_len bt_len (ka_cons (ke_var 0) ka_nil)) (by first | exact nomark _ | rfl)))))
def m_least_rows : FF := fnF 1 2 (sSeq (sFor (iRngW (aCons (eC (.int 1)) (aCons (eFn lenD (aCons (eVar 0) aNil)) aNil))) (tfName 1) (sIf (bAnd (bCmp eqB (eBin modD (eFn lenD (aCons (eVar 0) aNil)) (eVar 1)) (eC (.int 0))) (bCmp eqB (eVar 0) (eBinU mulA (eSlA (eVar 0) oNone (oSome (eVar 1))) (eBin divD (eFn lenD (aCons (eVar 0) aNil)) (eVar 1))))) (sRet (eSlA (eVar 0) oNone (oSome (eVar 1)))) sNil)) (sRet (eVar 0)))
theorem k_least_rows (T : Tp P K mg a) (B : Bs base) : KFn P w K mg base 1 308 a.d_least_rows ["rows"] m_least_rows :=
  kfn_of (k := 0) T.fun_least_rows sc_least_rows fun cdv A outer s H E hr =>
    (kss_cons (ks_for (passes_of rfl) (ki_rangeW T.no_range (ka_cons ke_int (ka_cons (ke_callB cd_len T.no_len bt_len (ka_cons (ke_var 0) ka_nil)) ka_nil))) (kg_name 1 sc_least_rows.nd) (kss_one (ks_if (kb_w (kw_and (kb_cmp (od_eq hr.u) (ke_bin od_mod (ke_callB cd_len T.no_len bt_len (ka_cons (ke_var 0) ka_nil)) (ke_var 1)) ke_int (by first | exact nomark _ | rfl)) (kw_and1 (kb_cmp (od_eq hr.u) (ke_var 0) (ke_binU op_mulA (ke_sliceA (ke_var 0) ko_none (ko_some (ke_var 1))) (ke_bin od_div (ke_callB cd_len T.no_len bt_len (ka_cons (ke_var 0) ka_nil)) (ke_var 1))) (by first | exact nomark _ | rfl))))) (kss_one (ks_ret (ke_sliceA (ke_var 0) ko_none (ko_some (ke_var 1))))) kss_nil)))
      (kss_one (ks_ret (ke_var 0))))
def m_Book_init : FF := fnF 2 5 (sSeq (sIf (bNot (bChain leB leB (eC (.int 1)) (eFn lenD (aCons (eVar 1) aNil)) (eC (.int 60)))) (sRaise 88 ["part"] (aCons (eC (.str "rows")) aNil)) sNil) (sSeq (sFor (iEnumG itT (aCons (eVar 1) aNil)) (tfTup 2 (tfCons (tfName 2) (tfCons (tfName 3) tfNil))) (sIf (bNot (bTru (eCall m_is_row [.p 0] 1 0 (cPos (aCons (eVar 3) aNil))))) (sRaise 88 ["part"] (aCons (eVar 2) aNil)) sNil)) (sSeq (sSet 4 (eLstL aNil)) (sSeq (sFor (iIt itT (eVar 1)) (tfName 3) (sDrop (eAppend (eVar 4) (eCall m_ascending [.p 0] 1 0 (cPos (aCons (eVar 3) aNil)))))) (sFld cs_rows "rows" (eVar 0) (eCall m_least_rows [.p 0] 1 0 (cPos (aCons (eFnU tupU (aCons (eVar 4) aNil)) aNil))))))))
theorem k_Book_init (T : Tp P K mg a) (B : Bs base) : KFnS P w K mg base 4 347 1 m_Book_init :=
  kfnS_of (k := 3) (ps := ["self"]) (pv := "rows") T.fun_Book_init sc_Book_init (fun kV doc pm an cdv ct => StX.bind_star1 (B := fun z => bindArgs (PySem.W.fnOf _ _ _ _ _ _ kV doc pm an cdv ct) ⟨z, []⟩) (fun _ => rfl) (fun _ _ _ => rfl)) fun cdv A outer s H E hr =>
    (kss_cons (ks_if (kb_not (kb_chain (od_le) (od_le) ke_int (ke_callB cd_len T.no_len bt_len (ka_cons (ke_var 1) ka_nil)) (ke_gint T.c_MOST_ROWS))) (kss_one (ks_raise tk_of T.err_BadBook (x_BadBook T) (hr.rm.mono (by decide)) (eb_BadBook T) T.mg_BadBook (ka_cons ke_str ka_nil))) kss_nil)
      (kss_cons (ks_for (passes_of rfl) (ki_enumG (k := 1) (its_ok T) (hr.mono (by decide)) T.no_enumerate (ka_cons (ke_var 1) ka_nil)) (kg_tup (kgs_cons (kg_name 2 sc_Book_init.nd) (kgs_cons (kg_name 3 sc_Book_init.nd) kgs_nil))) (kss_one (ks_if (kb_not (kb_tru (ke_call tk_of hr ((k_is_row T B).mono (by decide)) (b_is_row_1 T) T.mg_is_row T.kp_is_row (kc_pos (ka_cons (ke_var 3) ka_nil))))) (kss_one (ks_raise tk_of T.err_BadBook (x_BadBook T) (hr.rm.mono (by decide)) (eb_BadBook T) T.mg_BadBook (ka_cons (ke_var 2) ka_nil))) kss_nil)))
      (kss_cons (ks_set 4 sc_Book_init.nd (ke_lstL ka_nil))
      (kss_cons (ks_for (passes_of rfl) (ki_it (k := 1) (its_ok T) (hr.mono (by decide)) (ke_var 1)) (kg_name 3 sc_Book_init.nd) (kss_one (ks_expr (ke_append (ke_var 4) (ke_call tk_of hr ((k_ascending T B).mono (by decide)) (b_ascending_1 T) T.mg_ascending T.kp_ascending (kc_pos (ka_cons (ke_var 3) ka_nil)))))))
      (kss_one (ks_fldB T.na_rows (ke_var 0) (ke_call tk_of hr ((k_least_rows T B).mono (by decide)) (b_least_rows_1 T) T.mg_least_rows T.kp_least_rows (kc_pos (ka_cons (ke_callTU cu_tuple T.no_tuple bt_tuple (ka_cons (ke_var 4) ka_nil)) ka_nil)))))))))
def m_common_round : FF := fnF 2 3 (sSeq (sSet 2 (eVar 0)) (sSeq (whileF (bCmp neB (eBin modD (eVar 2) (eVar 1)) (eC (.int 0))) (sSet 2 (eBinU addU (eVar 2) (eVar 0))) 100) (sRet (eVar 2))))
theorem k_common_round (T : Tp P K mg a) (B : Bs base) : KFn P w K mg base 1 323 a.d_common_round ["one", "other"] m_common_round :=
  kfn_of (k := 0) T.fun_common_round sc_common_round fun cdv A outer s H E hr =>
    (kss_cons (ks_set 2 sc_common_round.nd (ke_var 0))
      (kss_cons (ks_while 100 (passes_of rfl) (kb_cmp (od_ne hr.u) (ke_bin od_mod (ke_var 2) (ke_var 1)) ke_int (by first | exact nomark _ | rfl)) (kss_one (ks_set 2 sc_common_round.nd (ke_binU op_addU (ke_var 2) (ke_var 0)))))
      (kss_one (ks_ret (ke_var 2)))))
def m_need_book : FF := fnF 2 2 (sIf (bNot (bTru (eFn (isiT isi) (aCons (eVar 0) (aCons (eC (.obj 441)) aNil))))) (sRaise 88 ["part"] (aCons (eVar 1) aNil)) sNil)
theorem k_need_book (T : Tp P K mg a) (B : Bs base) : KFn P w K mg base 3 316 a.d_need_book ["value", "part"] m_need_book :=
  kfnE_of (k := 2) T.fun_need_book sc_need_book fun cdv A outer s H E hr =>
    (kss_one (ks_if (kb_not (kb_tru (ke_callB (cd_isiT T.isi) T.no_isinstance bt_isinstance (ka_cons (ke_var 0) (ka_cons (ke_obj T.mg_Book) ka_nil))))) (kss_one (ks_raise tk_of T.err_BadBook (x_BadBook T) (hr.rm.mono (by decide)) (eb_BadBook T) T.mg_BadBook (ka_cons (ke_var 1) ka_nil))) kss_nil))
def m_row_of_both : FF := fnF 3 4 (sSeq (sIf (bTru (eVar 2)) (sRet (eFnU tupU (aCons (eComp (iIt itT (eVar 0)) [3] (tfName 3) (bCmp inB (eVar 3) (eVar 1)) (eVar 3)) aNil))) sNil) (sRet (eFnU tupU (aCons (eComp (iRngW (aCons (eC (.int 1)) (aCons (eBinU addU (eC (.int 30)) (eC (.int 1))) aNil))) [3] (tfName 3) (bOr (bCmp inB (eVar 3) (eVar 0)) (bCmp inB (eVar 3) (eVar 1))) (eVar 3)) aNil))))
theorem k_row_of_both (T : Tp P K mg a) (B : Bs base) : KFn P w K mg base 2 328 a.d_row_of_both ["mine", "its", "is_common"] m_row_of_both :=
  kfn_of (k := 1) T.fun_row_of_both sc_row_of_both fun cdv A outer s H E hr =>
    (kss_cons (ks_if (kb_tru (ke_var 2)) (kss_one (ks_ret (ke_callTU cu_tuple T.no_tuple bt_tuple (ka_cons (ke_comp (own := [("nights", 3)]) sc_row_of_both.nd (ki_it (k := 1) (its_ok T) (hr.mono (by decide)) (ke_var 0)) (blkOk_by (N := ["mine", "its", "is_common", "nights"]) (sc := defScope s_row_of_both) (by decide +kernel)) (fun _ _ _ _ _ => (kg_name 3 sc_row_of_both.nd)) (fun _ _ _ _ _ => (kts_one (kb_cmp (od_in hr.u) (ke_var 3) (ke_var 1) (by first | exact nomark _ | rfl)))) (fun _ _ _ _ _ => (ke_var 3))) ka_nil)))) kss_nil)
      (kss_one (ks_ret (ke_callTU cu_tuple T.no_tuple bt_tuple (ka_cons (ke_comp (own := [("nights", 3)]) sc_row_of_both.nd (ki_rangeW T.no_range (ka_cons ke_int (ka_cons (ke_binU op_addU (ke_gint T.c_MOST_NIGHTS) ke_int) ka_nil))) (blkOk_by (N := ["mine", "its", "is_common", "nights"]) (sc := defScope s_row_of_both) (by decide +kernel)) (fun _ _ _ _ _ => (kg_name 3 sc_row_of_both.nd)) (fun _ _ _ _ _ => (kts_one (kb_w (kw_or (kb_cmp (od_in hr.u) (ke_var 3) (ke_var 0) (by first | exact nomark _ | rfl)) (kw_or1 (kb_cmp (od_in hr.u) (ke_var 3) (ke_var 1) (by first | exact nomark _ | rfl))))))) (fun _ _ _ _ _ => (ke_var 3))) ka_nil)))))
def m_Book_joined : FF := fnF 3 9 (sSeq (sDrop (eCall m_need_book [.p 0, .p 1] 2 0 (cPos (aCons (eVar 1) (aCons (eC (.str "other")) aNil))))) (sSeq (sSet 3 (eCall m_common_round [.p 0, .p 1] 2 0 (cPos (aCons (eFn lenD (aCons (eUn (fldT cs_rows "rows") (eVar 0)) aNil)) (aCons (eFn lenD (aCons (eUn (fldT cs_rows "rows") (eVar 1)) aNil)) aNil))))) (sSeq (sSet 4 (eComp (iRng1 (aCons (eVar 3) aNil)) [6] (tfName 6) tYesF (eTup (aCons (eBin ixD (eUn (fldT cs_rows "rows") (eVar 0)) (eBin modD (eVar 6) (eFn lenD (aCons (eUn (fldT cs_rows "rows") (eVar 0)) aNil)))) (aCons (eBin ixD (eUn (fldT cs_rows "rows") (eVar 1)) (eBin modD (eVar 6) (eFn lenD (aCons (eUn (fldT cs_rows "rows") (eVar 1)) aNil)))) aNil))))) (sSeq (sSet 5 (eCall m_least_rows [.p 0] 1 0 (cPos (aCons (eFnU tupU (aCons (eComp (iIt itT (eVar 4)) [7, 8] (tfTup 2 (tfCons (tfName 7) (tfCons (tfName 8) tfNil))) tYesF (eCall m_row_of_both [.p 0, .p 1, .p 2] 3 0 (cPos (aCons (eVar 7) (aCons (eVar 8) (aCons (eVar 2) aNil)))))) aNil)) aNil)))) (sSeq (sIf (bCmp gtB (eFn lenD (aCons (eVar 5) aNil)) (eC (.int 60))) (sRaise 151 ["what", "most"] (aCons (eC (.str "rows")) (aCons (eC (.int 60)) aNil))) sNil) (sRet (eRest (eMakeS 441 m_Book_init (cStar (eVar 5))))))))))
theorem k_Book_joined (T : Tp P K mg a) (B : Bs base) : KFn P w K mg base 6 407 a.d_Book_joined ["self", "other", "is_common"] m_Book_joined :=
  kfn_of (k := 5) T.fun_Book_joined sc_Book_joined fun cdv A outer s H E hr =>
    (kss_cons (ks_expr (ke_call tk_of hr ((k_need_book T B).mono (by decide)) (b_need_book_2 T) T.mg_need_book T.kp_need_book (kc_pos (ka_cons (ke_var 1) (ka_cons ke_str ka_nil)))))
      (kss_cons (ks_set 3 sc_Book_joined.nd (ke_call tk_of hr ((k_common_round T B).mono (by decide)) (b_common_round_2 T) T.mg_common_round T.kp_common_round (kc_pos (ka_cons (ke_callB cd_len T.no_len bt_len (ka_cons (ke_fldT (naB_of T.na_rows) (ke_var 0)) ka_nil)) (ka_cons (ke_callB cd_len T.no_len bt_len (ka_cons (ke_fldT (naB_of T.na_rows) (ke_var 1)) ka_nil)) ka_nil)))))
      (kss_cons (ks_setComp 4 (own := [("k", 6)]) sc_Book_joined.nd (ki_range1 T.no_range (ka_cons (ke_var 3) ka_nil)) (blkOk_by (N := ["self", "other", "is_common", "many", "pairs", "rows", "k", "mine", "its"]) (sc := defScope s_Book_joined) (by decide +kernel)) (fun _ _ _ _ _ => (kg_name 6 sc_Book_joined.nd)) (fun _ _ _ _ _ => kts_nil) (fun _ _ _ _ _ => (ke_tup (ka_cons (ke_ix xd_seq (ke_fldT (naB_of T.na_rows) (ke_var 0)) (ke_bin od_mod (ke_var 6) (ke_callB cd_len T.no_len bt_len (ka_cons (ke_fldT (naB_of T.na_rows) (ke_var 0)) ka_nil)))) (ka_cons (ke_ix xd_seq (ke_fldT (naB_of T.na_rows) (ke_var 1)) (ke_bin od_mod (ke_var 6) (ke_callB cd_len T.no_len bt_len (ka_cons (ke_fldT (naB_of T.na_rows) (ke_var 1)) ka_nil)))) ka_nil)))))
      (kss_cons (ks_set 5 sc_Book_joined.nd (ke_call tk_of hr ((k_least_rows T B).mono (by decide)) (b_least_rows_1 T) T.mg_least_rows T.kp_least_rows (kc_pos (ka_cons (ke_callTU cu_tuple T.no_tuple bt_tuple (ka_cons (ke_comp (own := [("mine", 7), ("its", 8)]) sc_Book_joined.nd (ki_it (k := 1) (its_ok T) (hr.mono (by decide)) (ke_var 4)) (blkOk_by (N := ["self", "other", "is_common", "many", "pairs", "rows", "k", "mine", "its"]) (sc := defScope s_Book_joined) (by decide +kernel)) (fun _ _ _ _ _ => (kg_tup (kgs_cons (kg_name 7 sc_Book_joined.nd) (kgs_cons (kg_name 8 sc_Book_joined.nd) kgs_nil)))) (fun _ _ _ _ _ => kts_nil) (fun _ _ _ _ _ => (ke_call tk0 hr ((k_row_of_both T B).mono (by decide)) (b_row_of_both_3 T) T.mg_row_of_both T.kp_row_of_both (kc_pos (ka_cons (ke_var 7) (ka_cons (ke_var 8) (ka_cons (ke_var 2) ka_nil))))))) ka_nil)) ka_nil))))
      (kss_cons (ks_if (kb_cmp (od_gt) (ke_callB cd_len T.no_len bt_len (ka_cons (ke_var 5) ka_nil)) (ke_gint T.c_MOST_ROWS) (by first | exact nomark _ | rfl)) (kss_one (ks_raise tk_of T.err_TooMany (x_TooMany T) (hr.rm.mono (by decide)) (eb_TooMany T) T.mg_TooMany (ka_cons ke_str (ka_cons (ke_gint T.c_MOST_ROWS) ka_nil)))) kss_nil)
      (kss_one (ks_ret (ke_rest (ke_makeS tk_of (hr.mono (by decide)) T.mk_Book T.own_Book (k_Book_init T B) T.mg_Book (kc_star1 (ke_var 5)))))))))))
def m_Book_or : FF := fnF 2 2 (sRet (eMeth 441 "joined" (fun us ws L => opt (arrU us ws [.p 0, .p 1, .p 2]) fun xs => m_Book_joined xs L) 2 0 (eVar 0) (cPos (aCons (eVar 1) (aCons (eC (.bl false)) aNil)))))
theorem k_Book_or (T : Tp P K mg a) (B : Bs base) : KFn P w K mg base 8 414 a.d_Book_or ["self", "other"] m_Book_or :=
  kfn_of (k := 7) T.fun_Book_or sc_Book_or fun cdv A outer s H E hr =>
    (kss_one (ks_ret (ke_meth (C := 441) ⟨_, _, _, _, _, T.me_Book_joined, (k_Book_joined T B), b_Book_joined_3 T, rfl⟩ (hr.mono (by decide)) tk_of (ke_var 0) (kc_pos (ka_cons (ke_var 1) (ka_cons ke_bl ka_nil))))))
def m_Book_row_on : FF := fnF 2 2 (sRet (eBin ixD (eUn (fldT cs_rows "rows") (eVar 0)) (eBin modD (eVar 1) (eFn lenD (aCons (eUn (fldT cs_rows "rows") (eVar 0)) aNil)))))
theorem k_Book_row_on (T : Tp P K mg a) (B : Bs base) : KFn P w K mg base 1 374 a.d_Book_row_on ["self", "day"] m_Book_row_on :=
  kfn_of (k := 0) T.fun_Book_row_on sc_Book_row_on fun cdv A outer s H E hr =>
    (kss_one (ks_ret (ke_ix xd_seq (ke_fldT (naB_of T.na_rows) (ke_var 0)) (ke_bin od_mod (ke_var 1) (ke_callB cd_len T.no_len bt_len (ka_cons (ke_fldT (naB_of T.na_rows) (ke_var 0)) ka_nil))))))
def m_Stay_init : FF := fnF 3 3 (sSeq (sIf (bNot (bTru (eCall m_is_integer [.p 0] 1 0 (cPos (aCons (eVar 1) aNil))))) (sRaise 67 ["part"] (aCons (eC (.str "first")) aNil)) sNil) (sSeq (sIf (bOr (bNot (bTru (eCall m_is_integer [.p 0] 1 0 (cPos (aCons (eVar 2) aNil))))) (bCmp leB (eVar 2) (eVar 1))) (sRaise 67 ["part"] (aCons (eC (.str "after")) aNil)) sNil) (sSeq (sFld cs_first "first" (eVar 0) (eVar 1)) (sFld cs_after "after" (eVar 0) (eVar 2)))))
theorem k_Stay_init (T : Tp P K mg a) (B : Bs base) : KFn P w K mg base 3 208 a.d_Stay_init ["self", "first", "after"] m_Stay_init :=
  kfn_of (k := 2) T.fun_Stay_init sc_Stay_init fun cdv A outer s H E hr =>
    (kss_cons (ks_if (kb_not (kb_tru (ke_call tk_of hr ((k_is_integer T B).mono (by decide)) (b_is_integer_1 T) T.mg_is_integer T.kp_is_integer (kc_pos (ka_cons (ke_var 1) ka_nil))))) (kss_one (ks_raise tk_of T.err_BadStay (x_BadStay T) (hr.rm.mono (by decide)) (eb_BadStay T) T.mg_BadStay (ka_cons ke_str ka_nil))) kss_nil)
      (kss_cons (ks_if (kb_w (kw_or (kb_not (kb_tru (ke_call tk_of hr ((k_is_integer T B).mono (by decide)) (b_is_integer_1 T) T.mg_is_integer T.kp_is_integer (kc_pos (ka_cons (ke_var 2) ka_nil))))) (kw_or1 (kb_cmp (od_le) (ke_var 2) (ke_var 1) (by first | exact nomark _ | rfl))))) (kss_one (ks_raise tk_of T.err_BadStay (x_BadStay T) (hr.rm.mono (by decide)) (eb_BadStay T) T.mg_BadStay (ka_cons ke_str ka_nil))) kss_nil)
      (kss_cons (ks_fldB T.na_first (ke_var 0) (ke_var 1))
      (kss_one (ks_fldB T.na_after (ke_var 0) (ke_var 2))))))
def m_Stay_nights : FF := fnF 1 1 (sRet (eBin subD (eUn (fldT cs_after "after") (eVar 0)) (eUn (fldT cs_first "first") (eVar 0))))
theorem k_Stay_nights (T : Tp P K mg a) (B : Bs base) : KFn P w K mg base 1 225 a.d_Stay_nights ["self"] m_Stay_nights :=
  kfn_of (k := 0) T.fun_Stay_nights sc_Stay_nights fun cdv A outer s H E hr =>
    (kss_one (ks_ret (ke_bin od_sub (ke_fldT (naB_of T.na_after) (ke_var 0)) (ke_fldT (naB_of T.na_first) (ke_var 0)))))
def m_need_stay : FF := fnF 2 2 (sIf (bNot (bTru (eFn (isiT isi) (aCons (eVar 0) (aCons (eC (.obj 278)) aNil))))) (sRaise 67 ["part"] (aCons (eVar 1) aNil)) sNil)
theorem k_need_stay (T : Tp P K mg a) (B : Bs base) : KFn P w K mg base 3 194 a.d_need_stay ["value", "part"] m_need_stay :=
  kfnE_of (k := 2) T.fun_need_stay sc_need_stay fun cdv A outer s H E hr =>
    (kss_one (ks_if (kb_not (kb_tru (ke_callB (cd_isiT T.isi) T.no_isinstance bt_isinstance (ka_cons (ke_var 0) (ka_cons (ke_obj T.mg_Stay) ka_nil))))) (kss_one (ks_raise tk_of T.err_BadStay (x_BadStay T) (hr.rm.mono (by decide)) (eb_BadStay T) T.mg_BadStay (ka_cons (ke_var 1) ka_nil))) kss_nil))
def m_Book_row_for : FF := fnF 2 6 (sSeq (sDrop (eCall m_need_stay [.p 0, .c (.str "stay")] 1 0 (cPos (aCons (eVar 1) aNil)))) (sSeq (sIf (bCmp gtB (eProp 278 (fun us L => opt (arrU us [] [.p 0]) fun xs => m_Stay_nights xs L) (eVar 1)) (eC (.int 2000))) (sRaise 151 ["what", "most"] (aCons (eC (.str "nights")) (aCons (eC (.int 2000)) aNil))) sNil) (sSeq (sSet 2 (eDicL (((eUn (fldT cs_first "first") (eVar 1)), (eC .non)) :: []))) (sSeq (sFor (iRngW (aCons (eUn (fldT cs_first "first") (eVar 1)) (aCons (eUn (fldT cs_after "after") (eVar 1)) aNil))) (tfName 3) (sFor (iIt itT (eIf (bCmp inDicB (eVar 3) (eVar 2)) (eMeth 441 "row_on" (fun us ws L => opt (arrU us ws [.p 0, .p 1]) fun xs => m_Book_row_on xs L) 1 0 (eVar 0) (cPos (aCons (eVar 3) aNil))) (eTup aNil))) (tfName 4) (sDrop (eSetd (eVar 2) (eBinU addU (eVar 3) (eVar 4)) (eVar 3))))) (sSeq (sIf (bCmp notInDicB (eUn (fldT cs_after "after") (eVar 1)) (eVar 2)) (sRet (eC .non)) sNil) (sSeq (sPar 5 3 (aCons (eLstL aNil) (aCons (eUn (fldT cs_after "after") (eVar 1)) aNil))) (sSeq (whileF (bCmp gtB (eVar 3) (eUn (fldT cs_first "first") (eVar 1))) (sSeq (sDrop (eAppend (eVar 5) (eRest (eMake 278 m_Stay_init [.p 0, .p 1, .p 2] 2 0 (cPos (aCons (eBin ixDicD (eVar 2) (eVar 3)) (aCons (eVar 3) aNil))))))) (sSet 3 (eBin ixDicD (eVar 2) (eVar 3)))) 3000) (sRet (eFnU tupU (aCons (eRev (eVar 5)) aNil))))))))))
theorem k_Book_row_for (T : Tp P K mg a) (B : Bs base) : KFn P w K mg base 5 395 a.d_Book_row_for ["self", "stay"] m_Book_row_for :=
  kfn_of (k := 4) T.fun_Book_row_for sc_Book_row_for fun cdv A outer s H E hr =>
    (kss_cons (ks_expr (ke_call tk_of hr ((k_need_stay T B).mono (by decide)) (b_need_stay_1 T) T.mg_need_stay T.kp_need_stay (kc_pos (ka_cons (ke_var 1) ka_nil))))
      (kss_cons (ks_if (kb_cmp (od_gt) (ke_prop T.pr_Stay_nights (k_Stay_nights T B) (b_Stay_nights_1 T) (hr.mono (by decide)) (ke_var 1)) (ke_gint T.c_MOST_FILLED) (by first | exact nomark _ | rfl)) (kss_one (ks_raise tk_of T.err_TooMany (x_TooMany T) (hr.rm.mono (by decide)) (eb_TooMany T) T.mg_TooMany (ka_cons ke_str (ka_cons (ke_gint T.c_MOST_FILLED) ka_nil)))) kss_nil)
      (kss_cons (ks_set 2 sc_Book_row_for.nd (ke_dictL (kps_cons (ke_fldT (naB_of T.na_first) (ke_var 1)) ke_non kps_nil)))
      (kss_cons (ks_for (passes_of rfl) (ki_rangeW T.no_range (ka_cons (ke_fldT (naB_of T.na_first) (ke_var 1)) (ka_cons (ke_fldT (naB_of T.na_after) (ke_var 1)) ka_nil))) (kg_name 3 sc_Book_row_for.nd) (kss_one (ks_for (passes_of rfl) (ki_it (k := 1) (its_ok T) (hr.mono (by decide)) (ke_if (kb_cmp (od_inDic hr.u) (ke_var 3) (ke_var 2) (by first | exact nomark _ | rfl)) (ke_meth (C := 441) ⟨_, _, _, _, _, T.me_Book_row_on, (k_Book_row_on T B), b_Book_row_on_2 T, rfl⟩ (hr.mono (by decide)) tk_of (ke_var 0) (kc_pos (ka_cons (ke_var 3) ka_nil))) (ke_tup ka_nil))) (kg_name 4 sc_Book_row_for.nd) (kss_one (ks_expr (ke_setd (ke_var 2) (ke_binU op_addU (ke_var 3) (ke_var 4)) (ke_var 3)))))))
      (kss_cons (ks_if (kb_cmp (od_notInDic hr.u) (ke_fldT (naB_of T.na_after) (ke_var 1)) (ke_var 2) (by first | exact nomark _ | rfl)) (kss_one (ks_ret ke_non)) kss_nil)
      (kss_cons (ks_par 5 3 sc_Book_row_for.nd (ka_cons (ke_lstL ka_nil) (ka_cons (ke_fldT (naB_of T.na_after) (ke_var 1)) ka_nil)))
      (kss_cons (ks_while 3000 (passes_of rfl) (kb_cmp (od_gt) (ke_var 3) (ke_fldT (naB_of T.na_first) (ke_var 1)) (by first | exact nomark _ | rfl)) (kss_cons (ks_expr (ke_append (ke_var 5) (ke_rest (ke_make tk_of (hr.mono (by decide)) T.mk_Stay T.own_Stay (k_Stay_init T B) (b_Stay_init_3 T) T.mg_Stay (kc_pos (ka_cons (ke_ixDic hr.u (ke_var 2) (ke_var 3)) (ka_cons (ke_var 3) ka_nil)))))))
      (kss_one (ks_set 3 sc_Book_row_for.nd (ke_ixDic hr.u (ke_var 2) (ke_var 3))))))
      (kss_one (ks_ret (ke_callTU cu_tuple T.no_tuple bt_tuple (ka_cons (ke_rev (ke_var 5)) ka_nil)))))))))))
def m_Book_fills : FF := fnF 2 2 (sRet (eCmp notNonB (eMeth 441 "row_for" (fun us ws L => opt (arrU us ws [.p 0, .p 1]) fun xs => m_Book_row_for xs L) 1 0 (eVar 0) (cPos (aCons (eVar 1) aNil))) (eC .non)))
theorem k_Book_fills (T : Tp P K mg a) (B : Bs base) : KFn P w K mg base 7 402 a.d_Book_fills ["self", "stay"] m_Book_fills :=
  kfn_of (k := 6) T.fun_Book_fills sc_Book_fills fun cdv A outer s H E hr =>
    (kss_one (ks_ret (ke_cmp (od_notN) (ke_meth (C := 441) ⟨_, _, _, _, _, T.me_Book_row_for, (k_Book_row_for T B), b_Book_row_for_2 T, rfl⟩ (hr.mono (by decide)) tk_of (ke_var 0) (kc_pos (ka_cons (ke_var 1) ka_nil))) ke_non (by first | exact nomark _ | rfl))))
def m_Book_none : FF := fnF 0 0 (sRet (eRest (eMakeS 441 m_Book_init (cPos (aCons (eTup aNil) aNil)))))
theorem k_Book_none (T : Tp P K mg a) (B : Bs base) : KFn P w K mg base 6 354 a.d_Book_none [] m_Book_none :=
  kfn_of (k := 5) T.fun_Book_none sc_Book_none fun cdv A outer s H E hr =>
    (kss_one (ks_ret (ke_rest (ke_makeS tk_of (hr.mono (by decide)) T.mk_Book T.own_Book (k_Book_init T B) T.mg_Book (kc_pos (ka_cons (ke_tup ka_nil) ka_nil))))))
def m_Stay_eq : FF := fnF 2 2 (sRet (eAnd (eFn (isiT isi) (aCons (eVar 1) (aCons (eC (.obj 278)) aNil))) (eCmp eqB (eTup (aCons (eUn (fldT cs_first "first") (eVar 0)) (aCons (eUn (fldT cs_after "after") (eVar 0)) aNil))) (eTup (aCons (eUn (fldT cs_first "first") (eVar 1)) (aCons (eUn (fldT cs_after "after") (eVar 1)) aNil))))))
theorem k_Stay_eq (T : Tp P K mg a) (B : Bs base) : KFn P w K mg base 1 268 a.d_Stay_eq ["self", "other"] m_Stay_eq :=
  kfn_of (k := 0) T.fun_Stay_eq sc_Stay_eq fun cdv A outer s H E hr =>
    (kss_one (ks_ret (ke_and (ke_callB (cd_isiT T.isi) T.no_isinstance bt_isinstance (ka_cons (ke_var 1) (ka_cons (ke_obj T.mg_Stay) ka_nil))) (ke_one (ke_cmp (od_eq hr.u) (ke_tup (ka_cons (ke_fldT (naB_of T.na_first) (ke_var 0)) (ka_cons (ke_fldT (naB_of T.na_after) (ke_var 0)) ka_nil))) (ke_tup (ka_cons (ke_fldT (naB_of T.na_first) (ke_var 1)) (ka_cons (ke_fldT (naB_of T.na_after) (ke_var 1)) ka_nil))) (by first | exact nomark _ | rfl))))))
def m_Stay_moved : FF := fnF 2 2 (sSeq (sIf (bNot (bTru (eCall m_is_integer [.p 0] 1 0 (cPos (aCons (eVar 1) aNil))))) (sRaise 109 ["value"] (aCons (eVar 1) aNil)) sNil) (sRet (eRest (eMake 278 m_Stay_init [.p 0, .p 1, .p 2] 2 0 (cPos (aCons (eBinU addU (eUn (fldT cs_first "first") (eVar 0)) (eVar 1)) (aCons (eBinU addU (eUn (fldT cs_after "after") (eVar 0)) (eVar 1)) aNil)))))))
theorem k_Stay_moved (T : Tp P K mg a) (B : Bs base) : KFn P w K mg base 5 233 a.d_Stay_moved ["self", "n"] m_Stay_moved :=
  kfn_of (k := 4) T.fun_Stay_moved sc_Stay_moved fun cdv A outer s H E hr =>
    (kss_cons (ks_if (kb_not (kb_tru (ke_call tk_of hr ((k_is_integer T B).mono (by decide)) (b_is_integer_1 T) T.mg_is_integer T.kp_is_integer (kc_pos (ka_cons (ke_var 1) ka_nil))))) (kss_one (ks_raise tk_of T.err_BadNumber (x_BadNumber T) (hr.rm.mono (by decide)) (eb_BadNumber T) T.mg_BadNumber (ka_cons (ke_var 1) ka_nil))) kss_nil)
      (kss_one (ks_ret (ke_rest (ke_make tk_of (hr.mono (by decide)) T.mk_Stay T.own_Stay (k_Stay_init T B) (b_Stay_init_3 T) T.mg_Stay (kc_pos (ka_cons (ke_binU op_addU (ke_fldT (naB_of T.na_first) (ke_var 0)) (ke_var 1)) (ka_cons (ke_binU op_addU (ke_fldT (naB_of T.na_after) (ke_var 0)) (ke_var 1)) ka_nil))))))))
def m_Stay_rshift : FF := fnF 2 2 (sRet (eMeth 278 "moved" (fun us ws L => opt (arrU us ws [.p 0, .p 1]) fun xs => m_Stay_moved xs L) 1 0 (eVar 0) (cPos (aCons (eVar 1) aNil))))
theorem k_Stay_rshift (T : Tp P K mg a) (B : Bs base) : KFn P w K mg base 7 247 a.d_Stay_rshift ["self", "n"] m_Stay_rshift :=
  kfn_of (k := 6) T.fun_Stay_rshift sc_Stay_rshift fun cdv A outer s H E hr =>
    (kss_one (ks_ret (ke_meth (C := 278) ⟨_, _, _, _, _, T.me_Stay_moved, (k_Stay_moved T B), b_Stay_moved_2 T, rfl⟩ (hr.mono (by decide)) tk_of (ke_var 0) (kc_pos (ka_cons (ke_var 1) ka_nil)))))
def m_l_book : FF := fnF 1 1 (sSeq (sIf (bCmp eqB (eFn lenD (aCons (eVar 0) aNil)) (eC (.int 1))) (sRet (eRest (eMakeS 441 m_Book_init (cPos (aCons (eBin ixD (eVar 0) (eC (.int 0))) aNil))))) sNil) (sSeq (sIf (bCmp eqB (eFn lenD (aCons (eVar 0) aNil)) (eC (.int 2))) (sRet (eRest (eMakeS 441 m_Book_init (cPos (aCons (eBin ixD (eVar 0) (eC (.int 0))) (aCons (eFnU tupU (aCons (eBin ixD (eVar 0) (eC (.int 1))) aNil)) aNil)))))) sNil) (sRet (eIf (bCmp eqB (eFn lenD (aCons (eVar 0) aNil)) (eC (.int 3))) (eRest (eMakeS 441 m_Book_init (cPos (aCons (eBin ixD (eVar 0) (eC (.int 0))) (aCons (eBin ixD (eVar 0) (eC (.int 1))) (aCons (eBin ixD (eVar 0) (eC (.int 2))) aNil)))))) (eRest (eMakeS 441 m_Book_init (cPos (aCons (eBin ixD (eVar 0) (eC (.int 0))) (aCons (eBin ixD (eVar 0) (eC (.int 1))) (aCons (eBin ixD (eVar 0) (eC (.int 2))) (aCons (eBin ixD (eVar 0) (eC (.int 3))) aNil)))))))))))
theorem k_l_book (T : Tp P K mg a) (B : Bs base) : KFn P w K mg base 6 492 a.d_l_book ["_law_rows_here"] m_l_book :=
  kfn_of (k := 5) T.fun_l_book sc_l_book fun cdv A outer s H E hr =>
    (kss_cons (ks_if (kb_cmp (od_eq hr.u) (ke_callB cd_len T.no_len bt_len (ka_cons (ke_var 0) ka_nil)) ke_int (by first | exact nomark _ | rfl)) (kss_one (ks_ret (ke_rest (ke_makeS tk_of (hr.mono (by decide)) T.mk_Book T.own_Book (k_Book_init T B) T.mg_Book (kc_pos (ka_cons (ke_ix xd_seq (ke_var 0) ke_int) ka_nil)))))) kss_nil)
      (kss_cons (ks_if (kb_cmp (od_eq hr.u) (ke_callB cd_len T.no_len bt_len (ka_cons (ke_var 0) ka_nil)) ke_int (by first | exact nomark _ | rfl)) (kss_one (ks_ret (ke_rest (ke_makeS tk_of (hr.mono (by decide)) T.mk_Book T.own_Book (k_Book_init T B) T.mg_Book (kc_pos (ka_cons (ke_ix xd_seq (ke_var 0) ke_int) (ka_cons (ke_callTU cu_tuple T.no_tuple bt_tuple (ka_cons (ke_ix xd_seq (ke_var 0) ke_int) ka_nil)) ka_nil))))))) kss_nil)
      (kss_one (ks_ret (ke_if (kb_cmp (od_eq hr.u) (ke_callB cd_len T.no_len bt_len (ka_cons (ke_var 0) ka_nil)) ke_int (by first | exact nomark _ | rfl)) (ke_rest (ke_makeS tk_of (hr.mono (by decide)) T.mk_Book T.own_Book (k_Book_init T B) T.mg_Book (kc_pos (ka_cons (ke_ix xd_seq (ke_var 0) ke_int) (ka_cons (ke_ix xd_seq (ke_var 0) ke_int) (ka_cons (ke_ix xd_seq (ke_var 0) ke_int) ka_nil)))))) (ke_rest (ke_makeS tk_of (hr.mono (by decide)) T.mk_Book T.own_Book (k_Book_init T B) T.mg_Book (kc_pos (ka_cons (ke_ix xd_seq (ke_var 0) ke_int) (ka_cons (ke_ix xd_seq (ke_var 0) ke_int) (ka_cons (ke_ix xd_seq (ke_var 0) ke_int) (ka_cons (ke_ix xd_seq (ke_var 0) ke_int) ka_nil))))))))))))
def m_l_draw : FF := fnF 2 7 (sSeq (sIf (bCmp gtB (eBin ixD (eVar 0) (eC (.int 2))) (eC (.int 0))) (sSeq (sSet 2 (eBin modD (eFn intL (aCons (eBin ixD (eVar 0) (eC (.int 2))) aNil)) (eVar 1))) (sSeq (sSub (eVar 0) (eC (.int 2)) (eBin divD (eFn intL (aCons (eBin ixD (eVar 0) (eC (.int 2))) aNil)) (eVar 1))) (sRet (eVar 2)))) sNil) (sSeq (sSet 3 (eBin ixD (eVar 0) (eC (.int 1)))) (sSeq (sSub (eVar 0) (eC (.int 1)) (eBin addD (eVar 3) (eC (.int 1)))) (sSeq (sSet 4 (eBin addD (eBin mulD (eC (.int 68597)) (eVar 3)) (eC (.int 2777)))) (sSeq (sIf (bCmp neB (eBin ixD (eVar 0) (eC (.int 0))) (eLst aNil)) (sSet 4 (eBin ixD (eBin ixD (eVar 0) (eC (.int 0))) (eBin modD (eFn intL (aCons (eVar 3) aNil)) (eFn lenD (aCons (eBin ixD (eVar 0) (eC (.int 0))) aNil))))) sNil) (sSeq (sIf (bAnd (bCmp ltB (eVar 3) (eFn lenD (aCons (eBin ixD (eVar 0) (eC (.int 0))) aNil))) (bCmp geB (eFn absD (aCons (eVar 4) aNil)) (eBin powD (eC (.int 10)) (eC (.int 18))))) (sSeq (sSet 5 (eBin addD (eBin mulD (eC (.int 2)) (eBin subD (eFn absD (aCons (eVar 4) aNil)) (eBin powD (eC (.int 10)) (eC (.int 18))))) (eFn intL (aCons (eCmp ltB (eVar 4) (eC (.int 0))) aNil)))) (sSeq (sSub (eVar 0) (eC (.int 2)) (eBin divD (eFn intL (aCons (eVar 5) aNil)) (eVar 1))) (sRet (eBin modD (eFn intL (aCons (eVar 5) aNil)) (eVar 1))))) sNil) (sSeq (sSet 6 (eBin modD (eFn intL (aCons (eBin powD (eBin addD (eBin addD (eBin modD (eFn intL (aCons (eVar 4) aNil)) (eC (.int 2147483563))) (eBin mulD (eC (.int 79229)) (eVar 3))) (eC (.int 1871))) (eC (.int 5))) aNil)) (eC (.int 2147483629)))) (sSeq (sSet 6 (eBin modD (eFn intL (aCons (eBin powD (eBin addD (eBin addD (eBin mulD (eVar 6) (eBin addD (eBin mulD (eC (.int 2)) (eVar 3)) (eC (.int 499)))) (eBin mulD (eBin mulD (eC (.int 50839)) (eVar 3)) (eVar 3))) (eC (.int 113))) (eC (.int 3))) aNil)) (eC (.int 2147483587)))) (sRet (eBin modD (eFn intL (aCons (eBin divD (eVar 6) (eC (.int 32))) aNil)) (eVar 1)))))))))))
theorem k_l_draw (T : Tp P K mg a) (B : Bs base) : KFn P w K mg base 1 473 a.d_l_draw ["_law_pen_here", "_law_bound"] m_l_draw :=
  kfn_of (k := 0) T.fun_l_draw sc_l_draw fun cdv A outer s H E hr =>
    (kss_cons (ks_if (kb_cmp (od_gt) (ke_ix xd_seq (ke_var 0) ke_int) ke_int (by first | exact nomark _ | rfl)) (kss_cons (ks_set 2 sc_l_draw.nd (ke_bin od_mod (ke_callT (cd_intL B.nd) T.no_int bt_int (ka_cons (ke_ix xd_seq (ke_var 0) ke_int) ka_nil)) (ke_var 1)))
      (kss_cons (ks_sub (ke_var 0) ke_int (ke_bin od_div (ke_callT (cd_intL B.nd) T.no_int bt_int (ka_cons (ke_ix xd_seq (ke_var 0) ke_int) ka_nil)) (ke_var 1)))
      (kss_one (ks_ret (ke_var 2))))) kss_nil)
      (kss_cons (ks_set 3 sc_l_draw.nd (ke_ix xd_seq (ke_var 0) ke_int))
      (kss_cons (ks_sub (ke_var 0) ke_int (ke_bin od_add (ke_var 3) ke_int))
      (kss_cons (ks_set 4 sc_l_draw.nd (ke_bin od_add (ke_bin od_mul ke_int (ke_var 3)) ke_int))
      (kss_cons (ks_if (kb_cmp (od_ne hr.u) (ke_ix xd_seq (ke_var 0) ke_int) (ke_lst ka_nil) (by first | exact nomark _ | rfl)) (kss_one (ks_set 4 sc_l_draw.nd (ke_ix xd_seq (ke_ix xd_seq (ke_var 0) ke_int) (ke_bin od_mod (ke_callT (cd_intL B.nd) T.no_int bt_int (ka_cons (ke_var 3) ka_nil)) (ke_callB cd_len T.no_len bt_len (ka_cons (ke_ix xd_seq (ke_var 0) ke_int) ka_nil)))))) kss_nil)
      (kss_cons (ks_if (kb_w (kw_and (kb_cmp (od_lt) (ke_var 3) (ke_callB cd_len T.no_len bt_len (ka_cons (ke_ix xd_seq (ke_var 0) ke_int) ka_nil)) (by first | exact nomark _ | rfl)) (kw_and1 (kb_cmp (od_ge) (ke_callB cd_abs T.no_abs bt_abs (ka_cons (ke_var 4) ka_nil)) (ke_bin od_pow ke_int ke_int) (by first | exact nomark _ | rfl))))) (kss_cons (ks_set 5 sc_l_draw.nd (ke_bin od_add (ke_bin od_mul ke_int (ke_bin od_sub (ke_callB cd_abs T.no_abs bt_abs (ka_cons (ke_var 4) ka_nil)) (ke_bin od_pow ke_int ke_int))) (ke_callT (cd_intL B.nd) T.no_int bt_int (ka_cons (ke_cmp (od_lt) (ke_var 4) ke_int (by first | exact nomark _ | rfl)) ka_nil))))
      (kss_cons (ks_sub (ke_var 0) ke_int (ke_bin od_div (ke_callT (cd_intL B.nd) T.no_int bt_int (ka_cons (ke_var 5) ka_nil)) (ke_var 1)))
      (kss_one (ks_ret (ke_bin od_mod (ke_callT (cd_intL B.nd) T.no_int bt_int (ka_cons (ke_var 5) ka_nil)) (ke_var 1)))))) kss_nil)
      (kss_cons (ks_set 6 sc_l_draw.nd (ke_bin od_mod (ke_callT (cd_intL B.nd) T.no_int bt_int (ka_cons (ke_bin od_pow (ke_bin od_add (ke_bin od_add (ke_bin od_mod (ke_callT (cd_intL B.nd) T.no_int bt_int (ka_cons (ke_var 4) ka_nil)) ke_int) (ke_bin od_mul ke_int (ke_var 3))) ke_int) ke_int) ka_nil)) ke_int))
      (kss_cons (ks_set 6 sc_l_draw.nd (ke_bin od_mod (ke_callT (cd_intL B.nd) T.no_int bt_int (ka_cons (ke_bin od_pow (ke_bin od_add (ke_bin od_add (ke_bin od_mul (ke_var 6) (ke_bin od_add (ke_bin od_mul ke_int (ke_var 3)) ke_int)) (ke_bin od_mul (ke_bin od_mul ke_int (ke_var 3)) (ke_var 3))) ke_int) ke_int) ka_nil)) ke_int))
      (kss_one (ks_ret (ke_bin od_mod (ke_callT (cd_intL B.nd) T.no_int bt_int (ka_cons (ke_bin od_div (ke_var 6) ke_int) ka_nil)) (ke_var 1))))))))))))
def m_l_let : FF := fnF 3 3 (sRet (eCmp inB (eVar 2) (eBin ixD (eVar 0) (eBin modD (eFn intL (aCons (eVar 1) aNil)) (eFn lenD (aCons (eVar 0) aNil))))))
theorem k_l_let (T : Tp P K mg a) (B : Bs base) : KFn P w K mg base 1 499 a.d_l_let ["_law_rows_here", "_law_first", "_law_nights_so"] m_l_let :=
  kfn_of (k := 0) T.fun_l_let sc_l_let fun cdv A outer s H E hr =>
    (kss_one (ks_ret (ke_cmp (od_in hr.u) (ke_var 2) (ke_ix xd_seq (ke_var 0) (ke_bin od_mod (ke_callT (cd_intL B.nd) T.no_int bt_int (ka_cons (ke_var 1) ka_nil)) (ke_callB cd_len T.no_len bt_len (ka_cons (ke_var 0) ka_nil)))) (by first | exact nomark _ | rfl))))
def m_l_fills : FF := fnF 3 6 (sSeq (sSet 3 (eBinU catL (eLst (aCons (eC (.bl true)) aNil)) (eBinU mulA (eLst (aCons (eC (.bl false)) aNil)) (eVar 2)))) (sSeq (sFor (iRngW (aCons (eC (.int 1)) (aCons (eBinU addU (eVar 2) (eC (.int 1))) aNil))) (tfName 4) (sFor (iRngW (aCons (eC (.int 1)) (aCons (eBinU addU (eFn minA (aCons (eC (.int 5)) (aCons (eFn intL (aCons (eVar 4) aNil)) aNil))) (eC (.int 1))) aNil))) (tfName 5) (sIf (bAnd (bTru (eBin ixD (eVar 3) (eBin subD (eVar 4) (eVar 5)))) (bTru (eCall m_l_let [.p 0, .p 1, .p 2] 3 0 (cPos (aCons (eVar 0) (aCons (eBin subD (eBinU addU (eVar 1) (eVar 4)) (eVar 5)) (aCons (eVar 5) aNil))))))) (sSub (eVar 3) (eVar 4) (eC (.bl true))) sNil))) (sRet (eBin ixD (eVar 3) (eVar 2)))))
theorem k_l_fills (T : Tp P K mg a) (B : Bs base) : KFn P w K mg base 2 506 a.d_l_fills ["_law_rows_here", "_law_begin", "_law_length"] m_l_fills :=
  kfn_of (k := 1) T.fun_l_fills sc_l_fills fun cdv A outer s H E hr =>
    (kss_cons (ks_set 3 sc_l_fills.nd (ke_binU op_catL (ke_lst (ka_cons ke_bl ka_nil)) (ke_binU op_mulA (ke_lst (ka_cons ke_bl ka_nil)) (ke_var 2))))
      (kss_cons (ks_for (passes_of rfl) (ki_rangeW T.no_range (ka_cons ke_int (ka_cons (ke_binU op_addU (ke_var 2) ke_int) ka_nil))) (kg_name 4 sc_l_fills.nd) (kss_one (ks_for (passes_of rfl) (ki_rangeW T.no_range (ka_cons ke_int (ka_cons (ke_binU op_addU (ke_callB (cd_minA rfl) T.no_min bt_min (ka_cons ke_int (ka_cons (ke_callT (cd_intL B.nd) T.no_int bt_int (ka_cons (ke_var 4) ka_nil)) ka_nil))) ke_int) ka_nil))) (kg_name 5 sc_l_fills.nd) (kss_one (ks_if (kb_w (kw_and (kb_tru (ke_ix xd_seq (ke_var 3) (ke_bin od_sub (ke_var 4) (ke_var 5)))) (kw_and1 (kb_tru (ke_call tk_of hr ((k_l_let T B).mono (by decide)) (b_l_let_3 T) T.mg__law_let T.kp_l_let (kc_pos (ka_cons (ke_var 0) (ka_cons (ke_bin od_sub (ke_binU op_addU (ke_var 1) (ke_var 4)) (ke_var 5)) (ka_cons (ke_var 5) ka_nil))))))))) (kss_one (ks_sub (ke_var 3) (ke_var 4) ke_bl)) kss_nil)))))
      (kss_one (ks_ret (ke_ix xd_seq (ke_var 3) (ke_var 2))))))
def m_l_one_right : FF := fnF 4 9 (sSeq (sPar 4 5 (aCons (eCall m_l_fills [.p 0, .p 1, .p 2] 3 0 (cPos (aCons (eVar 0) (aCons (eVar 2) (aCons (eVar 3) aNil))))) (aCons (eRest (eMake 278 m_Stay_init [.p 0, .p 1, .p 2] 2 0 (cPos (aCons (eVar 2) (aCons (eBinU addU (eVar 2) (eVar 3)) aNil))))) aNil))) (sSeq (sSet 6 (eMeth 441 "row_for" (fun us ws L => opt (arrU us ws [.p 0, .p 1]) fun xs => m_Book_row_for xs L) 1 0 (eVar 1) (cPos (aCons (eVar 5) aNil)))) (sSeq (sIf (bOr (bCmp neB (eFn reprR (aCons (eMeth 441 "fills" (fun us ws L => opt (arrU us ws [.p 0, .p 1]) fun xs => m_Book_fills xs L) 1 0 (eVar 1) (cPos (aCons (eVar 5) aNil))) aNil)) (eFn reprR (aCons (eVar 4) aNil))) (bOr (bCmp neB (eCmp notNonB (eVar 6) (eC .non)) (eVar 4)) (bBinU (eqTupU 278 (fun us L => opt (arrU us [] [.p 0, .p 1]) fun xs => m_Stay_eq xs L) true) (eMeth 441 "row_for" (fun us ws L => opt (arrU us ws [.p 0, .k 0]) fun xs => m_Book_row_for xs L) 0 1 (eVar 1) (cBoth aNil (aCons (eVar 5) aNil))) (eVar 6)))) (sRet (eC (.bl false))) sNil) (sSeq (sIf (bCmp isNonB (eVar 6) (eC .non)) (sRet (eC (.bl true))) sNil) (sSeq (sIf (bOr (bNot (bTru (eFn (isiT isi) (aCons (eVar 6) (aCons (eC (.ty "tuple")) aNil))))) (bCmp neB (eComp (iIt itT (eVar 6)) [8] (tfName 8) (bNot (bTru (eCall m_l_let [.p 0, .p 1, .p 2] 3 0 (cPos (aCons (eVar 0) (aCons (eUn (fldT cs_first "first") (eVar 8)) (aCons (eProp 278 (fun us L => opt (arrU us [] [.p 0]) fun xs => m_Stay_nights xs L) (eVar 8)) aNil))))))) (eVar 8)) (eLst aNil))) (sRet (eC (.bl false))) sNil) (sSeq (sSet 7 (eBinU addU (eComp (iIt itT (eVar 6)) [8] (tfName 8) tYesF (eUn (fldT cs_first "first") (eVar 8))) (eLst (aCons (eUn (fldT cs_after "after") (eVar 5)) aNil)))) (sRet (eAnd (eCmp eqB (eBin ixD (eVar 7) (eC (.int 0))) (eVar 2)) (eCmp eqB (eComp (iIt itT (eVar 6)) [8] (tfName 8) tYesF (eUn (fldT cs_after "after") (eVar 8))) (eSlA (eVar 7) (oSome (eC (.int 1))) oNone))))))))))
theorem k_l_one_right (T : Tp P K mg a) (B : Bs base) : KFn P w K mg base 9 511 a.d_l_one_right ["_law_rows_here", "_law_made", "_law_begin", "_law_length"] m_l_one_right :=
  kfn_of (k := 8) T.fun_l_one_right sc_l_one_right fun cdv A outer s H E hr =>
    (kss_cons (ks_par 4 5 sc_l_one_right.nd (ka_cons (ke_call tk_of hr ((k_l_fills T B).mono (by decide)) (b_l_fills_3 T) T.mg__law_fills T.kp_l_fills (kc_pos (ka_cons (ke_var 0) (ka_cons (ke_var 2) (ka_cons (ke_var 3) ka_nil))))) (ka_cons (ke_rest (ke_make tk_of (hr.mono (by decide)) T.mk_Stay T.own_Stay (k_Stay_init T B) (b_Stay_init_3 T) T.mg_Stay (kc_pos (ka_cons (ke_var 2) (ka_cons (ke_binU op_addU (ke_var 2) (ke_var 3)) ka_nil))))) ka_nil)))
      (kss_cons (ks_set 6 sc_l_one_right.nd (ke_meth (C := 441) ⟨_, _, _, _, _, T.me_Book_row_for, (k_Book_row_for T B), b_Book_row_for_2 T, rfl⟩ (hr.mono (by decide)) tk_of (ke_var 1) (kc_pos (ka_cons (ke_var 5) ka_nil))))
      (kss_cons (ks_if (kb_w (kw_or (kb_cmp (od_ne hr.u) (ke_callB (cd_reprR hr) T.no_repr bt_repr (ka_cons (ke_meth (C := 441) ⟨_, _, _, _, _, T.me_Book_fills, (k_Book_fills T B), b_Book_fills_2 T, rfl⟩ (hr.mono (by decide)) tk_of (ke_var 1) (kc_pos (ka_cons (ke_var 5) ka_nil))) ka_nil)) (ke_callB (cd_reprR hr) T.no_repr bt_repr (ka_cons (ke_var 4) ka_nil)) (by first | exact nomark _ | rfl)) (kw_or (kb_cmp (od_ne hr.u) (ke_cmp (od_notN) (ke_var 6) ke_non (by first | exact nomark _ | rfl)) (ke_var 4) (by first | exact nomark _ | rfl)) (kw_or1 (kb_cmpU (op_neTup (C := 278) ⟨⟨_, _, _, _, _, T.me_Stay_eq, (k_Stay_eq T B), b_Stay_eq_2 T, rfl⟩⟩ (hr.mono (by decide)) tk_of (T.nf_Stay _ (by simp [ts_Stay]))) (ke_meth (C := 441) ⟨_, _, _, _, _, T.me_Book_row_for, (k_Book_row_for T B), b_Book_row_for_1_stay T, rfl⟩ (hr.mono (by decide)) tk_of (ke_var 1) (kc_kw (kk_cons (ke_var 5) kk_nil))) (ke_var 6) (by first | exact nomark _ | rfl)))))) (kss_one (ks_ret ke_bl)) kss_nil)
      (kss_cons (ks_if (kb_cmp (od_isN) (ke_var 6) ke_non (by first | exact nomark _ | rfl)) (kss_one (ks_ret ke_bl)) kss_nil)
      (kss_cons (ks_if (kb_w (kw_or (kb_not (kb_tru (ke_callB (cd_isiT T.isi) T.no_isinstance bt_isinstance (ka_cons (ke_var 6) (ka_cons (ke_ty T.no_tuple bt_tuple) ka_nil))))) (kw_or1 (kb_cmp (od_ne hr.u) (ke_comp (own := [("_law_one", 8)]) sc_l_one_right.nd (ki_it (k := 1) (its_ok T) (hr.mono (by decide)) (ke_var 6)) (blkOk_by (N := ["_law_rows_here", "_law_made", "_law_begin", "_law_length", "_law_due", "_law_asked", "_law_found", "_law_ends", "_law_one"]) (sc := defScope s_l_one_right) (by decide +kernel)) (fun _ _ _ _ _ => (kg_name 8 sc_l_one_right.nd)) (fun _ _ _ _ _ => (kts_one (kb_not (kb_tru (ke_call tk0 hr ((k_l_let T B).mono (by decide)) (b_l_let_3 T) T.mg__law_let T.kp_l_let (kc_pos (ka_cons (ke_var 0) (ka_cons (ke_fldT (naB_of T.na_first) (ke_var 8)) (ka_cons (ke_prop T.pr_Stay_nights (k_Stay_nights T B) (b_Stay_nights_1 T) (hr.mono (by decide)) (ke_var 8)) ka_nil))))))))) (fun _ _ _ _ _ => (ke_var 8))) (ke_lst ka_nil) (by first | exact nomark _ | rfl))))) (kss_one (ks_ret ke_bl)) kss_nil)
      (kss_cons (ks_set 7 sc_l_one_right.nd (ke_binU op_addU (ke_comp (own := [("_law_one", 8)]) sc_l_one_right.nd (ki_it (k := 1) (its_ok T) (hr.mono (by decide)) (ke_var 6)) (blkOk_by (N := ["_law_rows_here", "_law_made", "_law_begin", "_law_length", "_law_due", "_law_asked", "_law_found", "_law_ends", "_law_one"]) (sc := defScope s_l_one_right) (by decide +kernel)) (fun _ _ _ _ _ => (kg_name 8 sc_l_one_right.nd)) (fun _ _ _ _ _ => kts_nil) (fun _ _ _ _ _ => (ke_fldT (naB_of T.na_first) (ke_var 8)))) (ke_lst (ka_cons (ke_fldT (naB_of T.na_after) (ke_var 5)) ka_nil))))
      (kss_one (ks_ret (ke_and (ke_cmp (od_eq hr.u) (ke_ix xd_seq (ke_var 7) ke_int) (ke_var 2) (by first | exact nomark _ | rfl)) (ke_one (ke_cmp (od_eq hr.u) (ke_comp (own := [("_law_one", 8)]) sc_l_one_right.nd (ki_it (k := 1) (its_ok T) (hr.mono (by decide)) (ke_var 6)) (blkOk_by (N := ["_law_rows_here", "_law_made", "_law_begin", "_law_length", "_law_due", "_law_asked", "_law_found", "_law_ends", "_law_one"]) (sc := defScope s_l_one_right) (by decide +kernel)) (fun _ _ _ _ _ => (kg_name 8 sc_l_one_right.nd)) (fun _ _ _ _ _ => kts_nil) (fun _ _ _ _ _ => (ke_fldT (naB_of T.na_after) (ke_var 8)))) (ke_sliceA (ke_var 7) (ko_some ke_int) ko_none) (by first | exact nomark _ | rfl))))))))))))
def m_l_pen : FF := fnF 1 1 (sRet (eLstL (aCons (eFn listD (aCons (eSlA (eVar 0) oNone (oSome (eC (.int 63)))) aNil)) (aCons (eC (.int 0)) (aCons (eC (.int 0)) aNil)))))
theorem k_l_pen (T : Tp P K mg a) (B : Bs base) : KFn P w K mg base 1 466 a.d_l_pen ["_law_script"] m_l_pen :=
  kfn_of (k := 0) T.fun_l_pen sc_l_pen fun cdv A outer s H E hr =>
    (kss_one (ks_ret (ke_lstL (ka_cons (ke_callT cd_list T.no_list bt_list (ka_cons (ke_sliceA (ke_var 0) ko_none (ko_some ke_int)) ka_nil)) (ka_cons ke_int (ka_cons ke_int ka_nil))))))
def m_l_rows : FF := fnF 2 6 (sSeq (sSet 2 (eLstL aNil)) (sSeq (sFor (iRng1 (aCons (eBinU addU (eC (.int 1)) (eCall m_l_draw [.p 0, .p 1] 2 0 (cPos (aCons (eVar 0) (aCons (eVar 1) aNil))))) aNil)) (tfName 3) (sDrop (eAppend (eVar 2) (eComp (iIt itT (eLst (aCons (eC (.int 3)) (aCons (eC (.int 1)) (aCons (eC (.int 2)) (aCons (eC (.int 5)) (aCons (eC (.int 4)) aNil))))))) [4] (tfName 4) (bCmp eqB (eCall m_l_draw [.p 0, .p 1] 2 0 (cPos (aCons (eVar 0) (aCons (eC (.int 3)) aNil)))) (eC (.int 0))) (eVar 4))))) (sRet (eRest (eIf (bCmp neB (eComp (iIt itT (eVar 2)) [5] (tfName 5) (bCmp neB (eVar 5) (eLst aNil)) (eVar 5)) (eLst aNil)) (eVar 2) (eLst (aCons (eLst (aCons (eC (.int 1)) aNil)) aNil)))))))
theorem k_l_rows (T : Tp P K mg a) (B : Bs base) : KFn P w K mg base 2 485 a.d_l_rows ["_law_pen_here", "_law_most"] m_l_rows :=
  kfn_of (k := 1) T.fun_l_rows sc_l_rows fun cdv A outer s H E hr =>
    (kss_cons (ks_set 2 sc_l_rows.nd (ke_lstL ka_nil))
      (kss_cons (ks_for (passes_of rfl) (ki_range1 T.no_range (ka_cons (ke_binU op_addU ke_int (ke_call tk_of hr ((k_l_draw T B).mono (by decide)) (b_l_draw_2 T) T.mg__law_draw T.kp_l_draw (kc_pos (ka_cons (ke_var 0) (ka_cons (ke_var 1) ka_nil))))) ka_nil)) (kg_name 3 sc_l_rows.nd) (kss_one (ks_expr (ke_append (ke_var 2) (ke_comp (own := [("_law_number", 4)]) sc_l_rows.nd (ki_it (k := 1) (its_ok T) (hr.mono (by decide)) (ke_lst (ka_cons ke_int (ka_cons ke_int (ka_cons ke_int (ka_cons ke_int (ka_cons ke_int ka_nil))))))) (blkOk_by (N := ["_law_pen_here", "_law_most", "_law_rows_here", "_law_turn", "_law_number", "_law_row"]) (sc := defScope s_l_rows) (by decide +kernel)) (fun _ _ _ _ _ => (kg_name 4 sc_l_rows.nd)) (fun _ _ _ _ _ => (kts_one (kb_cmp (od_eq hr.u) (ke_call tk0 hr ((k_l_draw T B).mono (by decide)) (b_l_draw_2 T) T.mg__law_draw T.kp_l_draw (kc_pos (ka_cons (ke_var 0) (ka_cons ke_int ka_nil)))) ke_int (by first | exact nomark _ | rfl)))) (fun _ _ _ _ _ => (ke_var 4)))))))
      (kss_one (ks_ret (ke_rest (ke_if (kb_cmp (od_ne hr.u) (ke_comp (own := [("_law_row", 5)]) sc_l_rows.nd (ki_it (k := 1) (its_ok T) (hr.mono (by decide)) (ke_var 2)) (blkOk_by (N := ["_law_pen_here", "_law_most", "_law_rows_here", "_law_turn", "_law_number", "_law_row"]) (sc := defScope s_l_rows) (by decide +kernel)) (fun _ _ _ _ _ => (kg_name 5 sc_l_rows.nd)) (fun _ _ _ _ _ => (kts_one (kb_cmp (od_ne hr.u) (ke_var 5) (ke_lst ka_nil) (by first | exact nomark _ | rfl)))) (fun _ _ _ _ _ => (ke_var 5))) (ke_lst ka_nil) (by first | exact nomark _ | rfl)) (ke_var 2) (ke_lst (ka_cons (ke_lst (ka_cons ke_int ka_nil)) ka_nil))))))))
def m_law : FF := fnF 1 10 (sSeq (sSet 1 (eCall m_l_pen [.p 0] 1 0 (cPos (aCons (eVar 0) aNil)))) (sSeq (sFor (iRng1 (aCons (eC (.int 1)) aNil)) (tfName 2) (sSeq (sPar 3 4 (aCons (eCall m_l_rows [.p 0, .p 1] 2 0 (cPos (aCons (eVar 1) (aCons (eC (.int 4)) aNil)))) (aCons (eCall m_l_rows [.p 0, .p 1] 2 0 (cPos (aCons (eVar 1) (aCons (eC (.int 4)) aNil)))) aNil))) (sSeq (sPar 5 6 (aCons (eCall m_l_book [.p 0] 1 0 (cPos (aCons (eVar 3) aNil))) (aCons (eBinU (ownOp 441 (fun us L => opt (arrU us [] [.p 0, .p 1]) fun xs => m_Book_or xs L)) (eCall m_l_book [.p 0] 1 0 (cPos (aCons (eVar 3) aNil))) (eCall m_l_book [.p 0] 1 0 (cPos (aCons (eVar 4) aNil)))) aNil))) (sSeq (sFor (iIt itT (eLst (aCons (eC (.int 0)) (aCons (eBin subD (eCall m_l_draw [.p 0, .p 1] 2 0 (cPos (aCons (eVar 1) (aCons (eC (.int 19)) aNil)))) (eC (.int 9))) (aCons (eBinU addU (eBin powD (eC (.int 10)) (eC (.int 20))) (eCall m_l_draw [.p 0, .p 1] 2 0 (cPos (aCons (eVar 1) (aCons (eC (.int 9)) aNil))))) aNil))))) (tfName 7) (sFor (iRngW (aCons (eC (.int 1)) (aCons (eC (.int 13)) aNil))) (tfName 8) (sSeq (sIf (bNot (bTru (eCall m_l_one_right [.p 0, .p 1, .p 2, .p 3] 4 0 (cPos (aCons (eVar 3) (aCons (eVar 5) (aCons (eVar 7) (aCons (eVar 8) aNil)))))))) (sRet (eC (.bl false))) sNil) (sSeq (sSet 9 (eRest (eMake 278 m_Stay_init [.p 0, .p 1, .p 2] 2 0 (cPos (aCons (eVar 7) (aCons (eBinU addU (eVar 7) (eVar 8)) aNil)))))) (sIf (bOr (bAnd (bTru (eMeth 441 "fills" (fun us ws L => opt (arrU us ws [.p 0, .p 1]) fun xs => m_Book_fills xs L) 1 0 (eVar 5) (cPos (aCons (eVar 9) aNil)))) (bNot (bTru (eMeth 441 "fills" (fun us ws L => opt (arrU us ws [.p 0, .p 1]) fun xs => m_Book_fills xs L) 1 0 (eVar 6) (cPos (aCons (eVar 9) aNil)))))) (bCmp neB (eMeth 441 "fills" (fun us ws L => opt (arrU us ws [.p 0, .p 1]) fun xs => m_Book_fills xs L) 1 0 (eVar 5) (cPos (aCons (eVar 9) aNil))) (eMeth 441 "fills" (fun us ws L => opt (arrU us ws [.p 0, .p 1]) fun xs => m_Book_fills xs L) 1 0 (eVar 5) (cPos (aCons (eBinU (ownOpI 278 (fun us L => opt (arrU us [] [.p 0, .p 1]) fun xs => m_Stay_rshift xs L)) (eVar 9) (eC (.int 12))) aNil))))) (sRet (eC (.bl false))) sNil))))) (sIf (bNot (bTru (eCall m_l_one_right [.p 0, .p 1, .p 2, .p 3] 4 0 (cPos (aCons (eVar 3) (aCons (eVar 5) (aCons (eBin subD (eCall m_l_draw [.p 0, .p 1] 2 0 (cPos (aCons (eVar 1) (aCons (eC (.int 9)) aNil)))) (eC (.int 4))) (aCons (eBinU addU (eC (.int 60)) (eCall m_l_draw [.p 0, .p 1] 2 0 (cPos (aCons (eVar 1) (aCons (eC (.int 60)) aNil))))) aNil)))))))) (sRet (eC (.bl false))) sNil))))) (sRet (eAnd (eCmp isNonB (eMeth 441 "row_for" (fun us ws L => opt (arrU us ws [.p 0, .p 1]) fun xs => m_Book_row_for xs L) 1 0 (eCall m_Book_none [] 0 0 (cPos aNil)) (cPos (aCons (eRest (eMake 278 m_Stay_init [.p 0, .p 1, .p 2] 2 0 (cPos (aCons (eC (.int 0)) (aCons (eC (.int 1)) aNil))))) aNil))) (eC .non)) (eBinU (eqTupU 278 (fun us L => opt (arrU us [] [.p 0, .p 1]) fun xs => m_Stay_eq xs L) false) (eMeth 441 "row_for" (fun us ws L => opt (arrU us ws [.p 0, .p 1]) fun xs => m_Book_row_for xs L) 1 0 (eRest (eMakeS 441 m_Book_init (cPos (aCons (eLst (aCons (eC (.int 30)) aNil)) aNil)))) (cPos (aCons (eRest (eMake 278 m_Stay_init [.p 0, .p 1, .p 2] 2 0 (cPos (aCons (eC (.int 5)) (aCons (eC (.int 65)) aNil))))) aNil))) (eTup (aCons (eRest (eMake 278 m_Stay_init [.p 0, .p 1, .p 2] 2 0 (cPos (aCons (eC (.int 5)) (aCons (eC (.int 35)) aNil))))) (aCons (eRest (eMake 278 m_Stay_init [.p 0, .p 1, .p 2] 2 0 (cPos (aCons (eC (.int 35)) (aCons (eC (.int 65)) aNil))))) aNil))))))))
theorem k_law (T : Tp P K mg a) (B : Bs base) : KFn P w K mg base 10 518 a.d_law ["_law_script"] m_law :=
  kfn_of (k := 9) T.fun_law sc_law fun cdv A outer s H E hr =>
    (kss_cons (ks_set 1 sc_law.nd (ke_call tk_of hr ((k_l_pen T B).mono (by decide)) (b_l_pen_1 T) T.mg__law_pen T.kp_l_pen (kc_pos (ka_cons (ke_var 0) ka_nil))))
      (kss_cons (ks_for (passes_of rfl) (ki_range1 T.no_range (ka_cons ke_int ka_nil)) (kg_name 2 sc_law.nd) (kss_cons (ks_par 3 4 sc_law.nd (ka_cons (ke_call tk_of hr ((k_l_rows T B).mono (by decide)) (b_l_rows_2 T) T.mg__law_rows T.kp_l_rows (kc_pos (ka_cons (ke_var 1) (ka_cons ke_int ka_nil)))) (ka_cons (ke_call tk_of hr ((k_l_rows T B).mono (by decide)) (b_l_rows_2 T) T.mg__law_rows T.kp_l_rows (kc_pos (ka_cons (ke_var 1) (ka_cons ke_int ka_nil)))) ka_nil)))
      (kss_cons (ks_par 5 6 sc_law.nd (ka_cons (ke_call tk_of hr ((k_l_book T B).mono (by decide)) (b_l_book_1 T) T.mg__law_book T.kp_l_book (kc_pos (ka_cons (ke_var 3) ka_nil))) (ka_cons (ke_binU (op_ownB (C := 441) ⟨⟨_, _, _, _, _, T.me_Book_or, (k_Book_or T B), b_Book_or_2 T, rfl⟩⟩ (hr.mono (by decide)) tk_of T.sf_Book) (ke_call tk_of hr ((k_l_book T B).mono (by decide)) (b_l_book_1 T) T.mg__law_book T.kp_l_book (kc_pos (ka_cons (ke_var 3) ka_nil))) (ke_call tk_of hr ((k_l_book T B).mono (by decide)) (b_l_book_1 T) T.mg__law_book T.kp_l_book (kc_pos (ka_cons (ke_var 4) ka_nil)))) ka_nil)))
      (kss_cons (ks_for (passes_of rfl) (ki_it (k := 1) (its_ok T) (hr.mono (by decide)) (ke_lst (ka_cons ke_int (ka_cons (ke_bin od_sub (ke_call tk_of hr ((k_l_draw T B).mono (by decide)) (b_l_draw_2 T) T.mg__law_draw T.kp_l_draw (kc_pos (ka_cons (ke_var 1) (ka_cons ke_int ka_nil)))) ke_int) (ka_cons (ke_binU op_addU (ke_bin od_pow ke_int ke_int) (ke_call tk_of hr ((k_l_draw T B).mono (by decide)) (b_l_draw_2 T) T.mg__law_draw T.kp_l_draw (kc_pos (ka_cons (ke_var 1) (ka_cons ke_int ka_nil))))) ka_nil))))) (kg_name 7 sc_law.nd) (kss_one (ks_for (passes_of rfl) (ki_rangeW T.no_range (ka_cons ke_int (ka_cons ke_int ka_nil))) (kg_name 8 sc_law.nd) (kss_cons (ks_if (kb_not (kb_tru (ke_call tk_of hr ((k_l_one_right T B).mono (by decide)) (b_l_one_right_4 T) T.mg__law_one_right T.kp_l_one_right (kc_pos (ka_cons (ke_var 3) (ka_cons (ke_var 5) (ka_cons (ke_var 7) (ka_cons (ke_var 8) ka_nil)))))))) (kss_one (ks_ret ke_bl)) kss_nil)
      (kss_cons (ks_set 9 sc_law.nd (ke_rest (ke_make tk_of (hr.mono (by decide)) T.mk_Stay T.own_Stay (k_Stay_init T B) (b_Stay_init_3 T) T.mg_Stay (kc_pos (ka_cons (ke_var 7) (ka_cons (ke_binU op_addU (ke_var 7) (ke_var 8)) ka_nil))))))
      (kss_one (ks_if (kb_w (kw_or (kb_w (kw_and (kb_tru (ke_meth (C := 441) ⟨_, _, _, _, _, T.me_Book_fills, (k_Book_fills T B), b_Book_fills_2 T, rfl⟩ (hr.mono (by decide)) tk_of (ke_var 5) (kc_pos (ka_cons (ke_var 9) ka_nil)))) (kw_and1 (kb_not (kb_tru (ke_meth (C := 441) ⟨_, _, _, _, _, T.me_Book_fills, (k_Book_fills T B), b_Book_fills_2 T, rfl⟩ (hr.mono (by decide)) tk_of (ke_var 6) (kc_pos (ka_cons (ke_var 9) ka_nil)))))))) (kw_or1 (kb_cmp (od_ne hr.u) (ke_meth (C := 441) ⟨_, _, _, _, _, T.me_Book_fills, (k_Book_fills T B), b_Book_fills_2 T, rfl⟩ (hr.mono (by decide)) tk_of (ke_var 5) (kc_pos (ka_cons (ke_var 9) ka_nil))) (ke_meth (C := 441) ⟨_, _, _, _, _, T.me_Book_fills, (k_Book_fills T B), b_Book_fills_2 T, rfl⟩ (hr.mono (by decide)) tk_of (ke_var 5) (kc_pos (ka_cons (ke_binU (op_ownOI (C := 278) ⟨⟨_, _, _, _, _, T.me_Stay_rshift, (k_Stay_rshift T B), b_Stay_rshift_2 T, rfl⟩⟩ (hr.mono (by decide)) tk_of T.ir_Stay_rshift) (ke_var 9) ke_int) ka_nil))) (by first | exact nomark _ | rfl))))) (kss_one (ks_ret ke_bl)) kss_nil)))))))
      (kss_one (ks_if (kb_not (kb_tru (ke_call tk_of hr ((k_l_one_right T B).mono (by decide)) (b_l_one_right_4 T) T.mg__law_one_right T.kp_l_one_right (kc_pos (ka_cons (ke_var 3) (ka_cons (ke_var 5) (ka_cons (ke_bin od_sub (ke_call tk_of hr ((k_l_draw T B).mono (by decide)) (b_l_draw_2 T) T.mg__law_draw T.kp_l_draw (kc_pos (ka_cons (ke_var 1) (ka_cons ke_int ka_nil)))) ke_int) (ka_cons (ke_binU op_addU ke_int (ke_call tk_of hr ((k_l_draw T B).mono (by decide)) (b_l_draw_2 T) T.mg__law_draw T.kp_l_draw (kc_pos (ka_cons (ke_var 1) (ka_cons ke_int ka_nil))))) ka_nil)))))))) (kss_one (ks_ret ke_bl)) kss_nil))))))
      (kss_one (ks_ret (ke_and (ke_cmp (od_isN) (ke_meth (C := 441) ⟨_, _, _, _, _, T.me_Book_row_for, (k_Book_row_for T B), b_Book_row_for_2 T, rfl⟩ (hr.mono (by decide)) tk_of (ke_stat T.sm_Book_none tk_of hr ((k_Book_none T B).mono (by decide)) (b_Book_none_0 T) T.mg_Book kc_nil) (kc_pos (ka_cons (ke_rest (ke_make tk_of (hr.mono (by decide)) T.mk_Stay T.own_Stay (k_Stay_init T B) (b_Stay_init_3 T) T.mg_Stay (kc_pos (ka_cons ke_int (ka_cons ke_int ka_nil))))) ka_nil))) ke_non (by first | exact nomark _ | rfl)) (ke_one (ke_cmpU (op_eqTup (C := 278) ⟨⟨_, _, _, _, _, T.me_Stay_eq, (k_Stay_eq T B), b_Stay_eq_2 T, rfl⟩⟩ (hr.mono (by decide)) tk_of (T.nf_Stay _ (by simp [ts_Stay]))) (ke_meth (C := 441) ⟨_, _, _, _, _, T.me_Book_row_for, (k_Book_row_for T B), b_Book_row_for_2 T, rfl⟩ (hr.mono (by decide)) tk_of (ke_rest (ke_makeS tk_of (hr.mono (by decide)) T.mk_Book T.own_Book (k_Book_init T B) T.mg_Book (kc_pos (ka_cons (ke_lst (ka_cons ke_int ka_nil)) ka_nil)))) (kc_pos (ka_cons (ke_rest (ke_make tk_of (hr.mono (by decide)) T.mk_Stay T.own_Stay (k_Stay_init T B) (b_Stay_init_3 T) T.mg_Stay (kc_pos (ka_cons ke_int (ka_cons ke_int ka_nil))))) ka_nil))) (ke_tup (ka_cons (ke_rest (ke_make tk_of (hr.mono (by decide)) T.mk_Stay T.own_Stay (k_Stay_init T B) (b_Stay_init_3 T) T.mg_Stay (kc_pos (ka_cons ke_int (ka_cons ke_int ka_nil))))) (ka_cons (ke_rest (ke_make tk_of (hr.mono (by decide)) T.mk_Stay T.own_Stay (k_Stay_init T B) (b_Stay_init_3 T) T.mg_Stay (kc_pos (ka_cons ke_int (ka_cons ke_int ka_nil))))) ka_nil))) (by first | exact nomark _ | rfl))))))))
end
theorem mk_tp {K : Frag} {h : Heap} {mg : Str → Option Value}
    {oc_ascending kV_ascending dc_ascending pm_ascending ct_ascending : Value} {od_ascending an_ascending : Option Addr} {sl_ascending : Array (Option Value)}
    {oc_is_integer kV_is_integer dc_is_integer pm_is_integer ct_is_integer : Value} {od_is_integer an_is_integer : Option Addr} {sl_is_integer : Array (Option Value)}
    {oc_is_within kV_is_within dc_is_within pm_is_within ct_is_within : Value} {od_is_within an_is_within : Option Addr} {sl_is_within : Array (Option Value)}
    {oc_is_row kV_is_row dc_is_row pm_is_row ct_is_row : Value} {od_is_row an_is_row : Option Addr} {sl_is_row : Array (Option Value)}
    {oc_least_rows kV_least_rows dc_least_rows pm_least_rows ct_least_rows : Value} {od_least_rows an_least_rows : Option Addr} {sl_least_rows : Array (Option Value)}
    {oc_Book_init kV_Book_init dc_Book_init pm_Book_init ct_Book_init : Value} {od_Book_init an_Book_init : Option Addr} {sl_Book_init : Array (Option Value)}
    {oc_common_round kV_common_round dc_common_round pm_common_round ct_common_round : Value} {od_common_round an_common_round : Option Addr} {sl_common_round : Array (Option Value)}
    {oc_need_book kV_need_book dc_need_book pm_need_book ct_need_book : Value} {od_need_book an_need_book : Option Addr} {sl_need_book : Array (Option Value)} {dv_need_book : Value}
    {oc_row_of_both kV_row_of_both dc_row_of_both pm_row_of_both ct_row_of_both : Value} {od_row_of_both an_row_of_both : Option Addr} {sl_row_of_both : Array (Option Value)}
    {oc_Book_joined kV_Book_joined dc_Book_joined pm_Book_joined ct_Book_joined : Value} {od_Book_joined an_Book_joined : Option Addr} {sl_Book_joined : Array (Option Value)}
    {oc_Book_or kV_Book_or dc_Book_or pm_Book_or ct_Book_or : Value} {od_Book_or an_Book_or : Option Addr} {sl_Book_or : Array (Option Value)}
    {oc_Book_row_on kV_Book_row_on dc_Book_row_on pm_Book_row_on ct_Book_row_on : Value} {od_Book_row_on an_Book_row_on : Option Addr} {sl_Book_row_on : Array (Option Value)}
    {oc_Stay_init kV_Stay_init dc_Stay_init pm_Stay_init ct_Stay_init : Value} {od_Stay_init an_Stay_init : Option Addr} {sl_Stay_init : Array (Option Value)}
    {oc_Stay_nights kV_Stay_nights dc_Stay_nights pm_Stay_nights ct_Stay_nights : Value} {od_Stay_nights an_Stay_nights : Option Addr} {sl_Stay_nights : Array (Option Value)}
    {oc_need_stay kV_need_stay dc_need_stay pm_need_stay ct_need_stay : Value} {od_need_stay an_need_stay : Option Addr} {sl_need_stay : Array (Option Value)} {dv_need_stay : Value}
    {oc_Book_row_for kV_Book_row_for dc_Book_row_for pm_Book_row_for ct_Book_row_for : Value} {od_Book_row_for an_Book_row_for : Option Addr} {sl_Book_row_for : Array (Option Value)}
    {oc_Book_fills kV_Book_fills dc_Book_fills pm_Book_fills ct_Book_fills : Value} {od_Book_fills an_Book_fills : Option Addr} {sl_Book_fills : Array (Option Value)}
    {oc_Book_none kV_Book_none dc_Book_none pm_Book_none ct_Book_none : Value} {od_Book_none an_Book_none : Option Addr} {sl_Book_none : Array (Option Value)}
    {oc_Stay_eq kV_Stay_eq dc_Stay_eq pm_Stay_eq ct_Stay_eq : Value} {od_Stay_eq an_Stay_eq : Option Addr} {sl_Stay_eq : Array (Option Value)}
    {oc_Stay_moved kV_Stay_moved dc_Stay_moved pm_Stay_moved ct_Stay_moved : Value} {od_Stay_moved an_Stay_moved : Option Addr} {sl_Stay_moved : Array (Option Value)}
    {oc_Stay_rshift kV_Stay_rshift dc_Stay_rshift pm_Stay_rshift ct_Stay_rshift : Value} {od_Stay_rshift an_Stay_rshift : Option Addr} {sl_Stay_rshift : Array (Option Value)}
    {oc_l_book kV_l_book dc_l_book pm_l_book ct_l_book : Value} {od_l_book an_l_book : Option Addr} {sl_l_book : Array (Option Value)}
    {oc_l_draw kV_l_draw dc_l_draw pm_l_draw ct_l_draw : Value} {od_l_draw an_l_draw : Option Addr} {sl_l_draw : Array (Option Value)}
    {oc_l_let kV_l_let dc_l_let pm_l_let ct_l_let : Value} {od_l_let an_l_let : Option Addr} {sl_l_let : Array (Option Value)}
    {oc_l_fills kV_l_fills dc_l_fills pm_l_fills ct_l_fills : Value} {od_l_fills an_l_fills : Option Addr} {sl_l_fills : Array (Option Value)}
    {oc_l_one_right kV_l_one_right dc_l_one_right pm_l_one_right ct_l_one_right : Value} {od_l_one_right an_l_one_right : Option Addr} {sl_l_one_right : Array (Option Value)}
    {oc_l_pen kV_l_pen dc_l_pen pm_l_pen ct_l_pen : Value} {od_l_pen an_l_pen : Option Addr} {sl_l_pen : Array (Option Value)}
    {oc_l_rows kV_l_rows dc_l_rows pm_l_rows ct_l_rows : Value} {od_l_rows an_l_rows : Option Addr} {sl_l_rows : Array (Option Value)}
    {oc_law kV_law dc_law pm_law ct_law : Value} {od_law an_law : Option Addr} {sl_law : Array (Option Value)}
    {oc_BadBook_init kV_BadBook_init dc_BadBook_init pm_BadBook_init ct_BadBook_init : Value} {od_BadBook_init an_BadBook_init : Option Addr} {sl_BadBook_init : Array (Option Value)}
    {oc_BadNumber_init kV_BadNumber_init dc_BadNumber_init pm_BadNumber_init ct_BadNumber_init : Value} {od_BadNumber_init an_BadNumber_init : Option Addr} {sl_BadNumber_init : Array (Option Value)}
    {oc_BadStay_init kV_BadStay_init dc_BadStay_init pm_BadStay_init ct_BadStay_init : Value} {od_BadStay_init an_BadStay_init : Option Addr} {sl_BadStay_init : Array (Option Value)}
    {oc_TooMany_init kV_TooMany_init dc_TooMany_init pm_TooMany_init ct_TooMany_init : Value} {od_TooMany_init an_TooMany_init : Option Addr} {sl_TooMany_init : Array (Option Value)}
    (X : K.In h) (G : h.Ns mainGlobals mg) (l_ascending : K.lookup 333 = some ⟨oc_ascending, od_ascending, .func (PySem.W.fnOf "ascending" "ascending" (defArgs s_ascending) (defBody s_ascending) (defScope s_ascending) .none kV_ascending dc_ascending pm_ascending an_ascending (.ref 332) ct_ascending), sl_ascending⟩)
    (l_is_integer : K.lookup 28 = some ⟨oc_is_integer, od_is_integer, .func (PySem.W.fnOf "is_integer" "is_integer" (defArgs s_is_integer) (defBody s_is_integer) (defScope s_is_integer) .none kV_is_integer dc_is_integer pm_is_integer an_is_integer (.ref 27) ct_is_integer), sl_is_integer⟩)
    (l_is_within : K.lookup 35 = some ⟨oc_is_within, od_is_within, .func (PySem.W.fnOf "is_within" "is_within" (defArgs s_is_within) (defBody s_is_within) (defScope s_is_within) .none kV_is_within dc_is_within pm_is_within an_is_within (.ref 34) ct_is_within), sl_is_within⟩)
    (l_is_row : K.lookup 301 = some ⟨oc_is_row, od_is_row, .func (PySem.W.fnOf "is_row" "is_row" (defArgs s_is_row) (defBody s_is_row) (defScope s_is_row) .none kV_is_row dc_is_row pm_is_row an_is_row (.ref 300) ct_is_row), sl_is_row⟩)
    (l_least_rows : K.lookup 308 = some ⟨oc_least_rows, od_least_rows, .func (PySem.W.fnOf "least_rows" "least_rows" (defArgs s_least_rows) (defBody s_least_rows) (defScope s_least_rows) .none kV_least_rows dc_least_rows pm_least_rows an_least_rows (.ref 307) ct_least_rows), sl_least_rows⟩)
    (l_Book_init : K.lookup 347 = some ⟨oc_Book_init, od_Book_init, .func (PySem.W.fnOf "__init__" "Book.__init__" (defArgs s_Book_init) (defBody s_Book_init) (defScope s_Book_init) .none kV_Book_init dc_Book_init pm_Book_init an_Book_init (.ref 346) ct_Book_init), sl_Book_init⟩)
    (l_common_round : K.lookup 323 = some ⟨oc_common_round, od_common_round, .func (PySem.W.fnOf "common_round" "common_round" (defArgs s_common_round) (defBody s_common_round) (defScope s_common_round) .none kV_common_round dc_common_round pm_common_round an_common_round (.ref 322) ct_common_round), sl_common_round⟩)
    (l_need_book : K.lookup 316 = some ⟨oc_need_book, od_need_book, .func (PySem.W.fnOf "need_book" "need_book" (defArgs s_need_book) (defBody s_need_book) (defScope s_need_book) dv_need_book kV_need_book dc_need_book pm_need_book an_need_book (.ref 315) ct_need_book), sl_need_book⟩)
    (l_row_of_both : K.lookup 328 = some ⟨oc_row_of_both, od_row_of_both, .func (PySem.W.fnOf "row_of_both" "row_of_both" (defArgs s_row_of_both) (defBody s_row_of_both) (defScope s_row_of_both) .none kV_row_of_both dc_row_of_both pm_row_of_both an_row_of_both (.ref 327) ct_row_of_both), sl_row_of_both⟩)
    (l_Book_joined : K.lookup 407 = some ⟨oc_Book_joined, od_Book_joined, .func (PySem.W.fnOf "joined" "Book.joined" (defArgs s_Book_joined) (defBody s_Book_joined) (defScope s_Book_joined) .none kV_Book_joined dc_Book_joined pm_Book_joined an_Book_joined (.ref 406) ct_Book_joined), sl_Book_joined⟩)
    (l_Book_or : K.lookup 414 = some ⟨oc_Book_or, od_Book_or, .func (PySem.W.fnOf "__or__" "Book.__or__" (defArgs s_Book_or) (defBody s_Book_or) (defScope s_Book_or) .none kV_Book_or dc_Book_or pm_Book_or an_Book_or (.ref 413) ct_Book_or), sl_Book_or⟩)
    (l_Book_row_on : K.lookup 374 = some ⟨oc_Book_row_on, od_Book_row_on, .func (PySem.W.fnOf "row_on" "Book.row_on" (defArgs s_Book_row_on) (defBody s_Book_row_on) (defScope s_Book_row_on) .none kV_Book_row_on dc_Book_row_on pm_Book_row_on an_Book_row_on (.ref 373) ct_Book_row_on), sl_Book_row_on⟩)
    (l_Stay_init : K.lookup 208 = some ⟨oc_Stay_init, od_Stay_init, .func (PySem.W.fnOf "__init__" "Stay.__init__" (defArgs s_Stay_init) (defBody s_Stay_init) (defScope s_Stay_init) .none kV_Stay_init dc_Stay_init pm_Stay_init an_Stay_init (.ref 207) ct_Stay_init), sl_Stay_init⟩)
    (l_Stay_nights : K.lookup 225 = some ⟨oc_Stay_nights, od_Stay_nights, .func (PySem.W.fnOf "nights" "Stay.nights" (defArgs s_Stay_nights) (defBody s_Stay_nights) (defScope s_Stay_nights) .none kV_Stay_nights dc_Stay_nights pm_Stay_nights an_Stay_nights (.ref 224) ct_Stay_nights), sl_Stay_nights⟩)
    (l_need_stay : K.lookup 194 = some ⟨oc_need_stay, od_need_stay, .func (PySem.W.fnOf "need_stay" "need_stay" (defArgs s_need_stay) (defBody s_need_stay) (defScope s_need_stay) dv_need_stay kV_need_stay dc_need_stay pm_need_stay an_need_stay (.ref 193) ct_need_stay), sl_need_stay⟩)
    (l_Book_row_for : K.lookup 395 = some ⟨oc_Book_row_for, od_Book_row_for, .func (PySem.W.fnOf "row_for" "Book.row_for" (defArgs s_Book_row_for) (defBody s_Book_row_for) (defScope s_Book_row_for) .none kV_Book_row_for dc_Book_row_for pm_Book_row_for an_Book_row_for (.ref 394) ct_Book_row_for), sl_Book_row_for⟩)
    (l_Book_fills : K.lookup 402 = some ⟨oc_Book_fills, od_Book_fills, .func (PySem.W.fnOf "fills" "Book.fills" (defArgs s_Book_fills) (defBody s_Book_fills) (defScope s_Book_fills) .none kV_Book_fills dc_Book_fills pm_Book_fills an_Book_fills (.ref 401) ct_Book_fills), sl_Book_fills⟩)
    (l_Book_none : K.lookup 354 = some ⟨oc_Book_none, od_Book_none, .func (PySem.W.fnOf "none" "Book.none" (defArgs s_Book_none) (defBody s_Book_none) (defScope s_Book_none) .none kV_Book_none dc_Book_none pm_Book_none an_Book_none (.ref 353) ct_Book_none), sl_Book_none⟩)
    (l_Stay_eq : K.lookup 268 = some ⟨oc_Stay_eq, od_Stay_eq, .func (PySem.W.fnOf "__eq__" "Stay.__eq__" (defArgs s_Stay_eq) (defBody s_Stay_eq) (defScope s_Stay_eq) .none kV_Stay_eq dc_Stay_eq pm_Stay_eq an_Stay_eq (.ref 267) ct_Stay_eq), sl_Stay_eq⟩)
    (l_Stay_moved : K.lookup 233 = some ⟨oc_Stay_moved, od_Stay_moved, .func (PySem.W.fnOf "moved" "Stay.moved" (defArgs s_Stay_moved) (defBody s_Stay_moved) (defScope s_Stay_moved) .none kV_Stay_moved dc_Stay_moved pm_Stay_moved an_Stay_moved (.ref 232) ct_Stay_moved), sl_Stay_moved⟩)
    (l_Stay_rshift : K.lookup 247 = some ⟨oc_Stay_rshift, od_Stay_rshift, .func (PySem.W.fnOf "__rshift__" "Stay.__rshift__" (defArgs s_Stay_rshift) (defBody s_Stay_rshift) (defScope s_Stay_rshift) .none kV_Stay_rshift dc_Stay_rshift pm_Stay_rshift an_Stay_rshift (.ref 246) ct_Stay_rshift), sl_Stay_rshift⟩)
    (l_l_book : K.lookup 492 = some ⟨oc_l_book, od_l_book, .func (PySem.W.fnOf "_law_book" "_law_book" (defArgs s_l_book) (defBody s_l_book) (defScope s_l_book) .none kV_l_book dc_l_book pm_l_book an_l_book (.ref 491) ct_l_book), sl_l_book⟩)
    (l_l_draw : K.lookup 473 = some ⟨oc_l_draw, od_l_draw, .func (PySem.W.fnOf "_law_draw" "_law_draw" (defArgs s_l_draw) (defBody s_l_draw) (defScope s_l_draw) .none kV_l_draw dc_l_draw pm_l_draw an_l_draw (.ref 472) ct_l_draw), sl_l_draw⟩)
    (l_l_let : K.lookup 499 = some ⟨oc_l_let, od_l_let, .func (PySem.W.fnOf "_law_let" "_law_let" (defArgs s_l_let) (defBody s_l_let) (defScope s_l_let) .none kV_l_let dc_l_let pm_l_let an_l_let (.ref 498) ct_l_let), sl_l_let⟩)
    (l_l_fills : K.lookup 506 = some ⟨oc_l_fills, od_l_fills, .func (PySem.W.fnOf "_law_fills" "_law_fills" (defArgs s_l_fills) (defBody s_l_fills) (defScope s_l_fills) .none kV_l_fills dc_l_fills pm_l_fills an_l_fills (.ref 505) ct_l_fills), sl_l_fills⟩)
    (l_l_one_right : K.lookup 511 = some ⟨oc_l_one_right, od_l_one_right, .func (PySem.W.fnOf "_law_one_right" "_law_one_right" (defArgs s_l_one_right) (defBody s_l_one_right) (defScope s_l_one_right) .none kV_l_one_right dc_l_one_right pm_l_one_right an_l_one_right (.ref 510) ct_l_one_right), sl_l_one_right⟩)
    (l_l_pen : K.lookup 466 = some ⟨oc_l_pen, od_l_pen, .func (PySem.W.fnOf "_law_pen" "_law_pen" (defArgs s_l_pen) (defBody s_l_pen) (defScope s_l_pen) .none kV_l_pen dc_l_pen pm_l_pen an_l_pen (.ref 465) ct_l_pen), sl_l_pen⟩)
    (l_l_rows : K.lookup 485 = some ⟨oc_l_rows, od_l_rows, .func (PySem.W.fnOf "_law_rows" "_law_rows" (defArgs s_l_rows) (defBody s_l_rows) (defScope s_l_rows) .none kV_l_rows dc_l_rows pm_l_rows an_l_rows (.ref 484) ct_l_rows), sl_l_rows⟩)
    (l_law : K.lookup 518 = some ⟨oc_law, od_law, .func (PySem.W.fnOf "law" "law" (defArgs s_law) (defBody s_law) (defScope s_law) .none kV_law dc_law pm_law an_law (.ref 517) ct_law), sl_law⟩)
    (l_BadBook_init : K.lookup 85 = some ⟨oc_BadBook_init, od_BadBook_init, .func (PySem.W.ksFn "__init__" "BadBook.__init__" (defArgs s_BadBook_init) (defBody s_BadBook_init) (defScope s_BadBook_init) .none kV_BadBook_init dc_BadBook_init pm_BadBook_init an_BadBook_init (.ref 84) ct_BadBook_init 73), sl_BadBook_init⟩)
    (l_BadNumber_init : K.lookup 106 = some ⟨oc_BadNumber_init, od_BadNumber_init, .func (PySem.W.ksFn "__init__" "BadNumber.__init__" (defArgs s_BadNumber_init) (defBody s_BadNumber_init) (defScope s_BadNumber_init) .none kV_BadNumber_init dc_BadNumber_init pm_BadNumber_init an_BadNumber_init (.ref 105) ct_BadNumber_init 94), sl_BadNumber_init⟩)
    (l_BadStay_init : K.lookup 64 = some ⟨oc_BadStay_init, od_BadStay_init, .func (PySem.W.ksFn "__init__" "BadStay.__init__" (defArgs s_BadStay_init) (defBody s_BadStay_init) (defScope s_BadStay_init) .none kV_BadStay_init dc_BadStay_init pm_BadStay_init an_BadStay_init (.ref 63) ct_BadStay_init 52), sl_BadStay_init⟩)
    (l_TooMany_init : K.lookup 148 = some ⟨oc_TooMany_init, od_TooMany_init, .func (PySem.W.ksFn "__init__" "TooMany.__init__" (defArgs s_TooMany_init) (defBody s_TooMany_init) (defScope s_TooMany_init) .none kV_TooMany_init dc_TooMany_init pm_TooMany_init an_TooMany_init (.ref 147) ct_TooMany_init 136), sl_TooMany_init⟩)
    (tt : topB K = true) : ∃ a : Ad, Tp PySem.Challenge.pw_stayhouse_k41_whole_rows_of_stays_that_f K mg a ∧ ∀ (s : Shared) (u : Value), BindsTo s a.d_law ⟨[u], []⟩ [("_law_script", u)] :=
  have t := topB_of tt
  ⟨{
    d_ascending := PySem.W.fnOf "ascending" "ascending" (defArgs s_ascending) (defBody s_ascending) (defScope s_ascending) .none kV_ascending dc_ascending pm_ascending an_ascending (.ref 332) ct_ascending
    d_is_integer := PySem.W.fnOf "is_integer" "is_integer" (defArgs s_is_integer) (defBody s_is_integer) (defScope s_is_integer) .none kV_is_integer dc_is_integer pm_is_integer an_is_integer (.ref 27) ct_is_integer
    d_is_within := PySem.W.fnOf "is_within" "is_within" (defArgs s_is_within) (defBody s_is_within) (defScope s_is_within) .none kV_is_within dc_is_within pm_is_within an_is_within (.ref 34) ct_is_within
    d_is_row := PySem.W.fnOf "is_row" "is_row" (defArgs s_is_row) (defBody s_is_row) (defScope s_is_row) .none kV_is_row dc_is_row pm_is_row an_is_row (.ref 300) ct_is_row
    d_least_rows := PySem.W.fnOf "least_rows" "least_rows" (defArgs s_least_rows) (defBody s_least_rows) (defScope s_least_rows) .none kV_least_rows dc_least_rows pm_least_rows an_least_rows (.ref 307) ct_least_rows
    d_Book_init := PySem.W.fnOf "__init__" "Book.__init__" (defArgs s_Book_init) (defBody s_Book_init) (defScope s_Book_init) .none kV_Book_init dc_Book_init pm_Book_init an_Book_init (.ref 346) ct_Book_init
    d_common_round := PySem.W.fnOf "common_round" "common_round" (defArgs s_common_round) (defBody s_common_round) (defScope s_common_round) .none kV_common_round dc_common_round pm_common_round an_common_round (.ref 322) ct_common_round
    d_need_book := PySem.W.fnOf "need_book" "need_book" (defArgs s_need_book) (defBody s_need_book) (defScope s_need_book) dv_need_book kV_need_book dc_need_book pm_need_book an_need_book (.ref 315) ct_need_book
    d_row_of_both := PySem.W.fnOf "row_of_both" "row_of_both" (defArgs s_row_of_both) (defBody s_row_of_both) (defScope s_row_of_both) .none kV_row_of_both dc_row_of_both pm_row_of_both an_row_of_both (.ref 327) ct_row_of_both
    d_Book_joined := PySem.W.fnOf "joined" "Book.joined" (defArgs s_Book_joined) (defBody s_Book_joined) (defScope s_Book_joined) .none kV_Book_joined dc_Book_joined pm_Book_joined an_Book_joined (.ref 406) ct_Book_joined
    d_Book_or := PySem.W.fnOf "__or__" "Book.__or__" (defArgs s_Book_or) (defBody s_Book_or) (defScope s_Book_or) .none kV_Book_or dc_Book_or pm_Book_or an_Book_or (.ref 413) ct_Book_or
    d_Book_row_on := PySem.W.fnOf "row_on" "Book.row_on" (defArgs s_Book_row_on) (defBody s_Book_row_on) (defScope s_Book_row_on) .none kV_Book_row_on dc_Book_row_on pm_Book_row_on an_Book_row_on (.ref 373) ct_Book_row_on
    d_Stay_init := PySem.W.fnOf "__init__" "Stay.__init__" (defArgs s_Stay_init) (defBody s_Stay_init) (defScope s_Stay_init) .none kV_Stay_init dc_Stay_init pm_Stay_init an_Stay_init (.ref 207) ct_Stay_init
    d_Stay_nights := PySem.W.fnOf "nights" "Stay.nights" (defArgs s_Stay_nights) (defBody s_Stay_nights) (defScope s_Stay_nights) .none kV_Stay_nights dc_Stay_nights pm_Stay_nights an_Stay_nights (.ref 224) ct_Stay_nights
    d_need_stay := PySem.W.fnOf "need_stay" "need_stay" (defArgs s_need_stay) (defBody s_need_stay) (defScope s_need_stay) dv_need_stay kV_need_stay dc_need_stay pm_need_stay an_need_stay (.ref 193) ct_need_stay
    d_Book_row_for := PySem.W.fnOf "row_for" "Book.row_for" (defArgs s_Book_row_for) (defBody s_Book_row_for) (defScope s_Book_row_for) .none kV_Book_row_for dc_Book_row_for pm_Book_row_for an_Book_row_for (.ref 394) ct_Book_row_for
    d_Book_fills := PySem.W.fnOf "fills" "Book.fills" (defArgs s_Book_fills) (defBody s_Book_fills) (defScope s_Book_fills) .none kV_Book_fills dc_Book_fills pm_Book_fills an_Book_fills (.ref 401) ct_Book_fills
    d_Book_none := PySem.W.fnOf "none" "Book.none" (defArgs s_Book_none) (defBody s_Book_none) (defScope s_Book_none) .none kV_Book_none dc_Book_none pm_Book_none an_Book_none (.ref 353) ct_Book_none
    d_Stay_eq := PySem.W.fnOf "__eq__" "Stay.__eq__" (defArgs s_Stay_eq) (defBody s_Stay_eq) (defScope s_Stay_eq) .none kV_Stay_eq dc_Stay_eq pm_Stay_eq an_Stay_eq (.ref 267) ct_Stay_eq
    d_Stay_moved := PySem.W.fnOf "moved" "Stay.moved" (defArgs s_Stay_moved) (defBody s_Stay_moved) (defScope s_Stay_moved) .none kV_Stay_moved dc_Stay_moved pm_Stay_moved an_Stay_moved (.ref 232) ct_Stay_moved
    d_Stay_rshift := PySem.W.fnOf "__rshift__" "Stay.__rshift__" (defArgs s_Stay_rshift) (defBody s_Stay_rshift) (defScope s_Stay_rshift) .none kV_Stay_rshift dc_Stay_rshift pm_Stay_rshift an_Stay_rshift (.ref 246) ct_Stay_rshift
    d_l_book := PySem.W.fnOf "_law_book" "_law_book" (defArgs s_l_book) (defBody s_l_book) (defScope s_l_book) .none kV_l_book dc_l_book pm_l_book an_l_book (.ref 491) ct_l_book
    d_l_draw := PySem.W.fnOf "_law_draw" "_law_draw" (defArgs s_l_draw) (defBody s_l_draw) (defScope s_l_draw) .none kV_l_draw dc_l_draw pm_l_draw an_l_draw (.ref 472) ct_l_draw
    d_l_let := PySem.W.fnOf "_law_let" "_law_let" (defArgs s_l_let) (defBody s_l_let) (defScope s_l_let) .none kV_l_let dc_l_let pm_l_let an_l_let (.ref 498) ct_l_let
    d_l_fills := PySem.W.fnOf "_law_fills" "_law_fills" (defArgs s_l_fills) (defBody s_l_fills) (defScope s_l_fills) .none kV_l_fills dc_l_fills pm_l_fills an_l_fills (.ref 505) ct_l_fills
    d_l_one_right := PySem.W.fnOf "_law_one_right" "_law_one_right" (defArgs s_l_one_right) (defBody s_l_one_right) (defScope s_l_one_right) .none kV_l_one_right dc_l_one_right pm_l_one_right an_l_one_right (.ref 510) ct_l_one_right
    d_l_pen := PySem.W.fnOf "_law_pen" "_law_pen" (defArgs s_l_pen) (defBody s_l_pen) (defScope s_l_pen) .none kV_l_pen dc_l_pen pm_l_pen an_l_pen (.ref 465) ct_l_pen
    d_l_rows := PySem.W.fnOf "_law_rows" "_law_rows" (defArgs s_l_rows) (defBody s_l_rows) (defScope s_l_rows) .none kV_l_rows dc_l_rows pm_l_rows an_l_rows (.ref 484) ct_l_rows
    d_law := PySem.W.fnOf "law" "law" (defArgs s_law) (defBody s_law) (defScope s_law) .none kV_law dc_law pm_law an_law (.ref 517) ct_law
    d_BadBook_init := PySem.W.ksFn "__init__" "BadBook.__init__" (defArgs s_BadBook_init) (defBody s_BadBook_init) (defScope s_BadBook_init) .none kV_BadBook_init dc_BadBook_init pm_BadBook_init an_BadBook_init (.ref 84) ct_BadBook_init 73
    d_BadNumber_init := PySem.W.ksFn "__init__" "BadNumber.__init__" (defArgs s_BadNumber_init) (defBody s_BadNumber_init) (defScope s_BadNumber_init) .none kV_BadNumber_init dc_BadNumber_init pm_BadNumber_init an_BadNumber_init (.ref 105) ct_BadNumber_init 94
    d_BadStay_init := PySem.W.ksFn "__init__" "BadStay.__init__" (defArgs s_BadStay_init) (defBody s_BadStay_init) (defScope s_BadStay_init) .none kV_BadStay_init dc_BadStay_init pm_BadStay_init an_BadStay_init (.ref 63) ct_BadStay_init 52
    d_TooMany_init := PySem.W.ksFn "__init__" "TooMany.__init__" (defArgs s_TooMany_init) (defBody s_TooMany_init) (defScope s_TooMany_init) .none kV_TooMany_init dc_TooMany_init pm_TooMany_init an_TooMany_init (.ref 147) ct_TooMany_init 136 }, {
    fun_ascending := fun_mk l_ascending (fnsB_of t.fn (.head _)).1 (fnsB_of t.fn (.head _)).2
    kp_ascending := (fnsB_of t.fn (.head _)).2
    fun_is_integer := fun_mk l_is_integer (fnsB_of t.fn (.tail _ (.head _))).1 (fnsB_of t.fn (.tail _ (.head _))).2
    kp_is_integer := (fnsB_of t.fn (.tail _ (.head _))).2
    fun_is_within := fun_mk l_is_within (fnsB_of t.fn (.tail _ (.tail _ (.head _)))).1 (fnsB_of t.fn (.tail _ (.tail _ (.head _)))).2
    kp_is_within := (fnsB_of t.fn (.tail _ (.tail _ (.head _)))).2
    fun_is_row := fun_mk l_is_row (fnsB_of t.fn (.tail _ (.tail _ (.tail _ (.head _))))).1 (fnsB_of t.fn (.tail _ (.tail _ (.tail _ (.head _))))).2
    kp_is_row := (fnsB_of t.fn (.tail _ (.tail _ (.tail _ (.head _))))).2
    fun_least_rows := fun_mk l_least_rows (fnsB_of t.fn (.tail _ (.tail _ (.tail _ (.tail _ (.head _)))))).1 (fnsB_of t.fn (.tail _ (.tail _ (.tail _ (.tail _ (.head _)))))).2
    kp_least_rows := (fnsB_of t.fn (.tail _ (.tail _ (.tail _ (.tail _ (.head _)))))).2
    fun_Book_init := fun_mk l_Book_init (fnsB_of t.fn (.tail _ (.tail _ (.tail _ (.tail _ (.tail _ (.head _))))))).1 (fnsB_of t.fn (.tail _ (.tail _ (.tail _ (.tail _ (.tail _ (.head _))))))).2
    kp_Book_init := (fnsB_of t.fn (.tail _ (.tail _ (.tail _ (.tail _ (.tail _ (.head _))))))).2
    fun_common_round := fun_mk l_common_round (fnsB_of t.fn (.tail _ (.tail _ (.tail _ (.tail _ (.tail _ (.tail _ (.head _)))))))).1 (fnsB_of t.fn (.tail _ (.tail _ (.tail _ (.tail _ (.tail _ (.tail _ (.head _)))))))).2
    kp_common_round := (fnsB_of t.fn (.tail _ (.tail _ (.tail _ (.tail _ (.tail _ (.tail _ (.head _)))))))).2
    fun_need_book := funE_mk l_need_book (fnsB_of t.fn (.tail _ (.tail _ (.tail _ (.tail _ (.tail _ (.tail _ (.tail _ (.head _))))))))).1 (fnsB_of t.fn (.tail _ (.tail _ (.tail _ (.tail _ (.tail _ (.tail _ (.tail _ (.head _))))))))).2 t.df_need_book (by simp)
    kp_need_book := (fnsB_of t.fn (.tail _ (.tail _ (.tail _ (.tail _ (.tail _ (.tail _ (.tail _ (.head _))))))))).2
    fun_row_of_both := fun_mk l_row_of_both (fnsB_of t.fn (.tail _ (.tail _ (.tail _ (.tail _ (.tail _ (.tail _ (.tail _ (.tail _ (.head _)))))))))).1 (fnsB_of t.fn (.tail _ (.tail _ (.tail _ (.tail _ (.tail _ (.tail _ (.tail _ (.tail _ (.head _)))))))))).2
    kp_row_of_both := (fnsB_of t.fn (.tail _ (.tail _ (.tail _ (.tail _ (.tail _ (.tail _ (.tail _ (.tail _ (.head _)))))))))).2
    fun_Book_joined := fun_mk l_Book_joined (fnsB_of t.fn (.tail _ (.tail _ (.tail _ (.tail _ (.tail _ (.tail _ (.tail _ (.tail _ (.tail _ (.head _))))))))))).1 (fnsB_of t.fn (.tail _ (.tail _ (.tail _ (.tail _ (.tail _ (.tail _ (.tail _ (.tail _ (.tail _ (.head _))))))))))).2
    kp_Book_joined := (fnsB_of t.fn (.tail _ (.tail _ (.tail _ (.tail _ (.tail _ (.tail _ (.tail _ (.tail _ (.tail _ (.head _))))))))))).2
    fun_Book_or := fun_mk l_Book_or (fnsB_of t.fn (.tail _ (.tail _ (.tail _ (.tail _ (.tail _ (.tail _ (.tail _ (.tail _ (.tail _ (.tail _ (.head _)))))))))))).1 (fnsB_of t.fn (.tail _ (.tail _ (.tail _ (.tail _ (.tail _ (.tail _ (.tail _ (.tail _ (.tail _ (.tail _ (.head _)))))))))))).2
    kp_Book_or := (fnsB_of t.fn (.tail _ (.tail _ (.tail _ (.tail _ (.tail _ (.tail _ (.tail _ (.tail _ (.tail _ (.tail _ (.head _)))))))))))).2
    fun_Book_row_on := fun_mk l_Book_row_on (fnsB_of t.fn (.tail _ (.tail _ (.tail _ (.tail _ (.tail _ (.tail _ (.tail _ (.tail _ (.tail _ (.tail _ (.tail _ (.head _))))))))))))).1 (fnsB_of t.fn (.tail _ (.tail _ (.tail _ (.tail _ (.tail _ (.tail _ (.tail _ (.tail _ (.tail _ (.tail _ (.tail _ (.head _))))))))))))).2
    kp_Book_row_on := (fnsB_of t.fn (.tail _ (.tail _ (.tail _ (.tail _ (.tail _ (.tail _ (.tail _ (.tail _ (.tail _ (.tail _ (.tail _ (.head _))))))))))))).2
    fun_Stay_init := fun_mk l_Stay_init (fnsB_of t.fn (.tail _ (.tail _ (.tail _ (.tail _ (.tail _ (.tail _ (.tail _ (.tail _ (.tail _ (.tail _ (.tail _ (.tail _ (.head _)))))))))))))).1 (fnsB_of t.fn (.tail _ (.tail _ (.tail _ (.tail _ (.tail _ (.tail _ (.tail _ (.tail _ (.tail _ (.tail _ (.tail _ (.tail _ (.head _)))))))))))))).2
    kp_Stay_init := (fnsB_of t.fn (.tail _ (.tail _ (.tail _ (.tail _ (.tail _ (.tail _ (.tail _ (.tail _ (.tail _ (.tail _ (.tail _ (.tail _ (.head _)))))))))))))).2
    fun_Stay_nights := fun_mk l_Stay_nights (fnsB_of t.fn (.tail _ (.tail _ (.tail _ (.tail _ (.tail _ (.tail _ (.tail _ (.tail _ (.tail _ (.tail _ (.tail _ (.tail _ (.tail _ (.head _))))))))))))))).1 (fnsB_of t.fn (.tail _ (.tail _ (.tail _ (.tail _ (.tail _ (.tail _ (.tail _ (.tail _ (.tail _ (.tail _ (.tail _ (.tail _ (.tail _ (.head _))))))))))))))).2
    kp_Stay_nights := (fnsB_of t.fn (.tail _ (.tail _ (.tail _ (.tail _ (.tail _ (.tail _ (.tail _ (.tail _ (.tail _ (.tail _ (.tail _ (.tail _ (.tail _ (.head _))))))))))))))).2
    fun_need_stay := funE_mk l_need_stay (fnsB_of t.fn (.tail _ (.tail _ (.tail _ (.tail _ (.tail _ (.tail _ (.tail _ (.tail _ (.tail _ (.tail _ (.tail _ (.tail _ (.tail _ (.tail _ (.head _)))))))))))))))).1 (fnsB_of t.fn (.tail _ (.tail _ (.tail _ (.tail _ (.tail _ (.tail _ (.tail _ (.tail _ (.tail _ (.tail _ (.tail _ (.tail _ (.tail _ (.tail _ (.head _)))))))))))))))).2 t.df_need_stay (by simp)
    kp_need_stay := (fnsB_of t.fn (.tail _ (.tail _ (.tail _ (.tail _ (.tail _ (.tail _ (.tail _ (.tail _ (.tail _ (.tail _ (.tail _ (.tail _ (.tail _ (.tail _ (.head _)))))))))))))))).2
    fun_Book_row_for := fun_mk l_Book_row_for (fnsB_of t.fn (.tail _ (.tail _ (.tail _ (.tail _ (.tail _ (.tail _ (.tail _ (.tail _ (.tail _ (.tail _ (.tail _ (.tail _ (.tail _ (.tail _ (.tail _ (.head _))))))))))))))))).1 (fnsB_of t.fn (.tail _ (.tail _ (.tail _ (.tail _ (.tail _ (.tail _ (.tail _ (.tail _ (.tail _ (.tail _ (.tail _ (.tail _ (.tail _ (.tail _ (.tail _ (.head _))))))))))))))))).2
    kp_Book_row_for := (fnsB_of t.fn (.tail _ (.tail _ (.tail _ (.tail _ (.tail _ (.tail _ (.tail _ (.tail _ (.tail _ (.tail _ (.tail _ (.tail _ (.tail _ (.tail _ (.tail _ (.head _))))))))))))))))).2
    fun_Book_fills := fun_mk l_Book_fills (fnsB_of t.fn (.tail _ (.tail _ (.tail _ (.tail _ (.tail _ (.tail _ (.tail _ (.tail _ (.tail _ (.tail _ (.tail _ (.tail _ (.tail _ (.tail _ (.tail _ (.tail _ (.head _)))))))))))))))))).1 (fnsB_of t.fn (.tail _ (.tail _ (.tail _ (.tail _ (.tail _ (.tail _ (.tail _ (.tail _ (.tail _ (.tail _ (.tail _ (.tail _ (.tail _ (.tail _ (.tail _ (.tail _ (.head _)))))))))))))))))).2
    kp_Book_fills := (fnsB_of t.fn (.tail _ (.tail _ (.tail _ (.tail _ (.tail _ (.tail _ (.tail _ (.tail _ (.tail _ (.tail _ (.tail _ (.tail _ (.tail _ (.tail _ (.tail _ (.tail _ (.head _)))))))))))))))))).2
    fun_Book_none := fun_mk l_Book_none (fnsB_of t.fn (.tail _ (.tail _ (.tail _ (.tail _ (.tail _ (.tail _ (.tail _ (.tail _ (.tail _ (.tail _ (.tail _ (.tail _ (.tail _ (.tail _ (.tail _ (.tail _ (.tail _ (.head _))))))))))))))))))).1 (fnsB_of t.fn (.tail _ (.tail _ (.tail _ (.tail _ (.tail _ (.tail _ (.tail _ (.tail _ (.tail _ (.tail _ (.tail _ (.tail _ (.tail _ (.tail _ (.tail _ (.tail _ (.tail _ (.head _))))))))))))))))))).2
    kp_Book_none := (fnsB_of t.fn (.tail _ (.tail _ (.tail _ (.tail _ (.tail _ (.tail _ (.tail _ (.tail _ (.tail _ (.tail _ (.tail _ (.tail _ (.tail _ (.tail _ (.tail _ (.tail _ (.tail _ (.head _))))))))))))))))))).2
    fun_Stay_eq := fun_mk l_Stay_eq (fnsB_of t.fn (.tail _ (.tail _ (.tail _ (.tail _ (.tail _ (.tail _ (.tail _ (.tail _ (.tail _ (.tail _ (.tail _ (.tail _ (.tail _ (.tail _ (.tail _ (.tail _ (.tail _ (.tail _ (.head _)))))))))))))))))))).1 (fnsB_of t.fn (.tail _ (.tail _ (.tail _ (.tail _ (.tail _ (.tail _ (.tail _ (.tail _ (.tail _ (.tail _ (.tail _ (.tail _ (.tail _ (.tail _ (.tail _ (.tail _ (.tail _ (.tail _ (.head _)))))))))))))))))))).2
    kp_Stay_eq := (fnsB_of t.fn (.tail _ (.tail _ (.tail _ (.tail _ (.tail _ (.tail _ (.tail _ (.tail _ (.tail _ (.tail _ (.tail _ (.tail _ (.tail _ (.tail _ (.tail _ (.tail _ (.tail _ (.tail _ (.head _)))))))))))))))))))).2
    fun_Stay_moved := fun_mk l_Stay_moved (fnsB_of t.fn (.tail _ (.tail _ (.tail _ (.tail _ (.tail _ (.tail _ (.tail _ (.tail _ (.tail _ (.tail _ (.tail _ (.tail _ (.tail _ (.tail _ (.tail _ (.tail _ (.tail _ (.tail _ (.tail _ (.head _))))))))))))))))))))).1 (fnsB_of t.fn (.tail _ (.tail _ (.tail _ (.tail _ (.tail _ (.tail _ (.tail _ (.tail _ (.tail _ (.tail _ (.tail _ (.tail _ (.tail _ (.tail _ (.tail _ (.tail _ (.tail _ (.tail _ (.tail _ (.head _))))))))))))))))))))).2
    kp_Stay_moved := (fnsB_of t.fn (.tail _ (.tail _ (.tail _ (.tail _ (.tail _ (.tail _ (.tail _ (.tail _ (.tail _ (.tail _ (.tail _ (.tail _ (.tail _ (.tail _ (.tail _ (.tail _ (.tail _ (.tail _ (.tail _ (.head _))))))))))))))))))))).2
    fun_Stay_rshift := fun_mk l_Stay_rshift (fnsB_of t.fn (.tail _ (.tail _ (.tail _ (.tail _ (.tail _ (.tail _ (.tail _ (.tail _ (.tail _ (.tail _ (.tail _ (.tail _ (.tail _ (.tail _ (.tail _ (.tail _ (.tail _ (.tail _ (.tail _ (.tail _ (.head _)))))))))))))))))))))).1 (fnsB_of t.fn (.tail _ (.tail _ (.tail _ (.tail _ (.tail _ (.tail _ (.tail _ (.tail _ (.tail _ (.tail _ (.tail _ (.tail _ (.tail _ (.tail _ (.tail _ (.tail _ (.tail _ (.tail _ (.tail _ (.tail _ (.head _)))))))))))))))))))))).2
    kp_Stay_rshift := (fnsB_of t.fn (.tail _ (.tail _ (.tail _ (.tail _ (.tail _ (.tail _ (.tail _ (.tail _ (.tail _ (.tail _ (.tail _ (.tail _ (.tail _ (.tail _ (.tail _ (.tail _ (.tail _ (.tail _ (.tail _ (.tail _ (.head _)))))))))))))))))))))).2
    fun_l_book := fun_mk l_l_book (fnsB_of t.fn (.tail _ (.tail _ (.tail _ (.tail _ (.tail _ (.tail _ (.tail _ (.tail _ (.tail _ (.tail _ (.tail _ (.tail _ (.tail _ (.tail _ (.tail _ (.tail _ (.tail _ (.tail _ (.tail _ (.tail _ (.tail _ (.head _))))))))))))))))))))))).1 (fnsB_of t.fn (.tail _ (.tail _ (.tail _ (.tail _ (.tail _ (.tail _ (.tail _ (.tail _ (.tail _ (.tail _ (.tail _ (.tail _ (.tail _ (.tail _ (.tail _ (.tail _ (.tail _ (.tail _ (.tail _ (.tail _ (.tail _ (.head _))))))))))))))))))))))).2
    kp_l_book := (fnsB_of t.fn (.tail _ (.tail _ (.tail _ (.tail _ (.tail _ (.tail _ (.tail _ (.tail _ (.tail _ (.tail _ (.tail _ (.tail _ (.tail _ (.tail _ (.tail _ (.tail _ (.tail _ (.tail _ (.tail _ (.tail _ (.tail _ (.head _))))))))))))))))))))))).2
    fun_l_draw := fun_mk l_l_draw (fnsB_of t.fn (.tail _ (.tail _ (.tail _ (.tail _ (.tail _ (.tail _ (.tail _ (.tail _ (.tail _ (.tail _ (.tail _ (.tail _ (.tail _ (.tail _ (.tail _ (.tail _ (.tail _ (.tail _ (.tail _ (.tail _ (.tail _ (.tail _ (.head _)))))))))))))))))))))))).1 (fnsB_of t.fn (.tail _ (.tail _ (.tail _ (.tail _ (.tail _ (.tail _ (.tail _ (.tail _ (.tail _ (.tail _ (.tail _ (.tail _ (.tail _ (.tail _ (.tail _ (.tail _ (.tail _ (.tail _ (.tail _ (.tail _ (.tail _ (.tail _ (.head _)))))))))))))))))))))))).2
    kp_l_draw := (fnsB_of t.fn (.tail _ (.tail _ (.tail _ (.tail _ (.tail _ (.tail _ (.tail _ (.tail _ (.tail _ (.tail _ (.tail _ (.tail _ (.tail _ (.tail _ (.tail _ (.tail _ (.tail _ (.tail _ (.tail _ (.tail _ (.tail _ (.tail _ (.head _)))))))))))))))))))))))).2
    fun_l_let := fun_mk l_l_let (fnsB_of t.fn (.tail _ (.tail _ (.tail _ (.tail _ (.tail _ (.tail _ (.tail _ (.tail _ (.tail _ (.tail _ (.tail _ (.tail _ (.tail _ (.tail _ (.tail _ (.tail _ (.tail _ (.tail _ (.tail _ (.tail _ (.tail _ (.tail _ (.tail _ (.head _))))))))))))))))))))))))).1 (fnsB_of t.fn (.tail _ (.tail _ (.tail _ (.tail _ (.tail _ (.tail _ (.tail _ (.tail _ (.tail _ (.tail _ (.tail _ (.tail _ (.tail _ (.tail _ (.tail _ (.tail _ (.tail _ (.tail _ (.tail _ (.tail _ (.tail _ (.tail _ (.tail _ (.head _))))))))))))))))))))))))).2
    kp_l_let := (fnsB_of t.fn (.tail _ (.tail _ (.tail _ (.tail _ (.tail _ (.tail _ (.tail _ (.tail _ (.tail _ (.tail _ (.tail _ (.tail _ (.tail _ (.tail _ (.tail _ (.tail _ (.tail _ (.tail _ (.tail _ (.tail _ (.tail _ (.tail _ (.tail _ (.head _))))))))))))))))))))))))).2
    fun_l_fills := fun_mk l_l_fills (fnsB_of t.fn (.tail _ (.tail _ (.tail _ (.tail _ (.tail _ (.tail _ (.tail _ (.tail _ (.tail _ (.tail _ (.tail _ (.tail _ (.tail _ (.tail _ (.tail _ (.tail _ (.tail _ (.tail _ (.tail _ (.tail _ (.tail _ (.tail _ (.tail _ (.tail _ (.head _)))))))))))))))))))))))))).1 (fnsB_of t.fn (.tail _ (.tail _ (.tail _ (.tail _ (.tail _ (.tail _ (.tail _ (.tail _ (.tail _ (.tail _ (.tail _ (.tail _ (.tail _ (.tail _ (.tail _ (.tail _ (.tail _ (.tail _ (.tail _ (.tail _ (.tail _ (.tail _ (.tail _ (.tail _ (.head _)))))))))))))))))))))))))).2
    kp_l_fills := (fnsB_of t.fn (.tail _ (.tail _ (.tail _ (.tail _ (.tail _ (.tail _ (.tail _ (.tail _ (.tail _ (.tail _ (.tail _ (.tail _ (.tail _ (.tail _ (.tail _ (.tail _ (.tail _ (.tail _ (.tail _ (.tail _ (.tail _ (.tail _ (.tail _ (.tail _ (.head _)))))))))))))))))))))))))).2
    fun_l_one_right := fun_mk l_l_one_right (fnsB_of t.fn (.tail _ (.tail _ (.tail _ (.tail _ (.tail _ (.tail _ (.tail _ (.tail _ (.tail _ (.tail _ (.tail _ (.tail _ (.tail _ (.tail _ (.tail _ (.tail _ (.tail _ (.tail _ (.tail _ (.tail _ (.tail _ (.tail _ (.tail _ (.tail _ (.tail _ (.head _))))))))))))))))))))))))))).1 (fnsB_of t.fn (.tail _ (.tail _ (.tail _ (.tail _ (.tail _ (.tail _ (.tail _ (.tail _ (.tail _ (.tail _ (.tail _ (.tail _ (.tail _ (.tail _ (.tail _ (.tail _ (.tail _ (.tail _ (.tail _ (.tail _ (.tail _ (.tail _ (.tail _ (.tail _ (.tail _ (.head _))))))))))))))))))))))))))).2
    kp_l_one_right := (fnsB_of t.fn (.tail _ (.tail _ (.tail _ (.tail _ (.tail _ (.tail _ (.tail _ (.tail _ (.tail _ (.tail _ (.tail _ (.tail _ (.tail _ (.tail _ (.tail _ (.tail _ (.tail _ (.tail _ (.tail _ (.tail _ (.tail _ (.tail _ (.tail _ (.tail _ (.tail _ (.head _))))))))))))))))))))))))))).2
    fun_l_pen := fun_mk l_l_pen (fnsB_of t.fn (.tail _ (.tail _ (.tail _ (.tail _ (.tail _ (.tail _ (.tail _ (.tail _ (.tail _ (.tail _ (.tail _ (.tail _ (.tail _ (.tail _ (.tail _ (.tail _ (.tail _ (.tail _ (.tail _ (.tail _ (.tail _ (.tail _ (.tail _ (.tail _ (.tail _ (.tail _ (.head _)))))))))))))))))))))))))))).1 (fnsB_of t.fn (.tail _ (.tail _ (.tail _ (.tail _ (.tail _ (.tail _ (.tail _ (.tail _ (.tail _ (.tail _ (.tail _ (.tail _ (.tail _ (.tail _ (.tail _ (.tail _ (.tail _ (.tail _ (.tail _ (.tail _ (.tail _ (.tail _ (.tail _ (.tail _ (.tail _ (.tail _ (.head _)))))))))))))))))))))))))))).2
    kp_l_pen := (fnsB_of t.fn (.tail _ (.tail _ (.tail _ (.tail _ (.tail _ (.tail _ (.tail _ (.tail _ (.tail _ (.tail _ (.tail _ (.tail _ (.tail _ (.tail _ (.tail _ (.tail _ (.tail _ (.tail _ (.tail _ (.tail _ (.tail _ (.tail _ (.tail _ (.tail _ (.tail _ (.tail _ (.head _)))))))))))))))))))))))))))).2
    fun_l_rows := fun_mk l_l_rows (fnsB_of t.fn (.tail _ (.tail _ (.tail _ (.tail _ (.tail _ (.tail _ (.tail _ (.tail _ (.tail _ (.tail _ (.tail _ (.tail _ (.tail _ (.tail _ (.tail _ (.tail _ (.tail _ (.tail _ (.tail _ (.tail _ (.tail _ (.tail _ (.tail _ (.tail _ (.tail _ (.tail _ (.tail _ (.head _))))))))))))))))))))))))))))).1 (fnsB_of t.fn (.tail _ (.tail _ (.tail _ (.tail _ (.tail _ (.tail _ (.tail _ (.tail _ (.tail _ (.tail _ (.tail _ (.tail _ (.tail _ (.tail _ (.tail _ (.tail _ (.tail _ (.tail _ (.tail _ (.tail _ (.tail _ (.tail _ (.tail _ (.tail _ (.tail _ (.tail _ (.tail _ (.head _))))))))))))))))))))))))))))).2
    kp_l_rows := (fnsB_of t.fn (.tail _ (.tail _ (.tail _ (.tail _ (.tail _ (.tail _ (.tail _ (.tail _ (.tail _ (.tail _ (.tail _ (.tail _ (.tail _ (.tail _ (.tail _ (.tail _ (.tail _ (.tail _ (.tail _ (.tail _ (.tail _ (.tail _ (.tail _ (.tail _ (.tail _ (.tail _ (.tail _ (.head _))))))))))))))))))))))))))))).2
    fun_law := fun_mk l_law (fnsB_of t.fn (.tail _ (.tail _ (.tail _ (.tail _ (.tail _ (.tail _ (.tail _ (.tail _ (.tail _ (.tail _ (.tail _ (.tail _ (.tail _ (.tail _ (.tail _ (.tail _ (.tail _ (.tail _ (.tail _ (.tail _ (.tail _ (.tail _ (.tail _ (.tail _ (.tail _ (.tail _ (.tail _ (.tail _ (.head _)))))))))))))))))))))))))))))).1 (fnsB_of t.fn (.tail _ (.tail _ (.tail _ (.tail _ (.tail _ (.tail _ (.tail _ (.tail _ (.tail _ (.tail _ (.tail _ (.tail _ (.tail _ (.tail _ (.tail _ (.tail _ (.tail _ (.tail _ (.tail _ (.tail _ (.tail _ (.tail _ (.tail _ (.tail _ (.tail _ (.tail _ (.tail _ (.tail _ (.head _)))))))))))))))))))))))))))))).2
    kp_law := (fnsB_of t.fn (.tail _ (.tail _ (.tail _ (.tail _ (.tail _ (.tail _ (.tail _ (.tail _ (.tail _ (.tail _ (.tail _ (.tail _ (.tail _ (.tail _ (.tail _ (.tail _ (.tail _ (.tail _ (.tail _ (.tail _ (.tail _ (.tail _ (.tail _ (.tail _ (.tail _ (.tail _ (.tail _ (.tail _ (.head _)))))))))))))))))))))))))))))).2
    mg_ascending := mgB_of X G t.mg (.head _)
    mg_is_integer := mgB_of X G t.mg (.tail _ (.head _))
    mg_is_within := mgB_of X G t.mg (.tail _ (.tail _ (.head _)))
    mg_is_row := mgB_of X G t.mg (.tail _ (.tail _ (.tail _ (.head _))))
    mg_least_rows := mgB_of X G t.mg (.tail _ (.tail _ (.tail _ (.tail _ (.head _)))))
    mg_common_round := mgB_of X G t.mg (.tail _ (.tail _ (.tail _ (.tail _ (.tail _ (.head _))))))
    mg_need_book := mgB_of X G t.mg (.tail _ (.tail _ (.tail _ (.tail _ (.tail _ (.tail _ (.head _)))))))
    mg_row_of_both := mgB_of X G t.mg (.tail _ (.tail _ (.tail _ (.tail _ (.tail _ (.tail _ (.tail _ (.head _))))))))
    mg_need_stay := mgB_of X G t.mg (.tail _ (.tail _ (.tail _ (.tail _ (.tail _ (.tail _ (.tail _ (.tail _ (.head _)))))))))
    mg__law_book := mgB_of X G t.mg (.tail _ (.tail _ (.tail _ (.tail _ (.tail _ (.tail _ (.tail _ (.tail _ (.tail _ (.head _))))))))))
    mg__law_draw := mgB_of X G t.mg (.tail _ (.tail _ (.tail _ (.tail _ (.tail _ (.tail _ (.tail _ (.tail _ (.tail _ (.tail _ (.head _)))))))))))
    mg__law_let := mgB_of X G t.mg (.tail _ (.tail _ (.tail _ (.tail _ (.tail _ (.tail _ (.tail _ (.tail _ (.tail _ (.tail _ (.tail _ (.head _))))))))))))
    mg__law_fills := mgB_of X G t.mg (.tail _ (.tail _ (.tail _ (.tail _ (.tail _ (.tail _ (.tail _ (.tail _ (.tail _ (.tail _ (.tail _ (.tail _ (.head _)))))))))))))
    mg__law_one_right := mgB_of X G t.mg (.tail _ (.tail _ (.tail _ (.tail _ (.tail _ (.tail _ (.tail _ (.tail _ (.tail _ (.tail _ (.tail _ (.tail _ (.tail _ (.head _))))))))))))))
    mg__law_pen := mgB_of X G t.mg (.tail _ (.tail _ (.tail _ (.tail _ (.tail _ (.tail _ (.tail _ (.tail _ (.tail _ (.tail _ (.tail _ (.tail _ (.tail _ (.tail _ (.head _)))))))))))))))
    mg__law_rows := mgB_of X G t.mg (.tail _ (.tail _ (.tail _ (.tail _ (.tail _ (.tail _ (.tail _ (.tail _ (.tail _ (.tail _ (.tail _ (.tail _ (.tail _ (.tail _ (.tail _ (.head _))))))))))))))))
    mg_law := mgB_of X G t.mg (.tail _ (.tail _ (.tail _ (.tail _ (.tail _ (.tail _ (.tail _ (.tail _ (.tail _ (.tail _ (.tail _ (.tail _ (.tail _ (.tail _ (.tail _ (.tail _ (.head _)))))))))))))))))
    mg_BadBook := mgB_of X G t.mg (.tail _ (.tail _ (.tail _ (.tail _ (.tail _ (.tail _ (.tail _ (.tail _ (.tail _ (.tail _ (.tail _ (.tail _ (.tail _ (.tail _ (.tail _ (.tail _ (.tail _ (.head _))))))))))))))))))
    mg_BadNumber := mgB_of X G t.mg (.tail _ (.tail _ (.tail _ (.tail _ (.tail _ (.tail _ (.tail _ (.tail _ (.tail _ (.tail _ (.tail _ (.tail _ (.tail _ (.tail _ (.tail _ (.tail _ (.tail _ (.tail _ (.head _)))))))))))))))))))
    mg_BadStay := mgB_of X G t.mg (.tail _ (.tail _ (.tail _ (.tail _ (.tail _ (.tail _ (.tail _ (.tail _ (.tail _ (.tail _ (.tail _ (.tail _ (.tail _ (.tail _ (.tail _ (.tail _ (.tail _ (.tail _ (.tail _ (.head _))))))))))))))))))))
    mg_Book := mgB_of X G t.mg (.tail _ (.tail _ (.tail _ (.tail _ (.tail _ (.tail _ (.tail _ (.tail _ (.tail _ (.tail _ (.tail _ (.tail _ (.tail _ (.tail _ (.tail _ (.tail _ (.tail _ (.tail _ (.tail _ (.tail _ (.head _)))))))))))))))))))))
    mg_Stay := mgB_of X G t.mg (.tail _ (.tail _ (.tail _ (.tail _ (.tail _ (.tail _ (.tail _ (.tail _ (.tail _ (.tail _ (.tail _ (.tail _ (.tail _ (.tail _ (.tail _ (.tail _ (.tail _ (.tail _ (.tail _ (.tail _ (.tail _ (.head _))))))))))))))))))))))
    mg_TooMany := mgB_of X G t.mg (.tail _ (.tail _ (.tail _ (.tail _ (.tail _ (.tail _ (.tail _ (.tail _ (.tail _ (.tail _ (.tail _ (.tail _ (.tail _ (.tail _ (.tail _ (.tail _ (.tail _ (.tail _ (.tail _ (.tail _ (.tail _ (.tail _ (.head _)))))))))))))))))))))))
    own_Book := ownB_of t.own_Book
    mk_Book := mkB_of t.mk_Book
    own_Stay := ownB_of t.own_Stay
    mk_Stay := mkB_of t.mk_Stay
    na_after := t.na_after
    na_first := t.na_first
    na_most := t.na_most
    na_part := t.na_part
    na_rows := t.na_rows
    na_value := t.na_value
    na_what := t.na_what
    isi := t.isi
    err_BadBook := err_of l_BadBook_init t.err_BadBook (noB_of X G t.no (.tail _ (.tail _ (.tail _ (.tail _ (.tail _ (.tail _ (.tail _ (.tail _ (.tail _ (.tail _ (.tail _ (.tail _ (.head _)))))))))))))) (by decide +kernel)
    err_BadNumber := err_of l_BadNumber_init t.err_BadNumber (noB_of X G t.no (.tail _ (.tail _ (.tail _ (.tail _ (.tail _ (.tail _ (.tail _ (.tail _ (.tail _ (.tail _ (.tail _ (.tail _ (.head _)))))))))))))) (by decide +kernel)
    err_BadStay := err_of l_BadStay_init t.err_BadStay (noB_of X G t.no (.tail _ (.tail _ (.tail _ (.tail _ (.tail _ (.tail _ (.tail _ (.tail _ (.tail _ (.tail _ (.tail _ (.tail _ (.head _)))))))))))))) (by decide +kernel)
    err_TooMany := err_of l_TooMany_init t.err_TooMany (noB_of X G t.no (.tail _ (.tail _ (.tail _ (.tail _ (.tail _ (.tail _ (.tail _ (.tail _ (.tail _ (.tail _ (.tail _ (.tail _ (.head _)))))))))))))) (by decide +kernel)
    me_Book_or := methB_of t.me (.head _)
    me_Book_fills := methB_of t.me (.tail _ (.head _))
    me_Book_joined := methB_of t.me (.tail _ (.tail _ (.head _)))
    me_Book_row_for := methB_of t.me (.tail _ (.tail _ (.tail _ (.head _))))
    me_Book_row_on := methB_of t.me (.tail _ (.tail _ (.tail _ (.tail _ (.head _)))))
    me_Stay_eq := methB_of t.me (.tail _ (.tail _ (.tail _ (.tail _ (.tail _ (.head _))))))
    me_Stay_rshift := methB_of t.me (.tail _ (.tail _ (.tail _ (.tail _ (.tail _ (.tail _ (.head _)))))))
    me_Stay_moved := methB_of t.me (.tail _ (.tail _ (.tail _ (.tail _ (.tail _ (.tail _ (.tail _ (.head _))))))))
    nf_Book := fun x hx => all_mem t.nf_Book hx
    nf_Stay := fun x hx => all_mem t.nf_Stay hx
    ne_Stay := of_decide_eq_true t.ne_Stay
    sf_Book := t.sf_Book
    sf_Stay := t.sf_Stay
    pr_Stay_nights := propB_of t.pr_Stay_nights
    sm_Book_none := smB_of t.sm_Book_none
    ir_Stay_rshift := intRB_of t.ir_Stay_rshift
    c_MOST_FILLED := intB_of X G t.it (.head _)
    c_MOST_NIGHTS := intB_of X G t.it (.tail _ (.head _))
    c_MOST_ROWS := intB_of X G t.it (.tail _ (.tail _ (.head _)))
    no_abs := noB_of X G t.no (.head _)
    no_all := noB_of X G t.no (.tail _ (.head _))
    no_bool := noB_of X G t.no (.tail _ (.tail _ (.head _)))
    no_enumerate := noB_of X G t.no (.tail _ (.tail _ (.tail _ (.head _))))
    no_int := noB_of X G t.no (.tail _ (.tail _ (.tail _ (.tail _ (.head _)))))
    no_isinstance := noB_of X G t.no (.tail _ (.tail _ (.tail _ (.tail _ (.tail _ (.head _))))))
    no_len := noB_of X G t.no (.tail _ (.tail _ (.tail _ (.tail _ (.tail _ (.tail _ (.head _)))))))
    no_list := noB_of X G t.no (.tail _ (.tail _ (.tail _ (.tail _ (.tail _ (.tail _ (.tail _ (.head _))))))))
    no_min := noB_of X G t.no (.tail _ (.tail _ (.tail _ (.tail _ (.tail _ (.tail _ (.tail _ (.tail _ (.head _)))))))))
    no_range := noB_of X G t.no (.tail _ (.tail _ (.tail _ (.tail _ (.tail _ (.tail _ (.tail _ (.tail _ (.tail _ (.head _))))))))))
    no_repr := noB_of X G t.no (.tail _ (.tail _ (.tail _ (.tail _ (.tail _ (.tail _ (.tail _ (.tail _ (.tail _ (.tail _ (.head _)))))))))))
    no_set := noB_of X G t.no (.tail _ (.tail _ (.tail _ (.tail _ (.tail _ (.tail _ (.tail _ (.tail _ (.tail _ (.tail _ (.tail _ (.head _))))))))))))
    no_super := noB_of X G t.no (.tail _ (.tail _ (.tail _ (.tail _ (.tail _ (.tail _ (.tail _ (.tail _ (.tail _ (.tail _ (.tail _ (.tail _ (.head _)))))))))))))
    no_tuple := noB_of X G t.no (.tail _ (.tail _ (.tail _ (.tail _ (.tail _ (.tail _ (.tail _ (.tail _ (.tail _ (.tail _ (.tail _ (.tail _ (.tail _ (.head _)))))))))))))) }, fun s u => .of_eq rfl⟩
end VL.P

set_option Elab.async false
set_option linter.all false
set_option maxRecDepth 100000
set_option maxHeartbeats 4000000
/-! K41a: stays one behind the other, plain -/
namespace VL.Sy
abbrev Rel := Int → Int → Prop
inductive Rch (T : Rel) (f : Int) : Int → Prop
  | base : Rch T f f
  | step {p n : Int} : Rch T f p → T p n → 0 < n → Rch T f (p + n)
theorem Rch.le {T : Rel} {f k : Int} (h : Rch T f k) : f ≤ k := by
  induction h with
  | base => exact Int.le_refl _
  | step _ _ h ih => omega
theorem Rch.inv {T : Rel} {f k : Int} (h : Rch T f k) : k = f ∨ ∃ p, Rch T f p ∧ p < k ∧ T p (k - p) := by
  cases h with
  | base => exact .inl rfl
  | step h1 h2 h3 =>
    rename_i p n
    exact .inr ⟨p, h1, by omega, by rw [show p + n - p = n by omega]; exact h2⟩
theorem Rch.step' {T : Rel} {f p k : Int} (h : Rch T f p) (h1 : p < k) (h2 : T p (k - p)) : Rch T f k := by
  have := Rch.step h h2 (by omega)
  rwa [show p + (k - p) = k by omega] at this
theorem Rch.mono {T T' : Rel} {f k : Int} (m : ∀ d n, T d n → T' d n) (h : Rch T f k) : Rch T' f k := by
  induction h with
  | base => exact .base
  | step _ h2 h3 ih => exact .step ih (m _ _ h2) h3
theorem Rch.shift {T : Rel} {s f k : Int} (m : ∀ d n, T d n → T (d + s) n) (h : Rch T f k) : Rch T (f + s) (k + s) := by
  induction h with
  | base => exact .base
  | step _ h2 h3 ih =>
    rename_i p n _
    have := Rch.step ih (m _ _ h2) h3
    rwa [show p + s + n = p + n + s by omega] at this
theorem Rch.shift_iff {T : Rel} {s f k : Int} (m : ∀ d n, T (d + s) n ↔ T d n) : Rch T (f + s) (k + s) ↔ Rch T f k := by
  constructor
  · intro h
    have := Rch.shift (s := -s) (fun d n hd => by
      have := m (d + -s) n
      rw [show d + -s + s = d by omega] at this
      exact this.mp hd) h
    rwa [show f + s + -s = f by omega, show k + s + -s = k by omega] at this
  · exact Rch.shift fun d n hd => (m d n).mpr hd
/-! ### the table of days that were come to -/
abbrev Tb := List (Int × Option Int)
def look (c : Tb) (k : Int) : Option (Option Int) := (c.find? fun p => decide (p.1 = k)).map (·.2)
def ins (c : Tb) (k p : Int) : Tb := if (look c k).isSome = true then c else c ++ [(k, some p)]
theorem look_app (c : Tb) (k : Int) (q : Option Int) (j : Int) : look (c ++ [(k, q)]) j = match look c j with
    | some x => some x
    | none => if k = j then some q else none := by
  unfold look
  rw [List.find?_append]
  cases h : c.find? fun p => decide (p.1 = j) with
  | some x => simp
  | none =>
    by_cases e : k = j
    · simp [e]
    · simp [e]
theorem look_ins (c : Tb) (k p j : Int) : look (ins c k p) j = if j = k ∧ look c k = none then some (some p) else look c j := by
  unfold ins
  cases h : look c k with
  | some x => simp
  | none =>
    simp only [Option.isSome_none, Bool.false_eq_true, if_false]
    rw [look_app]
    by_cases e : j = k
    · subst e
      simp [h]
    · have e' : ¬ k = j := fun z => e z.symm
      simp only [e, false_and, if_false, e']
      cases look c j <;> rfl
theorem ins_mono {c : Tb} {k p j : Int} (h : (look c j).isSome = true) : look (ins c k p) j = look c j := by
  rw [look_ins]
  split
  · rename_i e
    rw [e.1, e.2] at h
    cases h
  · rfl
theorem ins_new (c : Tb) (k p : Int) : (look (ins c k p) k).isSome = true := by
  rw [look_ins]
  split
  · rfl
  · rename_i e
    cases h : look c k with
    | some x => rfl
    | none => exact absurd ⟨rfl, h⟩ e
theorem ins_back {c : Tb} {k p j : Int} (h : (look (ins c k p) j).isSome = true) (hj : j ≠ k) : (look c j).isSome = true := by
  rw [look_ins] at h
  split at h
  · rename_i e
    exact absurd e.1 hj
  · exact h
theorem ins_len (c : Tb) (k p : Int) : (ins c k p).length ≤ c.length + 1 := by
  unfold ins
  split <;> simp
structure Good (T : Rel) (f : Int) (c : Tb) : Prop where
  base : look c f = some none
  none_ : ∀ k, look c k = some none → k = f
  some_ : ∀ k p, look c k = some (some p) → f ≤ p ∧ p < k ∧ T p (k - p) ∧ (look c p).isSome = true
theorem good0 (T : Rel) (f : Int) : Good T f [(f, none)] := by
  have e : ∀ k, look [(f, none)] k = if f = k then some none else none := by
    intro k
    unfold look
    by_cases h : f = k <;> simp [h]
  refine ⟨by rw [e]; simp, fun k h => ?_, fun k p h => ?_⟩
  · rw [e] at h
    split at h
    · rename_i z; exact z.symm
    · cases h
  · rw [e] at h
    split at h <;> cases h
theorem Good.ins {T : Rel} {f d n : Int} {c : Tb} (g : Good T f c) (hd : f ≤ d) (hl : (look c d).isSome = true) (ht : T d n) (hn : 0 < n) : Good T f (ins c (d + n) d) := by
  have hf : (look c f).isSome = true := by rw [g.base]; rfl
  refine ⟨by rw [ins_mono hf]; exact g.base, fun k h => ?_, fun k p h => ?_⟩
  · rw [look_ins] at h
    split at h
    · cases h
    · exact g.none_ k h
  · rw [look_ins] at h
    split at h
    · rename_i e
      obtain ⟨rfl, _⟩ := e
      cases h
      refine ⟨hd, by omega, by rw [show d + n - d = n by omega]; exact ht, ?_⟩
      rw [ins_mono hl]; exact hl
    · obtain ⟨h1, h2, h3, h4⟩ := g.some_ k p h
      exact ⟨h1, h2, h3, by rw [ins_mono h4]; exact h4⟩
def Full (T : Rel) (f d : Int) (c : Tb) : Prop := ∀ p, f ≤ p → p < d → (look c p).isSome = true → ∀ n, T p n → 0 < n → (look c (p + n)).isSome = true
/-- a day's numbers, one by one -/
def addAll (c : Tb) (d : Int) (ns : List Int) : Tb := ns.foldl (fun c n => ins c (d + n) d) c
theorem addAll_mono {d j : Int} : ∀ (ns : List Int) {c : Tb}, (look c j).isSome = true → look (addAll c d ns) j = look c j
  | [], c, h => rfl
  | n :: ns, c, h => by
    have h1 := ins_mono (k := d + n) (p := d) h
    show look (addAll (ins c (d + n) d) d ns) j = _
    rw [addAll_mono ns (by rw [h1]; exact h), h1]
theorem addAll_new {d n : Int} : ∀ (ns : List Int) {c : Tb}, n ∈ ns → (look (addAll c d ns) (d + n)).isSome = true
  | m :: ns, c, h => by
    show (look (addAll (ins c (d + m) d) d ns) (d + n)).isSome = true
    rcases List.mem_cons.mp h with rfl | h
    · have h1 := ins_new c (d + n) d
      rw [addAll_mono ns h1]; exact h1
    · exact addAll_new ns h
theorem addAll_back {d j : Int} : ∀ (ns : List Int) {c : Tb}, (∀ n ∈ ns, 0 < n) → j ≤ d → (look (addAll c d ns) j).isSome = true → (look c j).isSome = true
  | [], c, _, _, h => h
  | n :: ns, c, hp, hj, h => by
    have h1 := addAll_back ns (c := ins c (d + n) d) (fun m hm => hp m (.tail _ hm)) hj h
    have := hp n (.head _)
    exact ins_back h1 (by omega)
theorem addAll_len {d : Int} : ∀ (ns : List Int) {c : Tb}, (addAll c d ns).length ≤ c.length + ns.length
  | [], c => by simp [addAll]
  | n :: ns, c => by
    have h1 := addAll_len (d := d) ns (c := ins c (d + n) d)
    have h2 := ins_len c (d + n) d
    have h3 : addAll c d (n :: ns) = addAll (ins c (d + n) d) d ns := rfl
    rw [h3, List.length_cons]
    omega
theorem addAll_good {T : Rel} {f d : Int} : ∀ (ns : List Int) {c : Tb}, Good T f c → f ≤ d → (look c d).isSome = true → (∀ n ∈ ns, 0 < n ∧ T d n) → Good T f (addAll c d ns)
  | [], c, g, _, _, _ => g
  | n :: ns, c, g, hd, hl, h => by
    obtain ⟨h1, h2⟩ := h n (.head _)
    have g1 := g.ins hd hl h2 h1
    exact addAll_good ns g1 hd (by rw [ins_mono hl]; exact hl) fun m hm => h m (.tail _ hm)
/-- the step of one day -/
def dayStep (R : Int → List Int) (c : Tb) (d : Int) : Tb := if (look c d).isSome = true then addAll c d (R d) else c
structure RowsOk (T : Rel) (R : Int → List Int) : Prop where
  iff : ∀ d n, n ∈ R d ↔ T d n
  pos : ∀ d n, n ∈ R d → 0 < n ∧ n ≤ 30
  len : ∀ d, (R d).length ≤ 30
structure St (T : Rel) (f d : Int) (j : Nat) (c : Tb) : Prop where
  good : Good T f c
  full : Full T f d c
  len : c.length ≤ 1 + 30 * j
theorem st0 (T : Rel) (f : Int) : St T f f 0 [(f, none)] := ⟨good0 T f, fun p h1 h2 => by omega, by simp⟩
theorem St.next {T : Rel} {R : Int → List Int} (r : RowsOk T R) {f d : Int} {j : Nat} {c : Tb} (s : St T f d j c) (hd : f ≤ d) : St T f (d + 1) (j + 1) (dayStep R c d) := by
  unfold dayStep
  split
  · rename_i hl
    have hp : ∀ n ∈ R d, 0 < n := fun n hn => (r.pos d n hn).1
    refine ⟨addAll_good (R d) s.good hd hl fun n hn => ⟨hp n hn, (r.iff d n).mp hn⟩, fun p h1 h2 h3 n hn h0 => ?_, ?_⟩
    · by_cases e : p = d
      · subst e
        exact addAll_new (R p) ((r.iff p n).mpr hn)
      · have h4 := addAll_back (R d) hp (show p ≤ d by omega) h3
        have h5 := s.full p h1 (by omega) h4 n hn h0
        rw [addAll_mono (R d) h5]; exact h5
    · have := addAll_len (d := d) (R d) (c := c)
      have := r.len d
      have := s.len
      omega
  · rename_i hl
    refine ⟨s.good, fun p h1 h2 h3 n hn h0 => ?_, by have := s.len; omega⟩
    by_cases e : p = d
    · subst e
      exact absurd h3 hl
    · exact s.full p h1 (by omega) h3 n hn h0
theorem Good.rch {T : Rel} {f : Int} {c : Tb} (g : Good T f c) : ∀ (m : Nat) (k : Int), (k - f).toNat ≤ m → (look c k).isSome = true → Rch T f k
  | m, k, hm, h => by
    cases e : look c k with
    | none => rw [e] at h; cases h
    | some q =>
      cases q with
      | none => rw [g.none_ k e]; exact .base
      | some p =>
        obtain ⟨h1, h2, h3, h4⟩ := g.some_ k p e
        cases m with
        | zero => omega
        | succ m => exact (g.rch m p (by omega) h4).step' h2 h3
theorem St.iff {T : Rel} {f a : Int} {j : Nat} {c : Tb} (s : St T f a j c) : (look c a).isSome = true ↔ Rch T f a := by
  constructor
  · exact s.good.rch _ a (Nat.le_refl _)
  · intro h
    have : ∀ k, Rch T f k → k ≤ a → (look c k).isSome = true := by
      intro k hk
      induction hk with
      | base => intro _; rw [s.good.base]; rfl
      | step h1 h2 h3 ih =>
        rename_i p n
        intro hle
        exact s.full p h1.le (by omega) (ih (by omega)) n h2 h3
    exact this a h (Int.le_refl _)
/-! ### the way back -/
inductive Pth (T : Rel) (c : Tb) (f : Int) : Int → List (Int × Int) → Prop
  | nil : Pth T c f f []
  | cons {k p : Int} {ps : List (Int × Int)} : look c k = some (some p) → f ≤ p → p < k → T p (k - p) → Pth T c f p ps → Pth T c f k ((p, k) :: ps)
theorem Good.pth {T : Rel} {f : Int} {c : Tb} (g : Good T f c) : ∀ (m : Nat) (k : Int), (k - f).toNat ≤ m → (look c k).isSome = true → ∃ ps, Pth T c f k ps ∧ ps.length ≤ (k - f).toNat
  | m, k, hm, h => by
    cases e : look c k with
    | none => rw [e] at h; cases h
    | some q =>
      cases q with
      | none => rw [g.none_ k e]; exact ⟨[], .nil, by simp⟩
      | some p =>
        obtain ⟨h1, h2, h3, h4⟩ := g.some_ k p e
        cases m with
        | zero => omega
        | succ m =>
          obtain ⟨ps, q1, q2⟩ := g.pth m p (by omega) h4
          exact ⟨(p, k) :: ps, .cons e h1 h2 h3 q1, by rw [List.length_cons]; omega⟩
theorem Pth.ends {T : Rel} {c : Tb} {f k : Int} {ps : List (Int × Int)} (h : Pth T c f k ps) : ps.reverse.map (·.1) ++ [k] = f :: ps.reverse.map (·.2) := by
  induction h with
  | nil => rfl
  | cons _ _ _ _ _ ih =>
    rename_i k p ps _ _ _ _ _
    rw [List.reverse_cons, List.map_append, List.map_append, ← List.cons_append, ← ih]
    rfl
theorem Pth.let_ {T : Rel} {c : Tb} {f k : Int} {ps : List (Int × Int)} (h : Pth T c f k ps) : ∀ q ∈ ps, q.1 < q.2 ∧ T q.1 (q.2 - q.1) := by
  induction h with
  | nil => intro q hq; cases hq
  | cons _ _ h3 h4 _ ih =>
    intro q hq
    rcases List.mem_cons.mp hq with rfl | hq
    · exact ⟨h3, h4⟩
    · exact ih q hq
end VL.Sy

set_option Elab.async false
set_option linter.all false
set_option maxRecDepth 100000
set_option maxHeartbeats 4000000
namespace VL.P
open PySem PySem.Spec PyProof.Rows L2 VL VL.Sy
open PySem.W (Frag)
open VL.Q (pos1 pos2 pos3 pos4 bin_ok un_ok fn1 fn2)
abbrev li (xs : List Int) : D := .lst (xs.map .int)
abbrev ti (xs : List Int) : D := .tup (xs.map .int)
abbrev stay (f a : Int) : D := .ins 278 ["first", "after"] [.int f, .int a]
abbrev book (rs : List (List Int)) : D := .ins 441 ["rows"] [.tup (rs.map ti)]
theorem get_new {α : Type} (L : List α) (x : α) : (L ++ [x])[L.length]? = some x := by simp
theorem set_new {α : Type} (L : List α) (x y : α) : (L ++ [x]).set L.length y = L ++ [y] := by simp
theorem take_new {α : Type} (L : List α) (x : α) : (L ++ [x]).take L.length = L := by simp
theorem v_integer (i : Int) (L : LS) : m_is_integer [.d (.int i)] L = .ok (.d (.bl true)) L := by
  have h1 : isiT isi [.int i, .ty "int"] = some (.bl true) := by kernel_rfl
  have h2 : isiT isi [.int i, .ty "bool"] = some (.bl false) := by kernel_rfl
  simp [m_is_integer, Rs.bind, opt, LO.rd, rdU, fzU, eVar, eC, op2, op1, eBin, eUn, eCmp, bop2, bCmp, eChain, bChain, trU, bTru, eAnd, eOr, eNot, bAnd, bOr, bNot, eIf, rdUs, fzUs, aNil, aCons, eLst, eTup, eLstL, opn, eFn, oNone, oSome, eSl, eJoin, Rt.andThen, ofR, optS, sNil, sSeq, sDrop, sRet, sIf, sSet, sPar, tfName, tfNil, tfCons, tfTup, sAsg, sSub, outR, fnF, cPos, cBoth, Sr.get, arrU, eCall, iSeq, iRng1, iRng2, sFor, eComp, tYesF, eMake, mkF, eRest, sFld, eFnU, sBrk, sCnt, sRetN, eDic0, eDic, dPairs, keyU, bD, big, eBinU, bBinU, bTest, eMeth, own1, own2, ownLen, lenU, truU, notU, sRaise, eAppend, apnd, newL, catL, sTry, Rt.clr, eSlA, sliceA, sliceD, addU, taddU, mulA, tmulA, tupU, iIt, walkD, itemsOf, iZipG, iEnumG, aStar, aStarZ, sAug, eRev, iRng3, sPar3, ownOp, ownNe, ownCmp, ownIn, wipeS, List.take_length, listL, eMakeS, mkS, eProp, iRngW, ownOpI, cStar, h1, h2, truB]
theorem v_within (i : Int) (L : LS) : m_is_within [.d (.int i), .d (.int 1), .d (.int 30)] L = .ok (.d (.bl (decide (1 ≤ i) && decide (i ≤ 30)))) L := by
  have hu : m_is_within = fnF 3 3 (sRet (eAnd (eCall m_is_integer [.p 0] 1 0 (cPos (aCons (eVar 0) aNil))) (eChain leB leB (eVar 1) (eVar 0) (eVar 2)))) := rfl
  rw [hu]
  exact fn_rt rfl (ret_ok (VL.Q.eand_t (call_ok (pos1 rfl) rfl rfl rfl (v_integer i L)) (VL.Q.echain_ok rfl rfl rfl)))
/-! ### stays -/
theorem v_Stay_init {f a : Int} (h : f < a) (L : LS) : m_Stay_init [.l L.length, .d (.int f), .d (.int a)] (L ++ [.i 278 [] []]) = .ok (.d .non) (L ++ [.i 278 ["first", "after"] [.int f, .int a]]) := by
  have h1 : (278 : Addr) ∈ cs_first := by decide
  have h2 : (278 : Addr) ∈ cs_after := by decide
  have hle : ¬ a ≤ f := by omega
  have e0 : (("first" : Str) = "after") = False := by decide
  simp [m_Stay_init, Rs.bind, opt, LO.rd, rdU, fzU, eVar, eC, op2, op1, eBin, eUn, eCmp, bop2, bCmp, eChain, bChain, trU, bTru, eAnd, eOr, eNot, bAnd, bOr, bNot, eIf, rdUs, fzUs, aNil, aCons, eLst, eTup, eLstL, opn, eFn, oNone, oSome, eSl, eJoin, Rt.andThen, ofR, optS, sNil, sSeq, sDrop, sRet, sIf, sSet, sPar, tfName, tfNil, tfCons, tfTup, sAsg, sSub, outR, fnF, cPos, cBoth, Sr.get, arrU, eCall, iSeq, iRng1, iRng2, sFor, eComp, tYesF, eMake, mkF, eRest, sFld, eFnU, sBrk, sCnt, sRetN, eDic0, eDic, dPairs, keyU, bD, big, eBinU, bBinU, bTest, eMeth, own1, own2, ownLen, lenU, truU, notU, sRaise, eAppend, apnd, newL, catL, sTry, Rt.clr, eSlA, sliceA, sliceD, addU, taddU, mulA, tmulA, tupU, iIt, walkD, itemsOf, iZipG, iEnumG, aStar, aStarZ, sAug, eRev, iRng3, sPar3, ownOp, ownNe, ownCmp, ownIn, wipeS, List.take_length, listL, eMakeS, mkS, eProp, iRngW, ownOpI, cStar, v_integer, truB, leB, hle, putFld, putN, h1, h2, get_new, set_new, e0]
  exact List.take_of_length_le (by simp)
theorem v_mkStay {f a : Int} (h : f < a) {fc : CF} {st : SS} {L L1 M : LS} (h1 : fc st L = .ok ([.d (.int f), .d (.int a)], []) L1) (hm : L1.take L.length = M) (hl : L.length ≤ L1.length) : eRest (eMake 278 m_Stay_init [.p 0, .p 1, .p 2] 2 0 fc) st L = .ok (.d (stay f a)) M := by
  refine VL.Q.rest_ok (L2 := L1 ++ [.z (stay f a)]) (VL.Q.make_ok h1 rfl rfl rfl (v_Stay_init h L1)) ?_ ?_
  · simp [fzU, get_new, set_new, LO.rd]
  · rw [List.take_append_of_le_length hl]; exact hm
theorem v_mkStay' {f a : Int} (h : f < a) {fc : CF} {st : SS} {L : LS} (h1 : fc st L = .ok ([.d (.int f), .d (.int a)], []) L) : eRest (eMake 278 m_Stay_init [.p 0, .p 1, .p 2] 2 0 fc) st L = .ok (.d (stay f a)) L :=
  v_mkStay h h1 List.take_length (Nat.le_refl _)
theorem f_first (f a : Int) : fldT cs_first "first" (stay f a) = some (.int f) := by kernel_rfl
theorem f_after (f a : Int) : fldT cs_after "after" (stay f a) = some (.int a) := by kernel_rfl
theorem f_rows (rs : List (List Int)) : fldT cs_rows "rows" (book rs) = some (.tup (rs.map ti)) := by kernel_rfl
theorem v_nights (f a : Int) (L : LS) : m_Stay_nights [.d (stay f a)] L = .ok (.d (.int (a - f))) L := by
  have hu : m_Stay_nights = fnF 1 1 (sRet (eBin subD (eUn (fldT cs_after "after") (eVar 0)) (eUn (fldT cs_first "first") (eVar 0)))) := rfl
  rw [hu]
  exact fn_rt rfl (ret_ok (bin_ok (un_ok rfl (f_after f a)) (un_ok rfl (f_first f a)) rfl))
theorem p_nights {f a : Int} {fo : EF} {st : SS} {L : LS} (h : fo st L = .ok (.d (stay f a)) L) : eProp 278 (fun us L => opt (arrU us [] [.p 0]) fun xs => m_Stay_nights xs L) fo st L = .ok (.d (.int (a - f))) L :=
  VL.Q.prop_ok h (v_nights f a L)
theorem v_need_stay (f a : Int) (x : D) (L : LS) : m_need_stay [.d (stay f a), .d x] L = .ok (.d .non) L := by
  have h1 : isiT isi [stay f a, .obj 278] = some (.bl true) := by kernel_rfl
  simp [m_need_stay, Rs.bind, opt, LO.rd, rdU, fzU, eVar, eC, op2, op1, eBin, eUn, eCmp, bop2, bCmp, eChain, bChain, trU, bTru, eAnd, eOr, eNot, bAnd, bOr, bNot, eIf, rdUs, fzUs, aNil, aCons, eLst, eTup, eLstL, opn, eFn, oNone, oSome, eSl, eJoin, Rt.andThen, ofR, optS, sNil, sSeq, sDrop, sRet, sIf, sSet, sPar, tfName, tfNil, tfCons, tfTup, sAsg, sSub, outR, fnF, cPos, cBoth, Sr.get, arrU, eCall, iSeq, iRng1, iRng2, sFor, eComp, tYesF, eMake, mkF, eRest, sFld, eFnU, sBrk, sCnt, sRetN, eDic0, eDic, dPairs, keyU, bD, big, eBinU, bBinU, bTest, eMeth, own1, own2, ownLen, lenU, truU, notU, sRaise, eAppend, apnd, newL, catL, sTry, Rt.clr, eSlA, sliceA, sliceD, addU, taddU, mulA, tmulA, tupU, iIt, walkD, itemsOf, iZipG, iEnumG, aStar, aStarZ, sAug, eRev, iRng3, sPar3, ownOp, ownNe, ownCmp, ownIn, wipeS, List.take_length, listL, eMakeS, mkS, eProp, iRngW, ownOpI, cStar, h1, truB]
theorem eq_ii (i j k l : Int) : eqB (.tup [.int i, .int j]) (.tup [.int k, .int l]) = some (decide (i = k) && decide (j = l)) := by
  have hd : (PyData.tuple [.int i, .int j]).depth ≤ 64 := by simp [PyData.depth, PyData.depthAll]
  simp only [eqB, toPy, toPyL, Option.bind_some, Option.map_some, hd, if_true]
  congr 1
  simp [PyData.eqv, PyData.eqvAll]
  by_cases h1 : i = k <;> by_cases h2 : j = l <;> simp [h1, h2]
theorem v_stay_eq (f a : Int) (L : LS) : m_Stay_eq [.d (stay f a), .d (stay f a)] L = .ok (.d (.bl true)) L := by
  have h1 : isiT isi [stay f a, .obj 278] = some (.bl true) := by kernel_rfl
  have hu : m_Stay_eq = fnF 2 2 (sRet (eAnd (eFn (isiT isi) (aCons (eVar 1) (aCons (eC (.obj 278)) aNil))) (eCmp eqB (eTup (aCons (eUn (fldT cs_first "first") (eVar 0)) (aCons (eUn (fldT cs_after "after") (eVar 0)) aNil))) (eTup (aCons (eUn (fldT cs_first "first") (eVar 1)) (aCons (eUn (fldT cs_after "after") (eVar 1)) aNil)))))) := rfl
  rw [hu]
  refine fn_rt rfl (ret_ok (VL.Q.eand_t (fn2 rfl rfl h1) (ecmp_ok (VL.Q.tup2 (un_ok rfl (f_first f a)) (un_ok rfl (f_after f a))) (VL.Q.tup2 (un_ok rfl (f_first f a)) (un_ok rfl (f_after f a))) ?_)))
  rw [eq_ii]; simp
theorem eq_self : ∀ (ps : List (Int × Int)), eqPairs 278 (fun us L => opt (arrU us [] [.p 0, .p 1]) fun xs => m_Stay_eq xs L) (ps.map fun q => stay q.1 q.2) (ps.map fun q => stay q.1 q.2) = true
  | [] => rfl
  | q :: ps => by
    have h : (opt (arrU [U.d (stay q.1 q.2), .d (stay q.1 q.2)] [] [.p 0, .p 1]) fun xs => m_Stay_eq xs []) = .ok (.d (.bl true)) [] := v_stay_eq q.1 q.2 []
    simp only [List.map_cons, eqPairs, h, eq_self ps, decide_true, Bool.and_self]
theorem v_moved {f a : Int} (h : f < a) (n : Int) (L : LS) : m_Stay_moved [.d (stay f a), .d (.int n)] L = .ok (.d (stay (f + n) (a + n))) L := by
  have hu : m_Stay_moved = fnF 2 2 (sSeq (sIf (bNot (bTru (eCall m_is_integer [.p 0] 1 0 (cPos (aCons (eVar 1) aNil))))) (sRaise 109 ["value"] (aCons (eVar 1) aNil)) sNil) (sRet (eRest (eMake 278 m_Stay_init [.p 0, .p 1, .p 2] 2 0 (cPos (aCons (eBinU addU (eUn (fldT cs_first "first") (eVar 0)) (eVar 1)) (aCons (eBinU addU (eUn (fldT cs_after "after") (eVar 0)) (eVar 1)) aNil))))))) := rfl
  rw [hu]
  refine fn_rt rfl (seq_nx (if_f (VL.Q.not_t (tru_bl (call_ok (pos1 rfl) rfl rfl rfl (v_integer n L)))) rfl) (ret_ok (v_mkStay' (by omega) ?_)))
  exact pos2 (binU_ok (un_ok rfl (f_first f a)) rfl addU_int) (binU_ok (un_ok rfl (f_after f a)) rfl addU_int)
theorem v_rshift {f a : Int} (h : f < a) (n : Int) (L : LS) : m_Stay_rshift [.d (stay f a), .d (.int n)] L = .ok (.d (stay (f + n) (a + n))) L := by
  have hu : m_Stay_rshift = fnF 2 2 (sRet (eMeth 278 "moved" (fun us ws L => opt (arrU us ws [.p 0, .p 1]) fun xs => m_Stay_moved xs L) 1 0 (eVar 0) (cPos (aCons (eVar 1) aNil)))) := rfl
  rw [hu]
  exact fn_rt rfl (ret_ok (VL.Q.meth_ok (ns := ["first", "after"]) (xs := [.int f, .int a]) rfl (by decide) (pos1 rfl) rfl rfl (v_moved h n L)))
end VL.P

set_option Elab.async false
set_option linter.all false
set_option maxRecDepth 100000
set_option maxHeartbeats 4000000
namespace VL.P
open PySem PySem.Spec PyProof.Rows L2 VL VL.Sy
open PySem.W (Frag)
open VL.Q (pos1 pos2 pos3 pos4 bin_ok un_ok fn1 fn2)
/-! ### rows of numbers of nights -/
structure Rw (ns : List Int) : Prop where
  nd : ns.Nodup
  rng : ∀ n ∈ ns, 1 ≤ n ∧ n ≤ 30
  len : ns.length ≤ 30
def Sq (d : D) (ns : List Int) : Prop := d = li ns ∨ d = ti ns
theorem intsD_ok : ∀ ns : List Int, intsD (ns.map D.int) = some ns
  | [] => rfl
  | n :: ns => by simp [intsD, intsD_ok ns]
theorem all_true (xs : List Int) : allD [.lst (xs.map fun _ => .bl true)] = some (.bl true) := by
  have h : ∀ xs : List Int, blsD (xs.map fun _ => .bl true) = some (xs.map fun _ => true) := by
    intro xs
    induction xs with
    | nil => rfl
    | cons x xs ih => simp [blsD, ih]
  simp only [allD, h, Option.map_some]
  congr 2
  simp [List.all_eq_true]
theorem eq_int (i j : Int) : eqB (.int i) (.int j) = some (decide (i = j)) := by
  have hd : (PyData.int i).depth ≤ 64 := by simp [PyData.depth]
  simp only [eqB, toPy, Option.bind_some, hd, if_true, VL.Q.eqv_int]
theorem v_is_row {d : D} {ns : List Int} (q : Sq d ns) (r : Rw ns) (L : LS) : m_is_row [.d d] L = .ok (.d (.bl true)) L := by
  have i1 : isiT isi [d, .tup [.ty "list", .ty "tuple"]] = some (.bl true) := by
    rcases q with rfl | rfl
    · kernel_rfl
    · kernel_rfl
  have body : ∀ x ∈ ns.map D.int, ∃ st1, tfName 1 x (wipeS [some (.d d), none] [1]) = some st1 ∧ (eCall m_is_within [.p 0, .p 1, .p 2] 3 0 (cPos (aCons (eVar 1) (aCons (eC (.int 1)) (aCons (eC (.int 30)) aNil))))) st1 L = .ok (.d (.bl true)) L := by
    intro x hx
    obtain ⟨n, hn, rfl⟩ := List.mem_map.mp hx
    refine ⟨[some (.d d), some (.d (.int n))], rfl, call_ok (pos3 rfl rfl rfl) rfl rfl rfl ?_⟩
    rw [v_within]
    have := r.rng n hn
    simp [this.1, this.2]
  have e0 : (ns.map D.int).map (fun _ => D.bl true) = ns.map fun _ => D.bl true := by simp
  have hb : (ns.map D.int).length ≤ big := by have := r.len; simp [big]; omega
  have comp : eComp (iIt itT (eVar 0)) [1] (tfName 1) tYesF (eCall m_is_within [.p 0, .p 1, .p 2] 3 0 (cPos (aCons (eVar 1) (aCons (eC (.int 1)) (aCons (eC (.int 30)) aNil))))) [some (.d d), none] L = .ok (.d (.lst (ns.map fun _ => .bl true))) L := by
    rw [← e0]
    refine comp_m (fun _ => .bl true) ?_ hb body
    rcases q with rfl | rfl
    · exact VL.Q.it_l rfl
    · exact VL.Q.it_t rfl
  have ls : lenSetD d = some (.int ns.length) := by
    have h : ns.Nodup ∧ ns.length ≤ 1000 := ⟨r.nd, by have := r.len; omega⟩
    rcases q with rfl | rfl
    · simp only [lenSetD, intsD_ok, Option.bind_some]; rw [if_pos h]
    · simp only [lenSetD, intsD_ok, Option.bind_some]; rw [if_pos h]
  have ln : lenD [d] = some (.int ns.length) := by
    rcases q with rfl | rfl
    · simp [lenD]
    · simp [lenD]
  have hu : m_is_row = fnF 1 2 (sSeq (sIf (bOr (bNot (bTru (eFn (isiT isi) (aCons (eVar 0) (aCons (eTup (aCons (eC (.ty "list")) (aCons (eC (.ty "tuple")) aNil))) aNil))))) (bNot (bTru (eFn allD (aCons (eComp (iIt itT (eVar 0)) [1] (tfName 1) tYesF (eCall m_is_within [.p 0, .p 1, .p 2] 3 0 (cPos (aCons (eVar 1) (aCons (eC (.int 1)) (aCons (eC (.int 30)) aNil)))))) aNil))))) (sRet (eC (.bl false))) sNil) (sRet (eCmp eqB (eUn lenSetD (eVar 0)) (eFn lenD (aCons (eVar 0) aNil))))) := rfl
  rw [hu]
  refine fn_rt rfl (seq_nx (if_f (VL.Q.or_f (VL.Q.not_t (tru_bl (fn2 rfl (VL.Q.tup2 rfl rfl) i1))) (VL.Q.not_t (tru_bl (fn1 comp (all_true ns))))) rfl) (ret_ok (ecmp_ok (un_ok rfl ls) (fn1 rfl ln) ?_)))
  rw [eq_int]; simp
/-! ### ascending -/
def r30 : List Int := (List.range 30).map fun (i : Nat) => 1 + (i : Int)
theorem r30_mem {n : Int} : n ∈ r30 ↔ 1 ≤ n ∧ n ≤ 30 := by
  unfold r30
  simp only [List.mem_map, List.mem_range]
  constructor
  · rintro ⟨i, hi, rfl⟩; omega
  · intro h; exact ⟨(n - 1).toNat, by omega, by omega⟩
def asc (ns : List Int) : List Int := r30.filter fun n => decide (n ∈ ns)
theorem asc_mem {ns : List Int} (h : ∀ n ∈ ns, 1 ≤ n ∧ n ≤ 30) {n : Int} : n ∈ asc ns ↔ n ∈ ns := by
  unfold asc
  rw [List.mem_filter, r30_mem, decide_eq_true_eq]
  constructor
  · exact fun h => h.2
  · exact fun z => ⟨h n z, z⟩
theorem r30_nd : r30.Nodup := by unfold r30; decide
theorem asc_rw (ns : List Int) : Rw (asc ns) := by
  refine ⟨r30_nd.filter _, fun n hn => ?_, ?_⟩
  · exact r30_mem.mp (List.mem_filter.mp hn).1
  · have h := List.length_filter_le (fun n => decide (n ∈ ns)) r30
    have : r30.length = 30 := by decide
    unfold asc
    omega
theorem rng30 : rngD 1 30 = r30.map D.int := by unfold rngD r30; rw [List.map_map]; rfl
theorem fm_filter (p : Int → Bool) : ∀ (xs : List Int), (xs.map D.int).filterMap (fun d => match d with | .int n => if p n then some (.int n) else none | _ => none) = (xs.filter p).map D.int
  | [] => rfl
  | x :: xs => by
    rw [List.map_cons, List.filterMap_cons, List.filter_cons]
    cases h : p x
    · simp only [h]; exact fm_filter p xs
    · simp only [h, if_true, List.map_cons]; rw [← fm_filter p xs]
/-- numbers from 1 to 30 that a test takes -/
theorem comp_r30 (p : Int → Bool) {i : Nat} {tt : TF} {fe : EF} {st : SS} {L : LS} (h : ∀ n : Int, ∃ st1, tfName i (.int n) (wipeS st [i]) = some st1 ∧ tt st1 L = .ok (p n) L ∧ fe st1 L = .ok (.d (.int n)) L) :
    eComp (iRngW (aCons (eC (.int 1)) (aCons (eBinU addU (eC (.int 30)) (eC (.int 1))) aNil))) [i] (tfName i) tt fe st L = .ok (.d (li (r30.filter p))) L := by
  have e := comp_f (fi := iRngW (aCons (eC (.int 1)) (aCons (eBinU addU (eC (.int 30)) (eC (.int 1))) aNil))) (vs := [i]) (tf := tfName i) (tt := tt) (fe := fe) (st := st) (L := L) (xs := r30.map D.int) (fun d => match d with | .int n => if p n then some (.int n) else none | _ => none) (by
    rw [← rng30]; exact VL.Q.rngW_ok (VL.Q.ac_ok rfl (VL.Q.ac_ok (binU_ok rfl rfl addU_int) rfl)) rfl) (by simp [r30, big]) (fun d hd => by
      obtain ⟨n, _, rfl⟩ := List.mem_map.mp hd
      obtain ⟨st1, h1, h2, h3⟩ := h n
      refine ⟨st1, h1, ?_⟩
      cases hp : p n
      · rw [hp] at h2; exact .inr ⟨h2, by simp [hp]⟩
      · rw [hp] at h2; exact .inl ⟨_, h2, h3, by simp [hp]⟩)
  rw [e, fm_filter]
theorem in_sq {d : D} {ns : List Int} (q : Sq d ns) (n : Int) : inB (.int n) d = some (decide (n ∈ ns)) := by
  rcases q with rfl | rfl
  · exact VL.Q.in_l
  · exact VL.Q.in_t
theorem v_asc {d : D} {ns : List Int} (q : Sq d ns) (L : LS) : m_ascending [.d d] L = .ok (.d (ti (asc ns))) L := by
  have hu : m_ascending = fnF 1 2 (sRet (eFnU tupU (aCons (eComp (iRngW (aCons (eC (.int 1)) (aCons (eBinU addU (eC (.int 30)) (eC (.int 1))) aNil))) [1] (tfName 1) (bCmp inB (eVar 1) (eVar 0)) (eVar 1)) aNil))) := rfl
  rw [hu]
  exact fn_rt rfl (ret_ok (fnU1_ok (comp_r30 (fun n => decide (n ∈ ns)) fun n => ⟨[some (.d d), some (.d (.int n))], rfl, cmp_ok rfl rfl (in_sq q n), rfl⟩) rfl))
/-! ### the fewest rows -/
abbrev tr (rs : List (List Int)) : D := .tup (rs.map ti)
theorem toPy_ti (ns : List Int) : toPy (ti ns) = some (.tuple (ns.map .int)) := by
  simp [toPy, VL.Q.toPyL_ints]
theorem toPyL_tr : ∀ rs : List (List Int), toPyL (rs.map ti) = some (rs.map fun ns => PyData.tuple (ns.map .int))
  | [] => rfl
  | r :: rs => by
    rw [List.map_cons, toPyL, toPy_ti, toPyL_tr rs]; rfl
theorem dep_ints : ∀ ns : List Int, PyData.depthAll (ns.map PyData.int) ≤ 1
  | [] => by simp [PyData.depthAll]
  | n :: ns => by
    have := dep_ints ns
    simp only [List.map_cons, PyData.depthAll, PyData.depth]
    omega
theorem dep_rows : ∀ rs : List (List Int), PyData.depthAll (rs.map fun ns => PyData.tuple (ns.map .int)) ≤ 3
  | [] => by simp [PyData.depthAll]
  | r :: rs => by
    have h1 := dep_rows rs
    have h2 := dep_ints r
    simp only [List.map_cons, PyData.depthAll, PyData.depth]
    omega
theorem eqv_ints : ∀ ns ms : List Int, PyData.eqvAll (ns.map PyData.int) (ms.map PyData.int) = decide (ns = ms)
  | [], [] => by simp [PyData.eqvAll]
  | [], _ :: _ => by simp [PyData.eqvAll]
  | _ :: _, [] => by simp [PyData.eqvAll]
  | a :: r, b :: t => by
    simp only [List.map_cons, PyData.eqvAll, PyData.eqv, eqv_ints r t]
    by_cases h : a = b <;> by_cases h' : r = t <;> simp [h, h']
theorem eqv_rows : ∀ rs qs : List (List Int), PyData.eqvAll (rs.map fun ns => PyData.tuple (ns.map .int)) (qs.map fun ns => PyData.tuple (ns.map .int)) = decide (rs = qs)
  | [], [] => by simp [PyData.eqvAll]
  | [], _ :: _ => by simp [PyData.eqvAll]
  | _ :: _, [] => by simp [PyData.eqvAll]
  | a :: r, b :: t => by
    simp only [List.map_cons, PyData.eqvAll, PyData.eqv, eqv_rows r t, eqv_ints a b]
    by_cases h : a = b <;> by_cases h' : r = t <;> simp [h, h']
theorem eq_tr (rs qs : List (List Int)) : eqB (tr rs) (tr qs) = some (decide (rs = qs)) := by
  have hd : (PyData.tuple (rs.map fun ns => PyData.tuple (ns.map .int))).depth ≤ 64 := by
    have := dep_rows rs
    simp only [PyData.depth]
    omega
  simp only [eqB, toPy, toPyL_tr, Option.map_some, Option.bind_some, hd, if_true]
  congr 1
  simp only [PyData.eqv, eqv_rows]
theorem eq_li (ns ms : List Int) : eqB (li ns) (li ms) = some (decide (ns = ms)) := by
  have hd : (PyData.list (ns.map .int)).depth ≤ 64 := by
    have := dep_ints ns
    simp only [PyData.depth]
    omega
  simp only [eqB, toPy, VL.Q.toPyL_ints, Option.map_some, Option.bind_some, hd, if_true]
  congr 1
  simp only [PyData.eqv, eqv_ints]
def rowAt (rs : List (List Int)) (d : Int) : List Int := rs.getD (d % (rs.length : Int)).toNat []
theorem rowAt_lt {rs : List (List Int)} (h : rs ≠ []) (d : Int) : (d % (rs.length : Int)).toNat < rs.length := by
  have hl : 0 < rs.length := List.length_pos_iff.mpr h
  have h1 := Int.emod_nonneg d (show (rs.length : Int) ≠ 0 by omega)
  have h2 := Int.emod_lt_of_pos d (show (0 : Int) < (rs.length : Int) by omega)
  omega
theorem rowAt_mem {rs : List (List Int)} (h : rs ≠ []) (d : Int) : rowAt rs d ∈ rs := by
  unfold rowAt
  rw [List.getD_eq_getElem?_getD, List.getElem?_eq_getElem (rowAt_lt h d)]
  exact List.getElem_mem _
theorem flat_get {α : Type} (xs : List α) : ∀ (k i : Nat), i < k * xs.length → (List.replicate k xs).flatten[i]? = xs[i % xs.length]?
  | 0, i, h => by omega
  | k + 1, i, h => by
    rw [List.replicate_succ, List.flatten_cons]
    by_cases hi : i < xs.length
    · rw [List.getElem?_append_left hi, Nat.mod_eq_of_lt hi]
    · rw [List.getElem?_append_right (by omega), flat_get xs k (i - xs.length) (by rw [Nat.succ_mul] at h; omega)]
      have : i % xs.length = (i - xs.length) % xs.length := Nat.mod_eq_sub_mod (by omega)
      rw [this]
theorem rowAt_least {rs : List (List Int)} {m k : Nat} (hm : 0 < m) (hl : rs.length = m * k) (hk : 0 < k) (e : rs = (List.replicate k (rs.take m)).flatten) (d : Int) : rowAt (rs.take m) d = rowAt rs d := by
  have hml : m ≤ rs.length := by rw [hl]; exact Nat.le_mul_of_pos_right m hk
  have ht : (rs.take m).length = m := by simp; omega
  have hne : rs ≠ [] := fun z => by rw [z] at hml; simp at hml; omega
  have h2 := rowAt_lt hne d
  unfold rowAt
  rw [ht]
  have e1 : rs[(d % (rs.length : Int)).toNat]? = (rs.take m)[(d % (rs.length : Int)).toNat % m]? := by
    have := flat_get (rs.take m) k (d % (rs.length : Int)).toNat (by rw [ht, Nat.mul_comm, ← hl]; exact h2)
    rw [← e, ht] at this
    exact this
  rw [List.getD_eq_getElem?_getD, List.getD_eq_getElem?_getD, e1]
  congr 2
  have h3 := Int.emod_nonneg d (show (rs.length : Int) ≠ 0 by omega)
  have h4 : (d % (rs.length : Int)) % (m : Int) = d % (m : Int) := by
    rw [hl]
    have : ((m * k : Nat) : Int) = (m : Int) * (k : Int) := by push_cast; rfl
    rw [this]
    exact Int.emod_emod_of_dvd d ⟨(k : Int), rfl⟩
  have h5 : ((d % (rs.length : Int)).toNat % m : Nat) = ((d % (rs.length : Int)) % (m : Int)).toNat := by
    rw [Int.toNat_emod h3 (by omega)]
    simp
  rw [h5, h4]
end VL.P

set_option Elab.async false
set_option linter.all false
set_option maxRecDepth 100000
set_option maxHeartbeats 4000000
namespace VL.P
open PySem PySem.Spec PyProof.Rows L2 VL VL.Sy
open PySem.W (Frag)
open VL.Q (pos1 pos2 pos3 pos4 bin_ok un_ok fn1 fn2)
structure Least (rs rs' : List (List Int)) : Prop where
  ne : rs' ≠ []
  len : rs'.length ≤ rs.length
  mem : ∀ r ∈ rs', r ∈ rs
  at_ : ∀ d, rowAt rs' d = rowAt rs d
theorem sl_ok {fa fb : EF} {st : SS} {L : LS} {x y : D} {i : Int} (h1 : fa st L = .ok (.d x) L) (h2 : fb st L = .ok (.d (.int i)) L) (h3 : sliceA x none (some i) = some y) : eSlA fa oNone (oSome fb) st L = .ok (.d y) L := by
  simp [eSlA, oNone, oSome, h1, h2, Rs.bind, rdU, opt, h3]
theorem sl_ok1 {fa fb : EF} {st : SS} {L : LS} {x y : D} {i : Int} (h1 : fa st L = .ok (.d x) L) (h2 : fb st L = .ok (.d (.int i)) L) (h3 : sliceA x (some i) none = some y) : eSlA fa (oSome fb) oNone st L = .ok (.d y) L := by
  simp [eSlA, oNone, oSome, h1, h2, Rs.bind, rdU, opt, h3]
theorem cut_to {α : Type} (xs : List α) (m : Nat) (h : m ≤ xs.length) : cutG xs none (some (m : Int)) = xs.take m := by
  unfold cutG
  rw [HT.sIx_nat, HT.sIx_none]
  simp [Nat.min_eq_left h]
theorem cut_from {α : Type} (xs : List α) (m : Nat) (h : m ≤ xs.length) : cutG xs (some (m : Int)) none = xs.drop m := by
  unfold cutG
  rw [HT.sIx_nat, HT.sIx_none, Nat.min_eq_left h]
  exact List.take_of_length_le (by simp)
theorem len_tr (rs : List (List Int)) : lenD [tr rs] = some (.int rs.length) := by simp [lenD]
def leastB : SF := (sIf (bAnd (bCmp eqB (eBin modD (eFn lenD (aCons (eVar 0) aNil)) (eVar 1)) (eC (.int 0))) (bCmp eqB (eVar 0) (eBinU mulA (eSlA (eVar 0) oNone (oSome (eVar 1))) (eBin divD (eFn lenD (aCons (eVar 0) aNil)) (eVar 1))))) (sRet (eSlA (eVar 0) oNone (oSome (eVar 1)))) sNil)
theorem leastB_eq : leastB = sIf (bAnd (bCmp eqB (eBin modD (eFn lenD (aCons (eVar 0) aNil)) (eVar 1)) (eC (.int 0))) (bCmp eqB (eVar 0) (eBinU mulA (eSlA (eVar 0) oNone (oSome (eVar 1))) (eBin divD (eFn lenD (aCons (eVar 0) aNil)) (eVar 1))))) (sRet (eSlA (eVar 0) oNone (oSome (eVar 1)))) sNil := rfl
theorem least_step {rs : List (List Int)} (hl : rs.length ≤ 60) {m : Nat} (h1 : 1 ≤ m) (h2 : m < rs.length) (L : LS) :
    leastB [some (.d (tr rs)), some (.d (.int (m : Int)))] L = .nx [some (.d (tr rs)), some (.d (.int (m : Int)))] L ∨ (leastB [some (.d (tr rs)), some (.d (.int (m : Int)))] L = .rt (.d (tr (rs.take m))) L ∧ Least rs (rs.take m)) := by
  have hm : 0 < (m : Int) := by omega
  have htl : (rs.take m).length = m := by rw [List.length_take]; omega
  have e1 : modD (.int (rs.length : Int)) (.int (m : Int)) = some (.int ((rs.length : Int) % (m : Int))) := by
    simp only [modD]
    rw [if_pos hm]
  have t1 := cmp_ok (g := eqB) (a := eBin modD (eFn lenD (aCons (eVar 0) aNil)) (eVar 1)) (b := eC (.int 0)) (st := [some (.d (tr rs)), some (.d (.int (m : Int)))]) (L := L) (bin_ok (fn1 rfl (len_tr rs)) rfl e1) rfl (eq_int _ _)
  have s1 : sliceA (tr rs) none (some (m : Int)) = some (tr (rs.take m)) := by
    show some (D.tup (cutG (rs.map ti) none (some (m : Int)))) = _
    rw [cut_to _ _ (by simp; omega), ← List.map_take]
  have sl := sl_ok (fa := eVar 0) (fb := eVar 1) (st := [some (.d (tr rs)), some (.d (.int (m : Int)))]) (L := L) rfl rfl s1
  rw [leastB_eq]
  by_cases hmod : (rs.length : Int) % (m : Int) = 0
  · have hdvd : (m : Int) ∣ (rs.length : Int) := Int.dvd_of_emod_eq_zero hmod
    obtain ⟨k, hk⟩ := Int.natCast_dvd_natCast.mp hdvd
    have hk2 : 2 ≤ k := by
      rcases Nat.lt_or_ge k 2 with h | h
      · have : k = 0 ∨ k = 1 := by omega
        rcases this with rfl | rfl
        · omega
        · omega
      · exact h
    have hk60 : k ≤ 60 := by
      have : 1 * k ≤ m * k := Nat.mul_le_mul_right k h1
      omega
    have e2 : divD (.int (rs.length : Int)) (.int (m : Int)) = some (.int (k : Int)) := by
      have hh : (0 : Int) < (m : Int) ∧ (m : Int) < 1073741824 := ⟨hm, by omega⟩
      simp only [divD, hh, and_self, if_true]
      congr 2
      rw [hk]
      push_cast
      rw [Int.mul_ediv_cancel_left _ (by omega)]
    have hmul : mulA (.d (tr (rs.take m))) (.d (.int (k : Int))) L = .ok (.d (tr (List.replicate k (rs.take m)).flatten)) L := by
      have hne : (rs.take m).map ti ≠ [] := by
        intro z
        have := congrArg List.length z
        rw [List.length_map, htl] at this
        simp at this
        omega
      have a1 : ¬ ((k : Int) = 1) := by omega
      have a2 : ¬ ((k : Int) = 0) := by omega
      have a3 : (rs.take m).map ti ≠ [] ∧ (2 : Int) ≤ (k : Int) ∧ (k : Int) ≤ 1000 ∧ ((rs.take m).map ti).length ≤ 1000 := ⟨hne, by omega, by omega, by simp; omega⟩
      show (if (rs.take m).map ti = [] then Rs.no else if (k : Int) = 1 then .ok (.d (.tup ((rs.take m).map ti))) L else if (k : Int) = 0 then .ok (.d (.tup [])) L else tmulU (.d (tr (rs.take m))) (.d (.int (k : Int))) L) = _
      rw [if_neg hne, if_neg a1, if_neg a2]
      show (if (rs.take m).map ti ≠ [] ∧ (2 : Int) ≤ (k : Int) ∧ (k : Int) ≤ 1000 ∧ ((rs.take m).map ti).length ≤ 1000 then Rs.ok (U.d (.tup (List.replicate (k : Int).toNat ((rs.take m).map ti)).flatten)) L else .no) = _
      rw [if_pos a3, Int.toNat_natCast]
      congr 3
      rw [List.map_flatten, List.map_replicate]
    have t2 := cmp_ok (g := eqB) (a := eVar 0) (b := eBinU mulA (eSlA (eVar 0) oNone (oSome (eVar 1))) (eBin divD (eFn lenD (aCons (eVar 0) aNil)) (eVar 1))) (st := [some (.d (tr rs)), some (.d (.int (m : Int)))]) (L := L) (x := tr rs) (L1 := L) rfl (binU_ok sl (bin_ok (fn1 rfl (len_tr rs)) rfl e2) hmul) (eq_tr _ _)
    rw [decide_eq_true hmod] at t1
    by_cases he : rs = (List.replicate k (rs.take m)).flatten
    · rw [decide_eq_true he] at t2
      refine .inr ⟨if_t (and_tt t1 t2) (ret_ok sl), ⟨fun z => ?_, by simp; omega, fun r hr => List.mem_of_mem_take hr, rowAt_least (by omega) hk (by omega) he⟩⟩
      have := congrArg List.length z
      rw [htl] at this
      simp at this
      omega
    · rw [decide_eq_false he] at t2
      exact .inl (if_f (and_tt t1 t2) rfl)
  · rw [decide_eq_false hmod] at t1
    exact .inl (if_f (and_f t1) rfl)
theorem v_least {rs : List (List Int)} (hne : rs ≠ []) (hl : rs.length ≤ 60) (L : LS) : ∃ rs', m_least_rows [.d (tr rs)] L = .ok (.d (tr rs')) L ∧ Least rs rs' := by
  have hp : 0 < rs.length := List.length_pos_iff.mpr hne
  have hu : m_least_rows = fnF 1 2 (sSeq (sFor (iRngW (aCons (eC (.int 1)) (aCons (eFn lenD (aCons (eVar 0) aNil)) aNil))) (tfName 1) leastB) (sRet (eVar 0))) := rfl
  rw [hu]
  have hi : iRngW (aCons (eC (.int 1)) (aCons (eFn lenD (aCons (eVar 0) aNil)) aNil)) [some (.d (tr rs)), none] L = .ok (rngD 1 (rs.length - 1)) L := VL.Q.rngW_ok (VL.Q.ac_ok rfl (VL.Q.ac_ok (fn1 rfl (len_tr rs)) rfl)) (by omega)
  rcases VL.Q.for_go (tf := tfName 1) (body := leastB) (fun j st M => M = L ∧ ∃ w, st = [some (.d (tr rs)), w]) (fun u M => M = L ∧ ∃ rs', u = .d (tr rs') ∧ Least rs rs') hi ⟨rfl, none, rfl⟩ (by
    intro j d st M hd ⟨e1, w, e2⟩
    subst e1 e2
    obtain ⟨hj, rfl⟩ := VL.Q.rng_get hd
    refine ⟨[some (.d (tr rs)), some (.d (.int ((j + 1 : Nat) : Int)))], by rw [show (1 : Int) + (j : Int) = ((j + 1 : Nat) : Int) by omega]; rfl, ?_⟩
    rcases least_step hl (m := j + 1) (by omega) (by omega) M with e | ⟨e, q⟩
    · exact .inl ⟨_, _, e, rfl, _, rfl⟩
    · exact .inr ⟨_, _, e, rfl, _, rfl, q⟩) with ⟨st', L', e, rfl, w, rfl⟩ | ⟨u, L', e, rfl, rs', rfl, q⟩
  · exact ⟨rs, fn_rt rfl (seq_nx e (ret_ok rfl)), ⟨hne, Nat.le_refl _, fun r h => h, fun d => rfl⟩⟩
  · exact ⟨rs', fn_rt rfl (seq_rt e), q⟩
/-! ### a book is made -/
inductive Rws : List D → List (List Int) → Prop
  | nil : Rws [] []
  | cons {d : D} {ns : List Int} {ds : List D} {rs : List (List Int)} : Sq d ns → Rw ns → Rws ds rs → Rws (d :: ds) (ns :: rs)
theorem Rws.len {ds : List D} {rs : List (List Int)} (h : Rws ds rs) : ds.length = rs.length := by
  induction h with
  | nil => rfl
  | cons _ _ _ ih => simp [ih]
theorem Rws.get {ds : List D} {rs : List (List Int)} (h : Rws ds rs) : ∀ {i : Nat} {d : D}, ds[i]? = some d → ∃ ns, rs[i]? = some ns ∧ Sq d ns ∧ Rw ns := by
  induction h with
  | nil => intro i d e; simp at e
  | cons q r _ ih =>
    intro i d e
    cases i with
    | zero => simp at e; subst e; exact ⟨_, rfl, q, r⟩
    | succ i => exact ih (by simpa using e)
/-- a book that is made of rows -/
structure Made (rows rs : List (List Int)) : Prop where
  ne : rs ≠ []
  len : rs.length ≤ rows.length
  at_ : ∀ d, rowAt rs d = asc (rowAt rows d)
  mem : ∀ r ∈ rs, ∃ q ∈ rows, r = asc q
theorem rowAt_map {rows : List (List Int)} (hne : rows ≠ []) (d : Int) : rowAt (rows.map asc) d = asc (rowAt rows d) := by
  have := rowAt_lt hne d
  unfold rowAt
  rw [List.length_map, List.getD_eq_getElem?_getD, List.getD_eq_getElem?_getD, List.getElem?_map, List.getElem?_eq_getElem this]
  rfl
def initF1 : SF := (sFor (iEnumG itT (aCons (eVar 1) aNil)) (tfTup 2 (tfCons (tfName 2) (tfCons (tfName 3) tfNil))) (sIf (bNot (bTru (eCall m_is_row [.p 0] 1 0 (cPos (aCons (eVar 3) aNil))))) (sRaise 88 ["part"] (aCons (eVar 2) aNil)) sNil))
def initF2 : SF := (sFor (iIt itT (eVar 1)) (tfName 3) (sDrop (eAppend (eVar 4) (eCall m_ascending [.p 0] 1 0 (cPos (aCons (eVar 3) aNil))))))
def initEnd : SF := (sFld cs_rows "rows" (eVar 0) (eCall m_least_rows [.p 0] 1 0 (cPos (aCons (eFnU tupU (aCons (eVar 4) aNil)) aNil))))
theorem init_eq : m_Book_init = fnF 2 5 (sSeq (sIf (bNot (bChain leB leB (eC (.int 1)) (eFn lenD (aCons (eVar 1) aNil)) (eC (.int 60)))) (sRaise 88 ["part"] (aCons (eC (.str "rows")) aNil)) sNil) (sSeq initF1 (sSeq (sSet 4 (eLstL aNil)) (sSeq initF2 initEnd)))) := rfl
theorem init_f1 {ds : List D} {rows : List (List Int)} (h : Rws ds rows) (hl : rows.length ≤ 60) (u : Option U) (L : LS) : ∃ w2 w3, initF1 [u, some (.d (.tup ds)), none, none, none] L = .nx [u, some (.d (.tup ds)), w2, w3, none] L := by
  have hb : initF1 = sFor (iEnumG itT (aCons (eVar 1) aNil)) (tfTup 2 (tfCons (tfName 2) (tfCons (tfName 3) tfNil))) (sIf (bNot (bTru (eCall m_is_row [.p 0] 1 0 (cPos (aCons (eVar 3) aNil))))) (sRaise 88 ["part"] (aCons (eVar 2) aNil)) sNil) := rfl
  rw [hb]
  have hi : iEnumG itT (aCons (eVar 1) aNil) [u, some (.d (.tup ds)), none, none, none] L = .ok (enumD 0 ds) L := by
    simp [iEnumG, aCons, aNil, eVar, Rs.bind, fzUs, fzU, opt, itemsOf]
  obtain ⟨st', L', e, rfl, w2, w3, rfl⟩ := VL.Q.for_nx (tf := tfTup 2 (tfCons (tfName 2) (tfCons (tfName 3) tfNil))) (body := (sIf (bNot (bTru (eCall m_is_row [.p 0] 1 0 (cPos (aCons (eVar 3) aNil))))) (sRaise 88 ["part"] (aCons (eVar 2) aNil)) sNil)) (fun j st M => M = L ∧ ∃ w2 w3, st = [u, some (.d (.tup ds)), w2, w3, none]) hi ⟨rfl, none, none, rfl⟩ (by
    intro j d st M hd ⟨e1, w2, w3, e2⟩
    subst e1 e2
    obtain ⟨x, hx, rfl⟩ := enumD_get hd
    obtain ⟨ns, _, q, r⟩ := h.get hx
    refine ⟨[u, some (.d (.tup ds)), some (.d (.int ((0 + j : Nat) : Int))), some (.d x), none], _, _, rfl, if_f (VL.Q.not_t (tru_bl (call_ok (pos1 rfl) rfl rfl rfl (v_is_row q r M)))) rfl, rfl, _, _, rfl⟩)
  exact ⟨w2, w3, e⟩
theorem app_ok {fo fe : EF} {st : SS} {L : LS} {n : Nat} {xs : List D} {x : D} (h1 : fo st L = .ok (.l n) L) (hn : L[n]? = some (.l xs)) (h2 : fe st L = .ok (.d x) L) (hl : xs.length < big) : eAppend fo fe st L = .ok (.d .non) (L.set n (.l (xs ++ [x]))) := by
  simp [eAppend, h1, Rs.bind, hn, h2, apnd, fzU, opt, hl]
theorem init_f2 {ds : List D} {rows : List (List Int)} (h : Rws ds rows) (hl : rows.length ≤ 60) (u w2 w3 : Option U) (L : LS) :
    ∃ w3', initF2 [u, some (.d (.tup ds)), w2, w3, some (.l L.length)] (L ++ [.l []]) = .nx [u, some (.d (.tup ds)), w2, w3', some (.l L.length)] (L ++ [.l ((rows.map asc).map ti)]) := by
  have hb : initF2 = sFor (iIt itT (eVar 1)) (tfName 3) (sDrop (eAppend (eVar 4) (eCall m_ascending [.p 0] 1 0 (cPos (aCons (eVar 3) aNil))))) := rfl
  rw [hb]
  have hi : iIt itT (eVar 1) [u, some (.d (.tup ds)), w2, w3, some (.l L.length)] (L ++ [.l []]) = .ok ds (L ++ [.l []]) := VL.Q.it_t rfl
  obtain ⟨st', L', e, rfl, w3', rfl⟩ := VL.Q.for_nx (tf := tfName 3) (body := sDrop (eAppend (eVar 4) (eCall m_ascending [.p 0] 1 0 (cPos (aCons (eVar 3) aNil))))) (fun j st M => M = L ++ [.l (((rows.take j).map asc).map ti)] ∧ ∃ w3, st = [u, some (.d (.tup ds)), w2, w3, some (.l L.length)]) hi ⟨rfl, w3, rfl⟩ (by
    intro j d st M hd ⟨e1, w3, e2⟩
    subst e1 e2
    obtain ⟨ns, hn, q, r⟩ := h.get hd
    have hj : j < rows.length := (List.getElem?_eq_some_iff.mp hn).1
    have ev : rows[j] = ns := by rw [List.getElem?_eq_getElem hj] at hn; exact Option.some.inj hn
    refine ⟨[u, some (.d (.tup ds)), w2, some (.d d), some (.l L.length)], _, _, rfl, drop_ok (app_ok (n := L.length) (xs := ((rows.take j).map asc).map ti) rfl (get_new _ _) (call_ok (pos1 rfl) rfl rfl rfl (v_asc q _)) (by simp [big]; omega)), ?_, _, rfl⟩
    rw [set_new, List.take_succ_eq_append_getElem hj, ev]
    simp)
  refine ⟨w3', ?_⟩
  rw [e, h.len, List.take_length]
theorem fld_run {Cs : List Addr} {f : Str} {fo fe : EF} {st : SS} {L L1 L2 : LS} {x : D} {n : Nat} (h1 : fe st L = .ok (.d x) L1) (h2 : fo st L1 = .ok (.l n) L1) (h3 : putFld Cs f (.l n) (.d x) L1 = some L2) : sFld Cs f fo fe st L = .nx st L2 := by
  simp [sFld, h1, h2, ofR, h3, optS]
theorem fn_nx {n N : Nat} {b : SF} {us : List U} {L L1 M : LS} {st1 : SS} (hn : us.length = n) (h : b (us.map some ++ List.replicate (N - n) none) L = .nx st1 L1) (hm : L1.take L.length = M) : fnF n N b us L = .ok (.d .non) M := by
  unfold fnF
  rw [if_pos hn, h]
  simp only [hm]
theorem v_Book_init {ds : List D} {rows : List (List Int)} (h : Rws ds rows) (hne : rows ≠ []) (hl : rows.length ≤ 60) (L : LS) : ∃ rs, m_Book_init [.l L.length, .d (.tup ds)] (L ++ [.i 441 [] []]) = .ok (.d .non) (L ++ [.i 441 ["rows"] [tr rs]]) ∧ Made rows rs := by
  have hp : 0 < rows.length := List.length_pos_iff.mpr hne
  obtain ⟨w2, w3, e1⟩ := init_f1 h hl (some (.l L.length)) (L ++ [.i 441 [] []])
  obtain ⟨w3', e2⟩ := init_f2 h hl (some (.l L.length)) w2 w3 (L ++ [.i 441 [] []])
  obtain ⟨rs, e3, q⟩ := v_least (rs := rows.map asc) (by simpa using hne) (by simpa using hl) (L ++ [.i 441 [] []] ++ [.l ((rows.map asc).map ti)])
  refine ⟨rs, ?_, ⟨q.ne, by simpa using q.len, fun d => by rw [q.at_, rowAt_map hne], fun r hr => ?_⟩⟩
  · rw [init_eq]
    have ln : lenD [D.tup ds] = some (.int (rows.length : Int)) := by simp [lenD, h.len]
    have c0 := VL.Q.chain_ok (fa := eC (.int 1)) (fb := eFn lenD (aCons (eVar 1) aNil)) (fc := eC (.int 60)) (st := [some (.l L.length), some (.d (.tup ds)), none, none, none]) (L := L ++ [.i 441 [] []]) (a := 1) (c := 60) rfl (fn1 rfl ln) rfl
    have c1 : (decide ((1 : Int) ≤ (rows.length : Int)) && decide ((rows.length : Int) ≤ 60)) = true := by
      rw [Bool.and_eq_true]; exact ⟨decide_eq_true (by omega), decide_eq_true (by omega)⟩
    rw [c1] at c0
    have hs : initEnd [some (.l L.length), some (.d (.tup ds)), w2, w3', some (.l (L ++ [LO.i 441 [] []]).length)] (L ++ [.i 441 [] []] ++ [.l ((rows.map asc).map ti)]) = .nx [some (.l L.length), some (.d (.tup ds)), w2, w3', some (.l (L ++ [LO.i 441 [] []]).length)] (L ++ [.i 441 ["rows"] [tr rs]] ++ [.l ((rows.map asc).map ti)]) := by
      have hb : initEnd = sFld cs_rows "rows" (eVar 0) (eCall m_least_rows [.p 0] 1 0 (cPos (aCons (eFnU tupU (aCons (eVar 4) aNil)) aNil))) := rfl
      rw [hb]
      have g4 : eFnU tupU (aCons (eVar 4) aNil) [some (.l L.length), some (.d (.tup ds)), w2, w3', some (.l (L ++ [LO.i 441 [] []]).length)] (L ++ [.i 441 [] []] ++ [.l ((rows.map asc).map ti)]) = .ok (.d (tr (rows.map asc))) (L ++ [.i 441 [] []] ++ [.l ((rows.map asc).map ti)]) := by
        refine fnU1_ok (u := .l (L ++ [LO.i 441 [] []]).length) rfl ?_
        show (opt (Option.map LO.rd (L ++ [LO.i 441 [] []] ++ [LO.l ((rows.map asc).map ti)])[(L ++ [LO.i 441 [] []]).length]?) fun d => (match d with
          | .lst xs => Rs.ok (U.d (.tup xs)) (L ++ [LO.i 441 [] []] ++ [LO.l ((rows.map asc).map ti)])
          | .tup xs => .ok (.d (.tup xs)) (L ++ [LO.i 441 [] []] ++ [LO.l ((rows.map asc).map ti)])
          | _ => .no)) = _
        rw [get_new]
        rfl
      have g5 := call_ok (m := m_least_rows) (src := [.p 0]) (n := 1) (l := 0) (pos1 g4) rfl rfl rfl e3
      have hc : (441 : Addr) ∈ cs_rows := by decide
      have hat : (L ++ [LO.i 441 [] []] ++ [LO.l ((rows.map asc).map ti)])[L.length]? = some (.i 441 [] []) := by
        rw [List.getElem?_append_left (by simp), get_new]
      have hset : (L ++ [LO.i 441 [] []] ++ [LO.l ((rows.map asc).map ti)]).set L.length (.i 441 ["rows"] [tr rs]) = L ++ [LO.i 441 ["rows"] [tr rs]] ++ [LO.l ((rows.map asc).map ti)] := by
        rw [List.set_append_left _ _ (by simp), set_new]
      refine fld_run g5 (n := L.length) rfl ?_
      show (Option.bind (some (tr rs, L ++ [LO.i 441 [] []] ++ [LO.l ((rows.map asc).map ti)])) fun p => (match p.2[L.length]? with
        | some (.i C ns xs) => if ns.length < 1000 ∧ C ∈ cs_rows then some (p.2.set L.length (.i C (putN "rows" p.1 ns xs).1 (putN "rows" p.1 ns xs).2)) else none
        | _ => none)) = _
      simp only [Option.bind_some, hat]
      rw [if_pos ⟨by decide, hc⟩]
      exact congrArg some hset
    refine fn_nx rfl (seq_nx (if_f (VL.Q.not_t c0) rfl) (seq_nx e1 (seq_nx (set_ok VL.Q.lstL0) (seq_nx e2 hs)))) ?_
    rw [List.take_append_of_le_length (by simp)]
    exact List.take_of_length_le (by simp)
  · obtain ⟨x, hx, rfl⟩ := List.mem_map.mp (q.mem r hr)
    exact ⟨x, hx, rfl⟩
end VL.P

set_option Elab.async false
set_option linter.all false
set_option maxRecDepth 100000
set_option maxHeartbeats 4000000
namespace VL.P
open PySem PySem.Spec PyProof.Rows L2 VL VL.Sy
open PySem.W (Frag)
open VL.Q (pos1 pos2 pos3 pos4 bin_ok un_ok fn1 fn2)
theorem v_mkBook {ds : List D} {rows : List (List Int)} (h : Rws ds rows) (hne : rows ≠ []) (hl : rows.length ≤ 60) (L : LS) : ∃ rs, Made rows rs ∧ ∀ {fc : CF} {st : SS}, fc st L = .ok (ds.map .d, []) L → eRest (eMakeS 441 m_Book_init fc) st L = .ok (.d (book rs)) L := by
  obtain ⟨rs, e, q⟩ := v_Book_init h hne hl L
  refine ⟨rs, q, fun {fc st} h1 => ?_⟩
  have hb : ds.length ≤ big := by rw [h.len]; unfold big; omega
  have e1 : eMakeS 441 m_Book_init fc st L = .ok (.l L.length) (L ++ [.i 441 ["rows"] [tr rs]]) := by
    unfold eMakeS
    rw [h1]
    show (opt (fzUs L (ds.map U.d)) fun q => if q.1.length ≤ big then (m_Book_init [.l q.2.length, .d (.tup q.1)] (q.2 ++ [.i 441 [] []])).bind fun u L2 => (match u with
      | .d .non => Rs.ok (U.l q.2.length) L2
      | _ => .no) else .no) = _
    rw [VL.Q.fz_ds]
    simp only [opt, hb, if_true, e, Rs.bind]
  refine VL.Q.rest_ok (L2 := L ++ [.z (book rs)]) e1 ?_ (take_new _ _)
  simp [fzU, get_new, set_new, LO.rd]
theorem at_lt {xs : List D} {i : Int} (h0 : 0 ≤ i) (h : i.toNat < xs.length) : atI xs i = some xs[i.toNat] := by
  have h2 : i < (xs.length : Int) := by omega
  simp [atI, ixN, h0, h2, h]
theorem ix_rows {rs : List (List Int)} (hne : rs ≠ []) (d : Int) : ixD (tr rs) (.int (d % (rs.length : Int))) = some (ti (rowAt rs d)) := by
  have h1 := rowAt_lt hne d
  have hl : 0 < rs.length := List.length_pos_iff.mpr hne
  have h0 := Int.emod_nonneg d (show (rs.length : Int) ≠ 0 by omega)
  show atI (rs.map ti) _ = _
  rw [at_lt h0 (by simpa using h1), List.getElem_map]
  unfold rowAt
  rw [List.getD_eq_getElem?_getD, List.getElem?_eq_getElem h1]
  rfl
theorem mod_len {rs : List (List Int)} (hne : rs ≠ []) (d : Int) : modD (.int d) (.int (rs.length : Int)) = some (.int (d % (rs.length : Int))) := by
  have hl : 0 < rs.length := List.length_pos_iff.mpr hne
  simp only [modD]
  rw [if_pos (by omega)]
theorem v_row_on {rs : List (List Int)} (hne : rs ≠ []) (d : Int) (L : LS) : m_Book_row_on [.d (book rs), .d (.int d)] L = .ok (.d (ti (rowAt rs d))) L := by
  have hu : m_Book_row_on = fnF 2 2 (sRet (eBin ixD (eUn (fldT cs_rows "rows") (eVar 0)) (eBin modD (eVar 1) (eFn lenD (aCons (eUn (fldT cs_rows "rows") (eVar 0)) aNil))))) := rfl
  rw [hu]
  exact fn_rt rfl (ret_ok (bin_ok (un_ok rfl (f_rows rs)) (bin_ok rfl (fn1 (un_ok rfl (f_rows rs)) (len_tr rs)) (mod_len hne d)) (ix_rows hne d)))
/-! ### the dict of days -/
def od : Option Int → D
  | none => .non
  | some p => .int p
abbrev kys (c : Tb) : List Key := c.map fun p => .inl p.1
abbrev vls (c : Tb) : List D := c.map fun p => od p.2
theorem val_look (c : Tb) (k : Int) : valKD ((kys c).zip (vls c)) (.inl k) = (look c k).map od := by
  induction c with
  | nil => rfl
  | cons p c ih =>
    unfold valKD look at *
    simp only [List.map_cons, List.zip_cons_cons, List.find?_cons]
    by_cases h : p.1 = k
    · simp [h]
    · have h' : ¬ ((Sum.inl p.1 : Key) = Sum.inl k) := fun z => h (Sum.inl.inj z)
      simp only [h, h', decide_false]
      exact ih
theorem key_any (c : Tb) (k : Int) : (((kys c).zip (vls c)).any fun kv => decide (kv.1 = (Sum.inl k : Key))) = (look c k).isSome := by
  induction c with
  | nil => rfl
  | cons p c ih =>
    unfold look at *
    simp only [List.map_cons, List.zip_cons_cons, List.find?_cons, List.any_cons]
    by_cases h : p.1 = k
    · simp [h]
    · have h' : ¬ ((Sum.inl p.1 : Key) = Sum.inl k) := fun z => h (Sum.inl.inj z)
      simp only [h, h', decide_false, Bool.false_or]
      exact ih
theorem in_dic (c : Tb) (k : Int) : inDicB (.int k) (.dic (kys c) (vls c)) = some (look c k).isSome := by
  show (Option.map (fun k => (valKD ((kys c).zip (vls c)) k).isSome) (some (.inl k : Key))) = _
  simp [val_look]
theorem notin_dic (c : Tb) (k : Int) : notInDicB (.int k) (.dic (kys c) (vls c)) = some (!(look c k).isSome) := by
  unfold notInDicB
  rw [in_dic]; rfl
theorem ix_dic {c : Tb} {k p : Int} (h : look c k = some (some p)) : ixDicD (.dic (kys c) (vls c)) (.int k) = some (.int p) := by
  show (Option.bind (some (.inl k : Key)) fun k => valKD ((kys c).zip (vls c)) k) = _
  simp [val_look, h, od]
theorem setd_ok (c : Tb) (k p : Int) (L : LS) (hl : c.length < 1000000) : ∃ u, setD L.length (.d (.int k)) (.d (.int p)) (L ++ [.d (kys c) (vls c)]) = .ok u (L ++ [.d (kys (ins c k p)) (vls (ins c k p))]) := by
  have hb : (kys c).length < big := by simp [big]; omega
  have e0 : keyU' (L ++ [LO.d (kys c) (vls c)]) (.d (.int k)) = some (.inl k) := rfl
  simp only [setD, e0, opt, fzU, get_new, hb, if_true, val_look]
  cases h : look c k with
  | some q =>
    have e : ins c k p = c := by unfold ins; rw [h]; rfl
    rw [e]
    exact ⟨_, rfl⟩
  | none =>
    have e : ins c k p = c ++ [(k, some p)] := by unfold ins; rw [h]; rfl
    have ea := key_any c k
    rw [h] at ea
    have z := zip_keys (ks := kys c) (xs := vls c) (by simp)
    simp only [Option.map_none]
    rw [set_new, e]
    have ep : putKD ((kys c).zip (vls c)) (.inl k) (.int p) = (kys c).zip (vls c) ++ [(.inl k, .int p)] := by
      unfold putKD
      rw [ea]; rfl
    refine ⟨_, congrArg (fun x => Rs.ok _ (L ++ [x])) ?_⟩
    rw [ep, List.map_append, List.map_append, z.1, z.2]
    simp [od]
/-! ### row_for -/
def rfIn : SF := sDrop (eSetd (eVar 2) (eBinU addU (eVar 3) (eVar 4)) (eVar 3))
def rfItE : EF := eIf (bCmp inDicB (eVar 3) (eVar 2)) (eMeth 441 "row_on" (fun us ws L => opt (arrU us ws [.p 0, .p 1]) fun xs => m_Book_row_on xs L) 1 0 (eVar 0) (cPos (aCons (eVar 3) aNil))) (eTup aNil)
def rfDay : SF := sFor (iIt itT rfItE) (tfName 4) rfIn
theorem rfDay_eq : rfDay = (sFor (iIt itT (eIf (bCmp inDicB (eVar 3) (eVar 2)) (eMeth 441 "row_on" (fun us ws L => opt (arrU us ws [.p 0, .p 1]) fun xs => m_Book_row_on xs L) 1 0 (eVar 0) (cPos (aCons (eVar 3) aNil))) (eTup aNil))) (tfName 4) (sDrop (eSetd (eVar 2) (eBinU addU (eVar 3) (eVar 4)) (eVar 3)))) := rfl
theorem setd_run {st : SS} {c : Tb} {d n : Int} {L : LS} (h2 : eVar 2 st (L ++ [.d (kys c) (vls c)]) = .ok (.l L.length) (L ++ [.d (kys c) (vls c)])) (h3 : eVar 3 st (L ++ [.d (kys c) (vls c)]) = .ok (.d (.int d)) (L ++ [.d (kys c) (vls c)])) (h4 : eVar 4 st (L ++ [.d (kys c) (vls c)]) = .ok (.d (.int n)) (L ++ [.d (kys c) (vls c)])) (hl : c.length < 1000000) :
    rfIn st (L ++ [.d (kys c) (vls c)]) = .nx st (L ++ [.d (kys (ins c (d + n) d)) (vls (ins c (d + n) d))]) := by
  obtain ⟨u, e⟩ := setd_ok c (d + n) d L hl
  have ea := binU_ok (g := addU) h3 h4 addU_int
  unfold rfIn
  refine drop_ok (u := u) ?_
  simp only [eSetd, h2, Rs.bind, get_new, ea, h3]
  exact e
section
variable {T : Rel} {rs : List (List Int)} (hne : rs ≠ []) (ro : RowsOk T (rowAt rs)) (f a : Int)
include hne ro in
theorem rf_day {c : Tb} {j : Nat} (hj : j ≤ 2000) (s : St T f (f + j) j c) (w4 : Option U) (L : LS) :
    ∃ w4', rfDay [some (.d (book rs)), some (.d (stay f a)), some (.l L.length), some (.d (.int (f + j))), w4, none] (L ++ [.d (kys c) (vls c)]) =
      .nx [some (.d (book rs)), some (.d (stay f a)), some (.l L.length), some (.d (.int (f + j))), w4', none] (L ++ [.d (kys (dayStep (rowAt rs) c (f + j))) (vls (dayStep (rowAt rs) c (f + j)))]) := by
  have hc : c.length ≤ 1 + 30 * j := s.len
  have hr : rdU (L ++ [LO.d (kys c) (vls c)]) (.l L.length) = some (.dic (kys c) (vls c)) := by
    show Option.map LO.rd _ = _
    rw [get_new]; rfl
  have t := VL.Q.cmp_rd (g := inDicB) (fa := eVar 3) (fb := eVar 2) (st := [some (.d (book rs)), some (.d (stay f a)), some (.l L.length), some (.d (.int (f + j))), w4, none]) (L := L ++ [.d (kys c) (vls c)]) (L1 := L ++ [.d (kys c) (vls c)]) (L2 := L ++ [.d (kys c) (vls c)]) (u := .d (.int (f + j))) (v := .l L.length) rfl rfl rfl hr (in_dic c (f + j))
  unfold rfDay
  cases hk : (look c (f + j)).isSome with
  | false =>
    rw [hk] at t
    have it : iIt itT rfItE [some (.d (book rs)), some (.d (stay f a)), some (.l L.length), some (.d (.int (f + j))), w4, none] (L ++ [.d (kys c) (vls c)]) = .ok [] (L ++ [.d (kys c) (vls c)]) := VL.Q.it_t (VL.Q.eif_f t VL.Q.tup0)
    have e : dayStep (rowAt rs) c (f + j) = c := by unfold dayStep; rw [hk]; rfl
    rw [e]
    exact ⟨w4, VL.Q.for_run it rfl⟩
  | true =>
    rw [hk] at t
    have it : iIt itT rfItE [some (.d (book rs)), some (.d (stay f a)), some (.l L.length), some (.d (.int (f + j))), w4, none] (L ++ [.d (kys c) (vls c)]) = .ok ((rowAt rs (f + j)).map .int) (L ++ [.d (kys c) (vls c)]) :=
      VL.Q.it_t (VL.Q.eif_t t (VL.Q.meth_ok (ns := ["rows"]) (xs := [tr rs]) rfl (by decide) (pos1 rfl) rfl rfl (v_row_on hne (f + j) _)))
    have e : dayStep (rowAt rs) c (f + j) = addAll c (f + j) (rowAt rs (f + j)) := by unfold dayStep; rw [hk]; rfl
    rw [e]
    have hrl := ro.len (f + j)
    obtain ⟨st', L', e1, rfl, w, rfl⟩ := VL.Q.for_nx (tf := tfName 4) (body := rfIn) (fun i st M => M = L ++ [.d (kys (addAll c (f + j) ((rowAt rs (f + j)).take i))) (vls (addAll c (f + j) ((rowAt rs (f + j)).take i)))] ∧ ∃ w4, st = [some (.d (book rs)), some (.d (stay f a)), some (.l L.length), some (.d (.int (f + j))), w4, none]) it ⟨rfl, w4, rfl⟩ (by
      intro i d st M hd ⟨e1, w, e2⟩
      subst e1 e2
      rw [List.getElem?_map] at hd
      obtain ⟨n, hn, rfl⟩ := Option.map_eq_some_iff.mp hd
      have hi : i < (rowAt rs (f + j)).length := (List.getElem?_eq_some_iff.mp hn).1
      have en : (rowAt rs (f + j))[i] = n := by rw [List.getElem?_eq_getElem hi] at hn; exact Option.some.inj hn
      have hlen := addAll_len (d := f + j) ((rowAt rs (f + j)).take i) (c := c)
      have hti : ((rowAt rs (f + j)).take i).length ≤ 30 := by rw [List.length_take]; omega
      refine ⟨[some (.d (book rs)), some (.d (stay f a)), some (.l L.length), some (.d (.int (f + j))), some (.d (.int n)), none], _, _, rfl, setd_run (d := f + j) (n := n) rfl rfl rfl (by omega), ?_, _, rfl⟩
      have es : addAll c (f + j) ((rowAt rs (f + j)).take (i + 1)) = ins (addAll c (f + j) ((rowAt rs (f + j)).take i)) (f + j + n) (f + j) := by
        rw [List.take_succ_eq_append_getElem hi, en]
        unfold addAll
        rw [List.foldl_append]; rfl
      rw [es])
    refine ⟨w, ?_⟩
    rw [e1, List.length_map, List.take_length]
end
end VL.P

set_option Elab.async false
set_option linter.all false
set_option maxRecDepth 100000
set_option maxHeartbeats 4000000
namespace VL.P
open PySem PySem.Spec PyProof.Rows L2 VL VL.Sy
open PySem.W (Frag)
open VL.Q (pos1 pos2 pos3 pos4 bin_ok un_ok fn1 fn2)
def rfWh : SF := sSeq (sDrop (eAppend (eVar 5) (eRest (eMake 278 m_Stay_init [.p 0, .p 1, .p 2] 2 0 (cPos (aCons (eBin ixDicD (eVar 2) (eVar 3)) (aCons (eVar 3) aNil))))))) (sSet 3 (eBin ixDicD (eVar 2) (eVar 3)))
def rfTest : TF := bCmp gtB (eVar 3) (eUn (fldT cs_first "first") (eVar 1))
theorem row_for_eq : m_Book_row_for = fnF 2 6 (sSeq (sDrop (eCall m_need_stay [.p 0, .c (.str "stay")] 1 0 (cPos (aCons (eVar 1) aNil)))) (sSeq (sIf (bCmp gtB (eProp 278 (fun us L => opt (arrU us [] [.p 0]) fun xs => m_Stay_nights xs L) (eVar 1)) (eC (.int 2000))) (sRaise 151 ["what", "most"] (aCons (eC (.str "nights")) (aCons (eC (.int 2000)) aNil))) sNil) (sSeq (sSet 2 (eDicL (((eUn (fldT cs_first "first") (eVar 1)), (eC .non)) :: []))) (sSeq (sFor (iRngW (aCons (eUn (fldT cs_first "first") (eVar 1)) (aCons (eUn (fldT cs_after "after") (eVar 1)) aNil))) (tfName 3) rfDay) (sSeq (sIf (bCmp notInDicB (eUn (fldT cs_after "after") (eVar 1)) (eVar 2)) (sRet (eC .non)) sNil) (sSeq (sPar 5 3 (aCons (eLstL aNil) (aCons (eUn (fldT cs_after "after") (eVar 1)) aNil))) (sSeq (whileF rfTest rfWh 3000) (sRet (eFnU tupU (aCons (eRev (eVar 5)) aNil)))))))))) := rfl
theorem dicL1 {fk fv : EF} {st : SS} {L : LS} {k : Int} {x : D} (h1 : fk st L = .ok (.d (.int k)) L) (h2 : fv st L = .ok (.d x) L) : eDicL ((fk, fv) :: []) st L = .ok (.l L.length) (L ++ [.d [.inl k] [x]]) := by
  simp [eDicL, dPairs, h1, h2, Rs.bind, keyU, keyD, fzU, opt, mergeKD, putKD]
section
variable {T : Rel} {rs : List (List Int)} (hne : rs ≠ []) (ro : RowsOk T (rowAt rs)) (f a : Int)
def rfSt (rs : List (List Int)) (f a : Int) (L : LS) (w3 w4 w5 : Option U) : SS := [some (.d (book rs)), some (.d (stay f a)), some (.l L.length), w3, w4, w5]
include hne ro in
theorem rf_loop (h : f < a) (hn : a - f ≤ 2000) (L : LS) : ∃ c w3 w4, sFor (iRngW (aCons (eUn (fldT cs_first "first") (eVar 1)) (aCons (eUn (fldT cs_after "after") (eVar 1)) aNil))) (tfName 3) rfDay (rfSt rs f a L none none none) (L ++ [.d [.inl f] [.non]]) = .nx (rfSt rs f a L w3 w4 none) (L ++ [.d (kys c) (vls c)]) ∧ St T f a (a - f).toNat c := by
  have it : iRngW (aCons (eUn (fldT cs_first "first") (eVar 1)) (aCons (eUn (fldT cs_after "after") (eVar 1)) aNil)) (rfSt rs f a L none none none) (L ++ [.d [.inl f] [.non]]) = .ok (rngD f (a - f).toNat) (L ++ [.d [.inl f] [.non]]) :=
    VL.Q.rngW_ok (VL.Q.ac_ok (un_ok rfl (f_first f a)) (VL.Q.ac_ok (un_ok rfl (f_after f a)) rfl)) rfl
  obtain ⟨st', L', e1, c, w3, w4, rfl, rfl, s⟩ := VL.Q.for_nx (tf := tfName 3) (body := rfDay) (fun j st M => ∃ c w3 w4, M = L ++ [.d (kys c) (vls c)] ∧ st = rfSt rs f a L w3 w4 none ∧ St T f (f + j) j c) it ⟨[(f, none)], none, none, rfl, rfl, by have := st0 T f; simpa using this⟩ (by
    rintro j d st M hd ⟨c, w3, w4, rfl, rfl, s⟩
    obtain ⟨hj, rfl⟩ := VL.Q.rng_get hd
    obtain ⟨w4', e⟩ := rf_day hne ro f a (by omega) s w4 L
    refine ⟨_, _, _, rfl, e, _, _, _, rfl, rfl, ?_⟩
    have := s.next ro (by omega)
    rwa [show f + (j : Int) + 1 = f + ((j + 1 : Nat) : Int) by push_cast; omega] at this)
  refine ⟨c, w3, w4, e1, ?_⟩
  rw [VL.Q.rng_len] at s
  rwa [show f + (((a - f).toNat : Nat) : Int) = a by omega] at s
theorem rd_dic (L : LS) (c : Tb) (lo : LO) : rdU (L ++ [LO.d (kys c) (vls c)] ++ [lo]) (.l L.length) = some (.dic (kys c) (vls c)) := by
  show Option.map LO.rd _ = _
  rw [List.getElem?_append_left (by simp), get_new]; rfl
theorem rf_step {c : Tb} {k p : Int} (hk : look c k = some (some p)) (hp : p < k) (acc : List D) (ha : acc.length < 5000) (w4 : Option U) (L : LS) :
    rfWh (rfSt rs f a L (some (.d (.int k))) w4 (some (.l (L ++ [LO.d (kys c) (vls c)]).length))) (L ++ [.d (kys c) (vls c)] ++ [.l acc]) = .nx (rfSt rs f a L (some (.d (.int p))) w4 (some (.l (L ++ [LO.d (kys c) (vls c)]).length))) (L ++ [.d (kys c) (vls c)] ++ [.l (acc ++ [stay p k])]) := by
  have ix : ∀ lo, eBin ixDicD (eVar 2) (eVar 3) (rfSt rs f a L (some (.d (.int k))) w4 (some (.l (L ++ [LO.d (kys c) (vls c)]).length))) (L ++ [.d (kys c) (vls c)] ++ [lo]) = .ok (.d (.int p)) (L ++ [.d (kys c) (vls c)] ++ [lo]) := fun lo =>
    VL.Q.bin_rd (u := .l L.length) (v := .d (.int k)) (L1 := L ++ [.d (kys c) (vls c)] ++ [lo]) rfl rfl (rd_dic L c lo) rfl (ix_dic hk)
  have mk := v_mkStay' (f := p) (a := k) hp (pos2 (ix (.l acc)) (fb := eVar 3) (v := .d (.int k)) rfl)
  have ap := app_ok (fo := eVar 5) (n := (L ++ [LO.d (kys c) (vls c)]).length) (xs := acc) rfl (get_new _ _) mk (by unfold big; omega)
  rw [set_new] at ap
  exact seq_nx (drop_ok ap) (set_ok (ix _))
theorem rf_while {c : Tb} {ps : List (Int × Int)} (h : Pth T c f a ps) (hl : ps.length ≤ 2000) (w4 : Option U) (L : LS) :
    ∃ w3, whileF rfTest rfWh 3000 (rfSt rs f a L (some (.d (.int a))) w4 (some (.l (L ++ [LO.d (kys c) (vls c)]).length))) (L ++ [.d (kys c) (vls c)] ++ [.l []]) =
      .nx (rfSt rs f a L w3 w4 (some (.l (L ++ [LO.d (kys c) (vls c)]).length))) (L ++ [.d (kys c) (vls c)] ++ [.l (ps.map fun q => stay q.1 q.2)]) := by
  obtain ⟨st', L', e, k, acc, qs, hm, h1, h2, h3, rfl, rfl⟩ := VL.Q.while_go (t := rfTest) (body := rfWh) (fun m st M => ∃ k acc qs, qs.length = m ∧ Pth T c f k qs ∧ acc ++ qs.map (fun q => stay q.1 q.2) = ps.map (fun q => stay q.1 q.2) ∧ acc.length ≤ ps.length ∧
      st = rfSt rs f a L (some (.d (.int k))) w4 (some (.l (L ++ [LO.d (kys c) (vls c)]).length)) ∧ M = L ++ [.d (kys c) (vls c)] ++ [.l acc])
    (by
      rintro st M ⟨k, acc, qs, hm, h1, h2, _, rfl, rfl⟩
      have hq : qs = [] := List.length_eq_zero_iff.mp hm
      subst hq
      cases h1
      have := cmp_ok (g := gtB) (a := eVar 3) (b := eUn (fldT cs_first "first") (eVar 1)) (st := rfSt rs f a L (some (.d (.int f))) w4 (some (.l (L ++ [LO.d (kys c) (vls c)]).length))) (L := L ++ [.d (kys c) (vls c)] ++ [.l acc]) (x := .int f) rfl (un_ok rfl (f_first f a)) rfl
      rw [show decide (f < f) = false from decide_eq_false (by omega)] at this
      exact this)
    (by
      rintro m st M ⟨k, acc, qs, hm, h1, h2, h3, rfl, rfl⟩
      cases h1 with
      | nil => simp at hm
      | cons g1 g2 g3 g4 g5 =>
        rename_i p qs
        have t := cmp_ok (g := gtB) (a := eVar 3) (b := eUn (fldT cs_first "first") (eVar 1)) (st := rfSt rs f a L (some (.d (.int k))) w4 (some (.l (L ++ [LO.d (kys c) (vls c)]).length))) (L := L ++ [.d (kys c) (vls c)] ++ [.l acc]) (x := .int k) rfl (un_ok rfl (f_first f a)) rfl
        rw [show decide (f < k) = true from decide_eq_true (by omega)] at t
        refine ⟨t, _, _, rf_step f a g1 g3 acc (by omega) w4 L, p, acc ++ [stay p k], qs, by simpa using hm, g5, ?_, ?_, rfl, rfl⟩
        · rw [List.append_assoc]; exact h2
        · have := congrArg List.length h2
          simp at this ⊢
          omega)
    ps.length 3000 _ _ (by omega) ⟨a, [], ps, rfl, h, rfl, Nat.zero_le _, rfl, rfl⟩
  have hq : qs = [] := List.length_eq_zero_iff.mp hm
  subst hq
  simp only [List.map_nil, List.append_nil] at h2
  subst h2
  exact ⟨_, e⟩
def RfSpec (T : Rel) (f a : Int) (r : D) : Prop := (r = .non ∧ ¬ Rch T f a) ∨ ∃ c ps, r = .tup (ps.reverse.map fun q => stay q.1 q.2) ∧ Pth T c f a ps ∧ Rch T f a ∧ ps.length ≤ 2000
include hne ro in
theorem v_row_for (h : f < a) (hn : a - f ≤ 2000) (L : LS) : ∃ r, m_Book_row_for [.d (book rs), .d (stay f a)] L = .ok (.d r) L ∧ RfSpec T f a r := by
  obtain ⟨c, w3, w4, el, s⟩ := rf_loop hne ro f a h hn L
  have c1 := call_ok (m := m_need_stay) (src := [.p 0, .c (.str "stay")]) (n := 1) (l := 0) (fa := cPos (aCons (eVar 1) aNil)) (st := [some (.d (book rs)), some (.d (stay f a)), none, none, none, none]) (L := L) (pos1 rfl) rfl rfl rfl (v_need_stay f a (.str "stay") L)
  have t1 := cmp_ok (g := gtB) (b := eC (.int 2000)) (y := .int 2000) (p_nights (f := f) (a := a) (fo := eVar 1) (st := [some (.d (book rs)), some (.d (stay f a)), none, none, none, none]) (L := L) rfl) rfl rfl
  rw [show decide ((2000 : Int) < a - f) = false from decide_eq_false (by omega)] at t1
  have d1 := dicL1 (fk := eUn (fldT cs_first "first") (eVar 1)) (fv := eC .non) (st := [some (.d (book rs)), some (.d (stay f a)), none, none, none, none]) (L := L) (un_ok rfl (f_first f a)) rfl
  have t2 := VL.Q.cmp_rd (g := notInDicB) (fa := eUn (fldT cs_after "after") (eVar 1)) (fb := eVar 2) (st := rfSt rs f a L w3 w4 none) (L := L ++ [.d (kys c) (vls c)]) (v := .l L.length) (un_ok rfl (f_after f a)) rfl rfl (by show Option.map LO.rd _ = _; rw [get_new]; rfl) (notin_dic c a)
  rw [row_for_eq]
  cases hk : (look c a).isSome with
  | false =>
    rw [hk] at t2
    refine ⟨.non, ?_, .inl ⟨rfl, fun z => by rw [s.iff.mpr z] at hk; cases hk⟩⟩
    exact fn_rtR rfl (seq_nx (drop_ok c1) (seq_nx (if_f t1 rfl) (seq_nx (set_ok d1) (seq_nx el (seq_rt (if_t t2 (ret_ok rfl))))))) (take_new _ _)
  | true =>
    rw [hk] at t2
    obtain ⟨ps, hp, hl⟩ := s.good.pth _ a (Nat.le_refl _) hk
    have hl2 : ps.length ≤ 2000 := by omega
    obtain ⟨w3', ew⟩ := rf_while (rs := rs) f a hp hl2 w4 L
    refine ⟨.tup (ps.reverse.map fun q => stay q.1 q.2), ?_, .inr ⟨c, ps, rfl, hp, s.iff.mp hk, hl2⟩⟩
    have pr := VL.Q.par2 (i := 5) (j := 3) (fa := eLstL aNil) (fb := eUn (fldT cs_after "after") (eVar 1)) (st := rfSt rs f a L w3 w4 none) (L := L ++ [.d (kys c) (vls c)]) VL.Q.lstL0 (un_ok rfl (f_after f a))
    have rv : eRev (eVar 5) (rfSt rs f a L w3' w4 (some (.l (L ++ [LO.d (kys c) (vls c)]).length))) (L ++ [.d (kys c) (vls c)] ++ [.l (ps.map fun q => stay q.1 q.2)]) = .ok (.d (.lst (ps.map fun q => stay q.1 q.2).reverse)) (L ++ [.d (kys c) (vls c)] ++ [.l (ps.map fun q => stay q.1 q.2)]) := by
      have hr : rdU (L ++ [LO.d (kys c) (vls c)] ++ [LO.l (ps.map fun q => stay q.1 q.2)]) (.l (L ++ [LO.d (kys c) (vls c)]).length) = some (.lst (ps.map fun q => stay q.1 q.2)) := by
        show Option.map LO.rd _ = _
        rw [get_new]; rfl
      unfold eRev
      show (opt (rdU (L ++ [LO.d (kys c) (vls c)] ++ [LO.l (ps.map fun q => stay q.1 q.2)]) (.l (L ++ [LO.d (kys c) (vls c)]).length)) fun d => match d with
        | .lst xs => Rs.ok (U.d (.lst xs.reverse)) (L ++ [LO.d (kys c) (vls c)] ++ [LO.l (ps.map fun q => stay q.1 q.2)])
        | _ => .no) = _
      rw [hr]; rfl
    rw [← List.map_reverse] at rv
    refine fn_rtR rfl (seq_nx (drop_ok c1) (seq_nx (if_f t1 rfl) (seq_nx (set_ok d1) (seq_nx el (seq_nx (if_f t2 rfl) (seq_nx pr (seq_nx ew (ret_ok (fnU1_ok rv rfl))))))))) ?_
    rw [List.append_assoc, List.take_append_of_le_length (Nat.le_refl _), List.take_length]
include hne ro in
theorem v_fills [Decidable (Rch T f a)] (h : f < a) (hn : a - f ≤ 2000) (L : LS) : m_Book_fills [.d (book rs), .d (stay f a)] L = .ok (.d (.bl (decide (Rch T f a)))) L := by
  obtain ⟨r, e, sp⟩ := v_row_for hne ro f a h hn L
  have hu : m_Book_fills = fnF 2 2 (sRet (eCmp notNonB (eMeth 441 "row_for" (fun us ws L => opt (arrU us ws [.p 0, .p 1]) fun xs => m_Book_row_for xs L) 1 0 (eVar 0) (cPos (aCons (eVar 1) aNil))) (eC .non))) := rfl
  rw [hu]
  refine fn_rt rfl (ret_ok (ecmp_ok (x := r) (y := .non) (VL.Q.meth_ok (ns := ["rows"]) (xs := [tr rs]) rfl (by decide) (pos1 rfl) rfl rfl e) rfl ?_))
  rcases sp with ⟨rfl, hr⟩ | ⟨c, ps, rfl, _, hr, _⟩
  · rw [decide_eq_false hr]; rfl
  · rw [decide_eq_true hr]; rfl
end
end VL.P

set_option Elab.async false
set_option linter.all false
set_option maxRecDepth 100000
set_option maxHeartbeats 4000000
namespace VL.P
open PySem PySem.Spec PyProof.Rows L2 VL VL.Sy
open PySem.W (Frag)
open VL.Q (pos1 pos2 pos3 pos4 bin_ok un_ok fn1 fn2)
abbrev lr (rows : List (List Int)) : D := .lst (rows.map li)
def TR (rows : List (List Int)) : Rel := fun d n => n ∈ rowAt rows d
theorem ix_lrows {rs : List (List Int)} (hne : rs ≠ []) (d : Int) : ixD (lr rs) (.int (d % (rs.length : Int))) = some (li (rowAt rs d)) := by
  have h1 := rowAt_lt hne d
  have hl : 0 < rs.length := List.length_pos_iff.mpr hne
  have h0 := Int.emod_nonneg d (show (rs.length : Int) ≠ 0 by omega)
  show atI (rs.map li) _ = _
  rw [at_lt h0 (by simpa using h1), List.getElem_map]
  unfold rowAt
  rw [List.getD_eq_getElem?_getD, List.getElem?_eq_getElem h1]
  rfl
theorem v_let {rows : List (List Int)} (hne : rows ≠ []) (d n : Int) (L : LS) : m_l_let [.d (lr rows), .d (.int d), .d (.int n)] L = .ok (.d (.bl (decide (n ∈ rowAt rows d)))) L := by
  have hu : m_l_let = fnF 3 3 (sRet (eCmp inB (eVar 2) (eBin ixD (eVar 0) (eBin modD (eFn intL (aCons (eVar 1) aNil)) (eFn lenD (aCons (eVar 0) aNil)))))) := rfl
  have ln : lenD [lr rows] = some (.int rows.length) := by simp [lenD]
  rw [hu]
  exact fn_rt rfl (ret_ok (ecmp_ok rfl (bin_ok rfl (bin_ok (fn1 rfl rfl) (fn1 rfl ln) (mod_len hne d)) (ix_lrows hne d)) VL.Q.in_l))
theorem sub_ok {fo fi fe : EF} {st : SS} {L L1 : LS} {n i : Nat} {x : D} {xs : List D} (h1 : fe st L = .ok (.d x) L1) (h2 : fo st L1 = .ok (.l n) L1) (h3 : fi st L1 = .ok (.d (.int (i : Int))) L1) (hl : L1[n]? = some (.l xs)) (hi : i < xs.length) : sSub fo fi fe st L = .nx st (L1.set n (.l (xs.set i x))) := by
  have e : ixN xs.length (i : Int) = some i := by
    have a : (i : Int) < (xs.length : Int) := by omega
    simp [ixN, a]
  simp [sSub, h1, h2, h3, ofR, putAt, hl, fzU, e, optS]
/-! ### the law's table -/
open Classical in
noncomputable def tb (g : Nat → Prop) (n : Nat) : List D := (List.range (n + 1)).map fun i => .bl (decide (g i))
theorem tb_len (g : Nat → Prop) (n : Nat) : (tb g n).length = n + 1 := by simp [tb]
open Classical in
theorem tb_get {g : Nat → Prop} {n k : Nat} (h : k ≤ n) : ixD (.lst (tb g n)) (.int (k : Int)) = some (.bl (decide (g k))) := by
  show atI (tb g n) (k : Int) = _
  rw [at_lt (by omega) (by rw [tb_len]; omega)]
  simp [tb]
theorem tb_congr {g g' : Nat → Prop} {n : Nat} (h : ∀ i, i ≤ n → (g i ↔ g' i)) : tb g n = tb g' n := by
  unfold tb
  refine List.map_congr_left fun i hi => ?_
  have : i ≤ n := by have := List.mem_range.mp hi; omega
  exact congrArg D.bl (decide_eq_decide.mpr (h i this))
theorem tb_set {g g' : Nat → Prop} {n k : Nat} (h : ∀ i, i ≤ n → (g' i ↔ (i = k ∨ g i))) : (tb g n).set k (.bl true) = tb g' n := by
  refine List.ext_getElem? fun i => ?_
  rw [List.getElem?_set]
  by_cases hk : k = i
  · subst hk
    simp only [if_true]
    by_cases hl : k < n + 1
    · rw [if_pos (by rw [tb_len]; exact hl)]
      unfold tb
      rw [List.getElem?_map, List.getElem?_range hl]
      have e : g' k = True := propext ⟨fun _ => trivial, fun _ => (h k (by omega)).mpr (.inl rfl)⟩
      simp [e]
    · rw [if_neg (by rw [tb_len]; exact hl)]
      symm
      rw [List.getElem?_eq_none_iff, tb_len]
      omega
  · rw [if_neg hk]
    unfold tb
    rw [List.getElem?_map, List.getElem?_map]
    by_cases hl : i < n + 1
    · rw [List.getElem?_range hl]
      have e : g' i = g i := propext ⟨fun z => ((h i (by omega)).mp z).elim (fun z => absurd z.symm hk) id, fun z => (h i (by omega)).mpr (.inr z)⟩
      simp [e]
    · rw [List.getElem?_eq_none (by simpa using hl)]
      rfl
def gIn (T : Rel) (b : Int) (at_ m : Nat) (i : Nat) : Prop := (i = at_ ∧ ∃ q : Nat, 1 ≤ q ∧ q ≤ m ∧ Rch T b (b + (at_ : Int) - (q : Int)) ∧ T (b + (at_ : Int) - (q : Int)) (q : Int)) ∨ (i < at_ ∧ Rch T b (b + (i : Int)))
theorem gIn_start (T : Rel) (b : Int) (i : Nat) : gIn T b 1 0 i ↔ i = 0 := by
  unfold gIn
  constructor
  · rintro (⟨_, q, h1, h2, _⟩ | ⟨h, _⟩)
    · omega
    · omega
  · rintro rfl
    exact .inr ⟨by omega, by simpa using Rch.base⟩
theorem gIn_next {T : Rel} (h5 : ∀ d n, T d n → 1 ≤ n ∧ n ≤ 5) (b : Int) (j i : Nat) : gIn T b (j + 1) (min 5 (j + 1)) i ↔ gIn T b (j + 2) 0 i := by
  unfold gIn
  constructor
  · rintro (⟨rfl, q, h1, h2, h3, h4⟩ | ⟨h, hr⟩)
    · refine .inr ⟨by omega, h3.step' (by omega) ?_⟩
      rw [show b + ((j + 1 : Nat) : Int) - (b + ((j + 1 : Nat) : Int) - (q : Int)) = (q : Int) by omega]
      exact h4
    · exact .inr ⟨by omega, hr⟩
  · rintro (⟨_, q, h1, h2, _⟩ | ⟨h, hr⟩)
    · omega
    · by_cases e : i = j + 1
      · subst e
        rcases hr.inv with z | ⟨p, h1, h2, h3⟩
        · omega
        · have := h5 _ _ h3
          have hle := h1.le
          refine .inl ⟨rfl, (b + ((j + 1 : Nat) : Int) - p).toNat, by omega, by omega, ?_, ?_⟩
          · rw [show b + ((j + 1 : Nat) : Int) - (((b + ((j + 1 : Nat) : Int) - p).toNat : Nat) : Int) = p by omega]; exact h1
          · rw [show b + ((j + 1 : Nat) : Int) - (((b + ((j + 1 : Nat) : Int) - p).toNat : Nat) : Int) = p by omega, show (((b + ((j + 1 : Nat) : Int) - p).toNat : Nat) : Int) = b + ((j + 1 : Nat) : Int) - p by omega]; exact h3
      · exact .inr ⟨by omega, hr⟩
theorem gIn_yes {T : Rel} {b : Int} {k m : Nat} (h1 : m + 1 ≤ k) (hr : Rch T b (b + ((k - (m + 1) : Nat) : Int))) (ht : T (b + (k : Int) - ((m + 1 : Nat) : Int)) ((m + 1 : Nat) : Int)) (i : Nat) : gIn T b k (m + 1) i ↔ (i = k ∨ gIn T b k m i) := by
  unfold gIn
  constructor
  · rintro (⟨h, _⟩ | h)
    · exact .inl h
    · exact .inr (.inr h)
  · rintro (h | ⟨h, q, a, b', c⟩ | h)
    · refine .inl ⟨h, m + 1, by omega, by omega, ?_, ht⟩
      rw [show b + (k : Int) - ((m + 1 : Nat) : Int) = b + ((k - (m + 1) : Nat) : Int) by omega]; exact hr
    · exact .inl ⟨h, q, a, by omega, c⟩
    · exact .inr h
theorem gIn_no {T : Rel} {b : Int} {k m : Nat} (h1 : m + 1 ≤ k) (hn : ¬ (Rch T b (b + ((k - (m + 1) : Nat) : Int)) ∧ T (b + (k : Int) - ((m + 1 : Nat) : Int)) ((m + 1 : Nat) : Int))) (i : Nat) : gIn T b k m i ↔ gIn T b k (m + 1) i := by
  unfold gIn
  constructor
  · rintro (⟨h, q, a, b', c⟩ | h)
    · exact .inl ⟨h, q, a, by omega, c⟩
    · exact .inr h
  · rintro (⟨h, q, a, b', c, d⟩ | h)
    · by_cases e : q = m + 1
      · subst e
        refine absurd ⟨?_, d⟩ hn
        rw [show b + ((k - (m + 1) : Nat) : Int) = b + (k : Int) - ((m + 1 : Nat) : Int) by omega]; exact c
      · exact .inl ⟨h, q, a, by omega, c, d⟩
    · exact .inr h
def fIn : SF := (sIf (bAnd (bTru (eBin ixD (eVar 3) (eBin subD (eVar 4) (eVar 5)))) (bTru (eCall m_l_let [.p 0, .p 1, .p 2] 3 0 (cPos (aCons (eVar 0) (aCons (eBin subD (eBinU addU (eVar 1) (eVar 4)) (eVar 5)) (aCons (eVar 5) aNil))))))) (sSub (eVar 3) (eVar 4) (eC (.bl true))) sNil)
def fOut : SF := (sFor (iRngW (aCons (eC (.int 1)) (aCons (eBinU addU (eFn minA (aCons (eC (.int 5)) (aCons (eFn intL (aCons (eVar 4) aNil)) aNil))) (eC (.int 1))) aNil))) (tfName 5) (sIf (bAnd (bTru (eBin ixD (eVar 3) (eBin subD (eVar 4) (eVar 5)))) (bTru (eCall m_l_let [.p 0, .p 1, .p 2] 3 0 (cPos (aCons (eVar 0) (aCons (eBin subD (eBinU addU (eVar 1) (eVar 4)) (eVar 5)) (aCons (eVar 5) aNil))))))) (sSub (eVar 3) (eVar 4) (eC (.bl true))) sNil))
theorem fIn_eq : fIn = sIf (bAnd (bTru (eBin ixD (eVar 3) (eBin subD (eVar 4) (eVar 5)))) (bTru (eCall m_l_let [.p 0, .p 1, .p 2] 3 0 (cPos (aCons (eVar 0) (aCons (eBin subD (eBinU addU (eVar 1) (eVar 4)) (eVar 5)) (aCons (eVar 5) aNil))))))) (sSub (eVar 3) (eVar 4) (eC (.bl true))) sNil := rfl
theorem fOut_eq : fOut = sFor (iRngW (aCons (eC (.int 1)) (aCons (eBinU addU (eFn minA (aCons (eC (.int 5)) (aCons (eFn intL (aCons (eVar 4) aNil)) aNil))) (eC (.int 1))) aNil))) (tfName 5) fIn := rfl
section
variable {rows : List (List Int)} (hne : rows ≠ []) (b : Int) (n : Nat)
def fSt (rows : List (List Int)) (b : Int) (n : Nat) (L : LS) (w4 w5 : Option U) : SS := [some (.d (lr rows)), some (.d (.int b)), some (.d (.int (n : Int))), some (.l L.length), w4, w5]
theorem rd_tb (L : LS) (xs : List D) : rdU (L ++ [LO.l xs]) (.l L.length) = some (.lst xs) := by
  show Option.map LO.rd _ = _
  rw [get_new]; rfl
include hne in
open Classical in
theorem f_in {k m : Nat} (hk : k ≤ n) (hm : m + 1 ≤ k) (L : LS) : fIn (fSt rows b n L (some (.d (.int (k : Int)))) (some (.d (.int ((m + 1 : Nat) : Int))))) (L ++ [.l (tb (gIn (TR rows) b k m) n)]) = .nx (fSt rows b n L (some (.d (.int (k : Int)))) (some (.d (.int ((m + 1 : Nat) : Int))))) (L ++ [.l (tb (gIn (TR rows) b k (m + 1)) n)]) := by
  have e1 : ((k : Int) - ((m + 1 : Nat) : Int)) = ((k - (m + 1) : Nat) : Int) := by omega
  have s1 : subD (.int (k : Int)) (.int ((m + 1 : Nat) : Int)) = some (.int ((k - (m + 1) : Nat) : Int)) := by simp only [subD, e1]
  have t1 := tru_bl (VL.Q.bin_rd (g := ixD) (fa := eVar 3) (u := .l L.length) (st := fSt rows b n L (some (.d (.int (k : Int)))) (some (.d (.int ((m + 1 : Nat) : Int))))) (L := L ++ [.l (tb (gIn (TR rows) b k m) n)]) (L1 := L ++ [.l (tb (gIn (TR rows) b k m) n)]) rfl (bin_ok (fa := eVar 4) (fb := eVar 5) rfl rfl s1) (rd_tb _ _) rfl (tb_get (by omega)))
  have t2 := tru_bl (call_ok (m := m_l_let) (src := [.p 0, .p 1, .p 2]) (n := 3) (l := 0) (pos3 (fa := eVar 0) (fc := eVar 5) (st := fSt rows b n L (some (.d (.int (k : Int)))) (some (.d (.int ((m + 1 : Nat) : Int))))) (L := L ++ [.l (tb (gIn (TR rows) b k m) n)]) (u := .d (lr rows)) (L1 := L ++ [.l (tb (gIn (TR rows) b k m) n)]) rfl (bin_ok (g := subD) (fb := eVar 5) (binU_ok (g := addU) (fa := eVar 1) (fb := eVar 4) rfl rfl addU_int) rfl rfl) rfl) rfl rfl rfl (v_let hne (b + (k : Int) - ((m + 1 : Nat) : Int)) ((m + 1 : Nat) : Int) _))
  have hg : gIn (TR rows) b k m (k - (m + 1)) ↔ Rch (TR rows) b (b + ((k - (m + 1) : Nat) : Int)) := by
    unfold gIn
    constructor
    · rintro (⟨h, _⟩ | ⟨_, h⟩)
      · omega
      · exact h
    · exact fun h => .inr ⟨by omega, h⟩
  rw [fIn_eq]
  by_cases hr : Rch (TR rows) b (b + ((k - (m + 1) : Nat) : Int))
  · rw [decide_eq_true (hg.mpr hr)] at t1
    by_cases ht : ((m + 1 : Nat) : Int) ∈ rowAt rows (b + (k : Int) - ((m + 1 : Nat) : Int))
    · rw [decide_eq_true ht] at t2
      have su := sub_ok (fo := eVar 3) (fi := eVar 4) (fe := eC (.bl true)) (st := fSt rows b n L (some (.d (.int (k : Int)))) (some (.d (.int ((m + 1 : Nat) : Int))))) (L := L ++ [.l (tb (gIn (TR rows) b k m) n)]) (n := L.length) (i := k) rfl rfl rfl (get_new _ _) (by rw [tb_len]; omega)
      rw [set_new, tb_set fun i _ => gIn_yes hm hr ht i] at su
      exact if_t (and_tt t1 t2) su
    · rw [decide_eq_false ht] at t2
      rw [← tb_congr fun i _ => gIn_no hm (fun z => ht z.2) i]
      exact if_f (and_tt t1 t2) rfl
  · rw [decide_eq_false (fun z => hr (hg.mp z))] at t1
    rw [← tb_congr fun i _ => gIn_no hm (fun z => hr z.1) i]
    exact if_f (and_f t1) rfl
include hne in
theorem f_out (h5 : ∀ d m, TR rows d m → 1 ≤ m ∧ m ≤ 5) {j : Nat} (hj : j + 1 ≤ n) (w5 : Option U) (L : LS) : ∃ w5', fOut (fSt rows b n L (some (.d (.int ((j + 1 : Nat) : Int)))) w5) (L ++ [.l (tb (gIn (TR rows) b (j + 1) 0) n)]) = .nx (fSt rows b n L (some (.d (.int ((j + 1 : Nat) : Int)))) w5') (L ++ [.l (tb (gIn (TR rows) b (j + 2) 0) n)]) := by
  have mn : minA [.int 5, .int ((j + 1 : Nat) : Int)] = some (.int ((min 5 (j + 1) : Nat) : Int)) := by
    have : minA [.int 5, .int ((j + 1 : Nat) : Int)] = some (.int (if ((j + 1 : Nat) : Int) < 5 then ((j + 1 : Nat) : Int) else 5)) := by first | rfl | (simp [minA, minD]; done) | (simp only [minA, minD]; split <;> rfl)
    rw [this]
    congr 2
    split <;> omega
  have it : iRngW (aCons (eC (.int 1)) (aCons (eBinU addU (eFn minA (aCons (eC (.int 5)) (aCons (eFn intL (aCons (eVar 4) aNil)) aNil))) (eC (.int 1))) aNil)) (fSt rows b n L (some (.d (.int ((j + 1 : Nat) : Int)))) w5) (L ++ [.l (tb (gIn (TR rows) b (j + 1) 0) n)]) = .ok (rngD 1 (min 5 (j + 1))) (L ++ [.l (tb (gIn (TR rows) b (j + 1) 0) n)]) :=
    VL.Q.rngW_ok (VL.Q.ac_ok rfl (VL.Q.ac_ok (binU_ok (fn2 rfl (fn1 rfl rfl) mn) rfl addU_int) rfl)) (by omega)
  rw [fOut_eq]
  obtain ⟨st', L', e, rfl, w, rfl⟩ := VL.Q.for_nx (tf := tfName 5) (body := fIn) (fun m st M => M = L ++ [.l (tb (gIn (TR rows) b (j + 1) m) n)] ∧ ∃ w5, st = fSt rows b n L (some (.d (.int ((j + 1 : Nat) : Int)))) w5) it ⟨rfl, w5, rfl⟩ (by
    rintro m d st M hd ⟨rfl, w, rfl⟩
    obtain ⟨hm, rfl⟩ := VL.Q.rng_get hd
    refine ⟨fSt rows b n L (some (.d (.int ((j + 1 : Nat) : Int)))) (some (.d (.int ((m + 1 : Nat) : Int)))), _, _, by rw [show (1 : Int) + (m : Int) = ((m + 1 : Nat) : Int) by omega]; rfl, f_in hne b n hj (by omega) L, rfl, _, rfl⟩)
  refine ⟨w, ?_⟩
  rw [e, VL.Q.rng_len, tb_congr fun i _ => gIn_next h5 b j i]
theorem rep_one (n : Nat) : (List.replicate n [D.bl false]).flatten = List.replicate n (D.bl false) := by
  induction n with
  | zero => rfl
  | succ n ih => rw [List.replicate_succ, List.flatten_cons, ih]; rfl
theorem mul_bl (n : Nat) (hn : n ≤ 1000) : mulD (.lst [.bl false]) (.int (n : Int)) = some (.lst (List.replicate n (.bl false))) := by
  have hz : ([D.bl false] : List D).length * (n : Int).toNat ≤ big := by
    rw [Int.toNat_natCast, List.length_singleton, Nat.one_mul]
    unfold big
    omega
  simp only [mulD]
  rw [if_pos ⟨by omega, by omega, hz⟩, Int.toNat_natCast, rep_one]
theorem mulA_l {x y : U} {L : LS} {xs : List D} (h : rdU L x = some (.lst xs)) : mulA x y L = op2 mulD x y L := by
  unfold mulA
  rw [h]
  rfl
theorem op2_of {g : D → D → Option D} {x y : U} {L : LS} {dx dy z : D} (h1 : rdU L x = some dx) (h2 : rdU L y = some dy) (h3 : g dx dy = some z) : op2 g x y L = .ok (.d z) L := by
  unfold op2
  rw [h1, h2]
  simp only [opt, h3]
theorem f_mul (n : Nat) (hn : n ≤ 1000) (L : LS) : mulA (.d (.lst [.bl false])) (.d (.int (n : Int))) L = .ok (.d (.lst (List.replicate n (.bl false)))) L := by
  rw [mulA_l (x := .d (.lst [.bl false])) (xs := [.bl false]) rfl]
  exact op2_of rfl rfl (mul_bl n hn)
theorem f_e0 : [D.bl true] ++ List.replicate n (D.bl false) = tb (gIn (TR rows) b 1 0) n := by
  rw [tb_congr (g' := fun i => i = 0) fun i _ => gIn_start (TR rows) b i]
  unfold tb
  rw [List.range_succ_eq_map, List.map_cons, List.map_map]
  rw [List.singleton_append]
  refine List.cons_eq_cons.mpr ⟨?_, ?_⟩
  · exact congrArg D.bl (by simp)
  · symm
    rw [List.eq_replicate_iff]
    refine ⟨by simp, fun x hx => ?_⟩
    obtain ⟨i, _, rfl⟩ := List.mem_map.mp hx
    simp
theorem f_s3 (hn : n ≤ 1000) (L : LS) : eBinU catL (eLst (aCons (eC (.bl true)) aNil)) (eBinU mulA (eLst (aCons (eC (.bl false)) aNil)) (eVar 2)) [some (.d (lr rows)), some (.d (.int b)), some (.d (.int (n : Int))), none, none, none] L = .ok (.l L.length) (L ++ [.l (tb (gIn (TR rows) b 1 0) n)]) := by
  refine binU_ok (VL.Q.lst1 rfl) (binU_ok (VL.Q.lst1 rfl) rfl (f_mul n hn L)) ?_
  have hb : ([D.bl true] : List D).length + (List.replicate n (D.bl false)).length ≤ big := by
    rw [List.length_replicate, List.length_singleton]; unfold big; omega
  rw [← f_e0 (rows := rows) b n]
  simp only [catL, rdU, opt]
  rw [if_pos hb]
include hne in
open Classical in
theorem v_lfills (h5 : ∀ d m, TR rows d m → 1 ≤ m ∧ m ≤ 5) (hn : n ≤ 1000) (L : LS) : m_l_fills [.d (lr rows), .d (.int b), .d (.int (n : Int))] L = .ok (.d (.bl (decide (Rch (TR rows) b (b + (n : Int)))))) L := by
  have hu : m_l_fills = fnF 3 6 (sSeq (sSet 3 (eBinU catL (eLst (aCons (eC (.bl true)) aNil)) (eBinU mulA (eLst (aCons (eC (.bl false)) aNil)) (eVar 2)))) (sSeq (sFor (iRngW (aCons (eC (.int 1)) (aCons (eBinU addU (eVar 2) (eC (.int 1))) aNil))) (tfName 4) fOut) (sRet (eBin ixD (eVar 3) (eVar 2))))) := rfl
  rw [hu]
  have s3 := f_s3 (rows := rows) b n hn L
  have it : iRngW (aCons (eC (.int 1)) (aCons (eBinU addU (eVar 2) (eC (.int 1))) aNil)) (fSt rows b n L none none) (L ++ [.l (tb (gIn (TR rows) b 1 0) n)]) = .ok (rngD 1 n) (L ++ [.l (tb (gIn (TR rows) b 1 0) n)]) :=
    VL.Q.rngW_ok (VL.Q.ac_ok rfl (VL.Q.ac_ok (binU_ok rfl rfl addU_int) rfl)) (by omega)
  obtain ⟨st', L', e, rfl, w4, w5, rfl⟩ := VL.Q.for_nx (tf := tfName 4) (body := fOut) (fun j st M => M = L ++ [.l (tb (gIn (TR rows) b (j + 1) 0) n)] ∧ ∃ w4 w5, st = fSt rows b n L w4 w5) it ⟨rfl, none, none, rfl⟩ (by
    rintro j d st M hd ⟨rfl, w4, w5, rfl⟩
    obtain ⟨hj, rfl⟩ := VL.Q.rng_get hd
    obtain ⟨w5', e⟩ := f_out hne b n h5 (j := j) (by omega) w5 L
    exact ⟨fSt rows b n L (some (.d (.int ((j + 1 : Nat) : Int)))) w5, _, _, by rw [show (1 : Int) + (j : Int) = ((j + 1 : Nat) : Int) by omega]; rfl, e, rfl, _, _, rfl⟩)
  rw [VL.Q.rng_len] at e
  have hg : gIn (TR rows) b (n + 1) 0 n ↔ Rch (TR rows) b (b + (n : Int)) := by
    unfold gIn
    constructor
    · rintro (⟨h, _⟩ | ⟨_, h⟩)
      · omega
      · exact h
    · exact fun h => .inr ⟨by omega, h⟩
  have x := VL.Q.bin_rd (g := ixD) (fa := eVar 3) (fb := eVar 2) (u := .l L.length) (v := .d (.int (n : Int))) (st := fSt rows b n L w4 w5) (L := L ++ [.l (tb (gIn (TR rows) b (n + 1) 0) n)]) (L1 := L ++ [.l (tb (gIn (TR rows) b (n + 1) 0) n)]) rfl rfl (rd_tb _ _) rfl (tb_get (Nat.le_refl n))
  have eg : decide (gIn (TR rows) b (n + 1) 0 n) = decide (Rch (TR rows) b (b + (n : Int))) := by
    by_cases h : Rch (TR rows) b (b + (n : Int))
    · rw [decide_eq_true h, decide_eq_true (hg.mpr h)]
    · rw [decide_eq_false h, decide_eq_false fun z => h (hg.mp z)]
  rw [eg] at x
  exact fn_rtR rfl (seq_nx (set_ok s3) (seq_nx e (ret_ok x))) (take_new _ _)
end
end VL.P

set_option Elab.async false
set_option linter.all false
set_option maxRecDepth 100000
set_option maxHeartbeats 4000000
namespace VL.P
open PySem PySem.Spec PyProof.Rows L2 VL VL.Sy
open PySem.W (Frag)
open VL.Q (pos1 pos2 pos3 pos4 bin_ok un_ok fn1 fn2)
/-- drawn rows -/
structure Dw (rows : List (List Int)) : Prop where
  ne : rows ≠ []
  len : rows.length ≤ 4
  rw_ : ∀ r ∈ rows, Rw r ∧ ∀ n ∈ r, 1 ≤ n ∧ n ≤ 5
theorem Dw.five {rows : List (List Int)} (w : Dw rows) : ∀ d m, TR rows d m → 1 ≤ m ∧ m ≤ 5 := fun d m h => (w.rw_ _ (rowAt_mem w.ne d)).2 m h
theorem Dw.ro {rows rs : List (List Int)} (w : Dw rows) (q : Made rows rs) : RowsOk (TR rows) (rowAt rs) := by
  have hr := fun d => (w.rw_ _ (rowAt_mem w.ne d)).1
  refine ⟨fun d n => ?_, fun d n hn => ?_, fun d => ?_⟩
  · rw [q.at_]; exact asc_mem (hr d).rng
  · rw [q.at_] at hn
    have := (asc_rw (rowAt rows d)).rng n hn
    omega
  · rw [q.at_]; exact (asc_rw _).len
theorem rp_bl (k : Bool) : ∃ z, reprR [.bl k] = some (.str z) ∧ neB (.str z) (.str z) = some false := by
  cases k
  · exact ⟨"False", by kernel_rfl, by kernel_rfl⟩
  · exact ⟨"True", by kernel_rfl, by kernel_rfl⟩
theorem ne_bl (k : Bool) : neB (.bl k) (.bl k) = some false := by cases k <;> kernel_rfl
theorem fm_none : ∀ xs : List D, (xs.filterMap fun _ => (none : Option D)) = []
  | [] => rfl
  | _ :: xs => fm_none xs
theorem eqTup_ne {C : Addr} {m : FF} {xs ys : List D} {L : LS} (h : eqPairs C m xs ys = true) : eqTupU C m true (.d (.tup xs)) (.d (.tup ys)) L = .ok (.d (.bl false)) L := by
  simp only [eqTupU, rdU, opt]
  rw [if_pos h]
  rfl
abbrev sts (qs : List (Int × Int)) : List D := qs.map fun q => stay q.1 q.2
section
variable {st : SS} {L : LS} {qs : List (Int × Int)}
theorem comp_fld {e : EF} {g : Int × Int → Int} (h6 : eVar 6 st L = .ok (.d (.tup (sts qs))) L) (hl : qs.length ≤ 3000) (hs : ∀ d, ∃ st1, tfName 8 d (wipeS st [8]) = some st1 ∧ eVar 8 st1 L = .ok (.d d) L)
    (he : ∀ (st1 : SS) (q : Int × Int), eVar 8 st1 L = .ok (.d (stay q.1 q.2)) L → e st1 L = .ok (.d (.int (g q))) L) : eComp (iIt itT (eVar 6)) [8] (tfName 8) tYesF e st L = .ok (.d (li (qs.map g))) L := by
  have key : ∀ (c : D), (∃ q ∈ qs, c = stay q.1 q.2) → ∃ st1, tfName 8 c (wipeS st [8]) = some st1 ∧ e st1 L = .ok (.d (match c with | .ins _ _ [.int x, .int y] => .int (g (x, y)) | _ => .non)) L := by
    rintro c ⟨q, _, rfl⟩
    obtain ⟨st1, a1, a2⟩ := hs (stay q.1 q.2)
    exact ⟨st1, a1, he st1 q a2⟩
  have := comp_m (fi := iIt itT (eVar 6)) (vs := [8]) (tf := tfName 8) (fe := e) (st := st) (L := L) (xs := sts qs) (fun c => match c with | .ins _ _ [.int x, .int y] => .int (g (x, y)) | _ => .non) (VL.Q.it_t h6) (by simp [big]; omega) (fun d hd => by
    obtain ⟨q, hq, rfl⟩ := List.mem_map.mp hd
    exact key _ ⟨q, hq, rfl⟩)
  rw [this]
  congr 3
  rw [List.map_map, List.map_map]
  rfl
end
def orIf1 : SF := (sIf (bOr (bCmp neB (eFn reprR (aCons (eMeth 441 "fills" (fun us ws L => opt (arrU us ws [.p 0, .p 1]) fun xs => m_Book_fills xs L) 1 0 (eVar 1) (cPos (aCons (eVar 5) aNil))) aNil)) (eFn reprR (aCons (eVar 4) aNil))) (bOr (bCmp neB (eCmp notNonB (eVar 6) (eC .non)) (eVar 4)) (bBinU (eqTupU 278 (fun us L => opt (arrU us [] [.p 0, .p 1]) fun xs => m_Stay_eq xs L) true) (eMeth 441 "row_for" (fun us ws L => opt (arrU us ws [.p 0, .k 0]) fun xs => m_Book_row_for xs L) 0 1 (eVar 1) (cBoth aNil (aCons (eVar 5) aNil))) (eVar 6)))) (sRet (eC (.bl false))) sNil)
def orIf2 : SF := (sIf (bCmp isNonB (eVar 6) (eC .non)) (sRet (eC (.bl true))) sNil)
def orIf3 : SF := (sIf (bOr (bNot (bTru (eFn (isiT isi) (aCons (eVar 6) (aCons (eC (.ty "tuple")) aNil))))) (bCmp neB (eComp (iIt itT (eVar 6)) [8] (tfName 8) (bNot (bTru (eCall m_l_let [.p 0, .p 1, .p 2] 3 0 (cPos (aCons (eVar 0) (aCons (eUn (fldT cs_first "first") (eVar 8)) (aCons (eProp 278 (fun us L => opt (arrU us [] [.p 0]) fun xs => m_Stay_nights xs L) (eVar 8)) aNil))))))) (eVar 8)) (eLst aNil))) (sRet (eC (.bl false))) sNil)
def orEnds : EF := (eBinU addU (eComp (iIt itT (eVar 6)) [8] (tfName 8) tYesF (eUn (fldT cs_first "first") (eVar 8))) (eLst (aCons (eUn (fldT cs_after "after") (eVar 5)) aNil)))
def orRet : EF := (eAnd (eCmp eqB (eBin ixD (eVar 7) (eC (.int 0))) (eVar 2)) (eCmp eqB (eComp (iIt itT (eVar 6)) [8] (tfName 8) tYesF (eUn (fldT cs_after "after") (eVar 8))) (eSlA (eVar 7) (oSome (eC (.int 1))) oNone)))
def orSet6 : EF := (eMeth 441 "row_for" (fun us ws L => opt (arrU us ws [.p 0, .p 1]) fun xs => m_Book_row_for xs L) 1 0 (eVar 1) (cPos (aCons (eVar 5) aNil)))
def orPar : SF := (sPar 4 5 (aCons (eCall m_l_fills [.p 0, .p 1, .p 2] 3 0 (cPos (aCons (eVar 0) (aCons (eVar 2) (aCons (eVar 3) aNil))))) (aCons (eRest (eMake 278 m_Stay_init [.p 0, .p 1, .p 2] 2 0 (cPos (aCons (eVar 2) (aCons (eBinU addU (eVar 2) (eVar 3)) aNil))))) aNil)))
theorem one_right_eq : m_l_one_right = fnF 4 9 (sSeq orPar (sSeq (sSet 6 orSet6) (sSeq orIf1 (sSeq orIf2 (sSeq orIf3 (sSeq (sSet 7 orEnds) (sRet orRet))))))) := rfl
section
variable {rows rs : List (List Int)} (w : Dw rows) (q : Made rows rs) (b : Int) (n : Nat)
def oS (rows rs : List (List Int)) (b : Int) (n : Nat) (w4 w5 w6 w7 w8 : Option U) : SS := [some (.d (lr rows)), some (.d (book rs)), some (.d (.int b)), some (.d (.int (n : Int))), w4, w5, w6, w7, w8]
include w q in
open Classical in
theorem or_1 (h1 : 1 ≤ n) (hn : n ≤ 1000) {r : D} (L : LS) (er : m_Book_row_for [.d (book rs), .d (stay b (b + (n : Int)))] L = .ok (.d r) L) (sp : RfSpec (TR rows) b (b + (n : Int)) r) :
    orIf1 (oS rows rs b n (some (.d (.bl (decide (Rch (TR rows) b (b + (n : Int))))))) (some (.d (stay b (b + (n : Int))))) (some (.d r)) none none) L = .nx (oS rows rs b n (some (.d (.bl (decide (Rch (TR rows) b (b + (n : Int))))))) (some (.d (stay b (b + (n : Int))))) (some (.d r)) none none) L := by
  have ef := v_fills q.ne (w.ro q) b (b + (n : Int)) (by omega) (by omega) L
  obtain ⟨z, z1, z2⟩ := rp_bl (decide (Rch (TR rows) b (b + (n : Int))))
  have a1 := cmp_ok (g := neB) (a := eFn reprR (aCons (eMeth 441 "fills" (fun us ws L => opt (arrU us ws [.p 0, .p 1]) fun xs => m_Book_fills xs L) 1 0 (eVar 1) (cPos (aCons (eVar 5) aNil))) aNil)) (b := eFn reprR (aCons (eVar 4) aNil)) (st := oS rows rs b n (some (.d (.bl (decide (Rch (TR rows) b (b + (n : Int))))))) (some (.d (stay b (b + (n : Int))))) (some (.d r)) none none) (L := L) (fn1 (VL.Q.meth_ok (ns := ["rows"]) (xs := [tr rs]) rfl (by decide) (pos1 rfl) rfl rfl ef) z1) (fn1 rfl z1) z2
  have hnn : notNonB r .non = some (decide (Rch (TR rows) b (b + (n : Int)))) := by
    rcases sp with ⟨rfl, hr⟩ | ⟨c, ps, rfl, _, hr, _⟩
    · rw [decide_eq_false hr]; rfl
    · rw [decide_eq_true hr]; rfl
  have a2 := cmp_ok (g := neB) (a := eCmp notNonB (eVar 6) (eC .non)) (b := eVar 4) (st := oS rows rs b n (some (.d (.bl (decide (Rch (TR rows) b (b + (n : Int))))))) (some (.d (stay b (b + (n : Int))))) (some (.d r)) none none) (L := L) (ecmp_ok (x := r) (y := .non) rfl rfl hnn) rfl (ne_bl _)
  have hq : eqTupU 278 (fun us L => opt (arrU us [] [.p 0, .p 1]) fun xs => m_Stay_eq xs L) true (.d r) (.d r) L = .ok (.d (.bl false)) L := by
    rcases sp with ⟨rfl, hr⟩ | ⟨c, ps, rfl, _, hr, _⟩
    · kernel_rfl
    · exact eqTup_ne (eq_self _)
  have a3 : bBinU (eqTupU 278 (fun us L => opt (arrU us [] [.p 0, .p 1]) fun xs => m_Stay_eq xs L) true) (eMeth 441 "row_for" (fun us ws L => opt (arrU us ws [.p 0, .k 0]) fun xs => m_Book_row_for xs L) 0 1 (eVar 1) (cBoth aNil (aCons (eVar 5) aNil))) (eVar 6) (oS rows rs b n (some (.d (.bl (decide (Rch (TR rows) b (b + (n : Int))))))) (some (.d (stay b (b + (n : Int))))) (some (.d r)) none none) L = .ok false L := by
    have := binU_ok (g := eqTupU 278 (fun us L => opt (arrU us [] [.p 0, .p 1]) fun xs => m_Stay_eq xs L) true) (fa := eMeth 441 "row_for" (fun us ws L => opt (arrU us ws [.p 0, .k 0]) fun xs => m_Book_row_for xs L) 0 1 (eVar 1) (cBoth aNil (aCons (eVar 5) aNil))) (fb := eVar 6) (st := oS rows rs b n (some (.d (.bl (decide (Rch (TR rows) b (b + (n : Int))))))) (some (.d (stay b (b + (n : Int))))) (some (.d r)) none none) (L := L) (x := .d r) (y := .d r) (L1 := L) (L2 := L) (VL.Q.meth_ok (ns := ["rows"]) (xs := [tr rs]) rfl (by decide) (VL.Q.kw1 rfl) rfl rfl er) rfl hq
    unfold bBinU
    rw [this]; rfl
  exact if_f (VL.Q.or_f a1 (VL.Q.or_f a2 a3)) rfl
include w q in
open Classical in
theorem v_one_right (h1 : 1 ≤ n) (hn : n ≤ 1000) (L : LS) : m_l_one_right [.d (lr rows), .d (book rs), .d (.int b), .d (.int (n : Int))] L = .ok (.d (.bl true)) L := by
  obtain ⟨r, er, sp⟩ := v_row_for q.ne (w.ro q) b (b + (n : Int)) (by omega) (by omega) L
  have lf := v_lfills w.ne b n w.five hn L
  have s1 : orPar (oS rows rs b n none none none none none) L = .nx (oS rows rs b n (some (.d (.bl (decide (Rch (TR rows) b (b + (n : Int))))))) (some (.d (stay b (b + (n : Int))))) none none none) L :=
    VL.Q.par2 (i := 4) (j := 5) (call_ok (m := m_l_fills) (src := [.p 0, .p 1, .p 2]) (n := 3) (l := 0) (pos3 rfl rfl rfl) rfl rfl rfl lf) (v_mkStay' (by omega) (pos2 rfl (binU_ok rfl rfl addU_int)))
  have s2 : orSet6 (oS rows rs b n (some (.d (.bl (decide (Rch (TR rows) b (b + (n : Int))))))) (some (.d (stay b (b + (n : Int))))) none none none) L = .ok (.d r) L := VL.Q.meth_ok (ns := ["rows"]) (xs := [tr rs]) rfl (by decide) (pos1 rfl) rfl rfl er
  have s3 := or_1 w q b n h1 hn L er sp
  rw [one_right_eq]
  refine fn_rt rfl (seq_nx s1 (seq_nx (set_ok s2) (seq_nx s3 ?_)))
  rcases sp with ⟨rfl, hr⟩ | ⟨c, ps, rfl, hp, hr, hl⟩
  · exact seq_rt (if_t (cmp_ok (g := isNonB) (x := .non) (y := .non) rfl rfl rfl) (ret_ok rfl))
  · have i2 : orIf2 (oS rows rs b n (some (.d (.bl (decide (Rch (TR rows) b (b + (n : Int))))))) (some (.d (stay b (b + (n : Int))))) (some (.d (.tup (sts ps.reverse)))) none none) L = .nx (oS rows rs b n (some (.d (.bl (decide (Rch (TR rows) b (b + (n : Int))))))) (some (.d (stay b (b + (n : Int))))) (some (.d (.tup (sts ps.reverse)))) none none) L := if_f (cmp_ok (g := isNonB) (x := .tup (sts ps.reverse)) (y := .non) rfl rfl rfl) rfl
    have hb : (sts ps.reverse).length ≤ big := by simp [big]; omega
    have it : isiT isi [.tup (sts ps.reverse), .ty "tuple"] = some (.bl true) := by kernel_rfl
    have cf := comp_f (fi := iIt itT (eVar 6)) (vs := [8]) (tf := tfName 8) (tt := (bNot (bTru (eCall m_l_let [.p 0, .p 1, .p 2] 3 0 (cPos (aCons (eVar 0) (aCons (eUn (fldT cs_first "first") (eVar 8)) (aCons (eProp 278 (fun us L => opt (arrU us [] [.p 0]) fun xs => m_Stay_nights xs L) (eVar 8)) aNil)))))))) (fe := eVar 8) (st := oS rows rs b n (some (.d (.bl (decide (Rch (TR rows) b (b + (n : Int))))))) (some (.d (stay b (b + (n : Int))))) (some (.d (.tup (sts ps.reverse)))) none none) (L := L) (xs := sts ps.reverse) (fun _ => none) (VL.Q.it_t rfl) hb (fun d hd => by
      obtain ⟨x, hx, rfl⟩ := List.mem_map.mp hd
      have hx2 := hp.let_ x (List.mem_reverse.mp hx)
      refine ⟨oS rows rs b n (some (.d (.bl (decide (Rch (TR rows) b (b + (n : Int))))))) (some (.d (stay b (b + (n : Int))))) (some (.d (.tup (sts ps.reverse)))) none (some (.d (stay x.1 x.2))), rfl, .inr ⟨VL.Q.not_t (tru_bl (call_ok (m := m_l_let) (pos3 rfl (un_ok rfl (f_first x.1 x.2)) (p_nights (f := x.1) (a := x.2) rfl)) rfl rfl rfl ?_)), rfl⟩⟩
      have hx3 : x.2 - x.1 ∈ rowAt rows x.1 := hx2.2
      rw [v_let w.ne, decide_eq_true hx3])
    rw [fm_none] at cf
    have i3 : orIf3 (oS rows rs b n (some (.d (.bl (decide (Rch (TR rows) b (b + (n : Int))))))) (some (.d (stay b (b + (n : Int))))) (some (.d (.tup (sts ps.reverse)))) none none) L = .nx (oS rows rs b n (some (.d (.bl (decide (Rch (TR rows) b (b + (n : Int))))))) (some (.d (stay b (b + (n : Int))))) (some (.d (.tup (sts ps.reverse)))) none none) L :=
      if_f (VL.Q.or_f (VL.Q.not_t (tru_bl (fn2 rfl rfl it))) (cmp_ok (g := neB) cf VL.Q.nil_ok (by kernel_rfl))) rfl
    have ends := hp.ends
    have hlr : ps.reverse.length ≤ 3000 := by simp; omega
    have e1 : orEnds (oS rows rs b n (some (.d (.bl (decide (Rch (TR rows) b (b + (n : Int))))))) (some (.d (stay b (b + (n : Int))))) (some (.d (.tup (sts ps.reverse)))) none none) L = .ok (.d (li (b :: ps.reverse.map (·.2)))) L := by
      have c1 := comp_fld (e := eUn (fldT cs_first "first") (eVar 8)) (g := fun q => q.1) (st := oS rows rs b n (some (.d (.bl (decide (Rch (TR rows) b (b + (n : Int))))))) (some (.d (stay b (b + (n : Int))))) (some (.d (.tup (sts ps.reverse)))) none none) (L := L) (qs := ps.reverse) rfl hlr (fun d => ⟨_, rfl, rfl⟩) (fun st1 x h => un_ok h (f_first x.1 x.2))
      have := binU_ok (g := addU) c1 (VL.Q.lst1 (un_ok (fa := eVar 5) rfl (f_after b (b + (n : Int))))) (addU_lst (by simp; omega))
      have e9 : (ps.reverse.map fun q => q.1).map D.int ++ [.int (b + (n : Int))] = (b :: ps.reverse.map (·.2)).map D.int := by rw [← ends, List.map_append]; rfl
      rw [e9] at this
      exact this
    have c2 := comp_fld (e := eUn (fldT cs_after "after") (eVar 8)) (g := fun q => q.2) (st := oS rows rs b n (some (.d (.bl (decide (Rch (TR rows) b (b + (n : Int))))))) (some (.d (stay b (b + (n : Int))))) (some (.d (.tup (sts ps.reverse)))) (some (.d (li (b :: ps.reverse.map (·.2))))) none) (L := L) (qs := ps.reverse) rfl hlr (fun d => ⟨_, rfl, rfl⟩) (fun st1 x h => un_ok h (f_after x.1 x.2))
    have sl : sliceA (li (b :: ps.reverse.map (·.2))) (some 1) none = some (li (ps.reverse.map (·.2))) := by
      show some (D.lst (cutG ((b :: ps.reverse.map (·.2)).map D.int) (some ((1 : Nat) : Int)) none)) = _
      rw [cut_from _ _ (by simp)]
      rfl
    have x0 : ixD (li (b :: ps.reverse.map (·.2))) (.int 0) = some (.int b) := by
      show atI ((b :: ps.reverse.map (·.2)).map D.int) 0 = _
      rw [at_lt (by omega) (by simp)]; rfl
    have ef : eqB (.int b) (.int b) = some true := by rw [eq_int, decide_eq_true rfl]
    have el : eqB (li (ps.reverse.map fun q => q.2)) (li (ps.reverse.map (·.2))) = some true := by rw [eq_li, decide_eq_true rfl]
    refine seq_nx i2 (seq_nx i3 (seq_nx (set_ok e1) (ret_ok ?_)))
    exact VL.Q.eand_t (ecmp_ok (bin_ok rfl rfl x0) rfl ef) (ecmp_ok c2 (sl_ok1 rfl rfl sl) el)
end
end VL.P

set_option Elab.async false
set_option linter.all false
set_option maxRecDepth 100000
set_option maxHeartbeats 4000000
namespace VL.P
open PySem PySem.Spec PyProof.Rows L2 VL VL.Sy
open PySem.W (Frag)
open VL.Q (pos1 pos2 pos3 pos4 bin_ok un_ok fn1 fn2)
theorem len_lr (rs : List (List Int)) : lenD [lr rs] = some (.int rs.length) := by simp [lenD]
/-! ### the law's books -/
theorem v_book {rows : List (List Int)} (w : Dw rows) (L : LS) : ∃ rs, m_l_book [.d (lr rows)] L = .ok (.d (book rs)) L ∧ Made rows rs := by
  have hu : m_l_book = fnF 1 1 (sSeq (sIf (bCmp eqB (eFn lenD (aCons (eVar 0) aNil)) (eC (.int 1))) (sRet (eRest (eMakeS 441 m_Book_init (cPos (aCons (eBin ixD (eVar 0) (eC (.int 0))) aNil))))) sNil) (sSeq (sIf (bCmp eqB (eFn lenD (aCons (eVar 0) aNil)) (eC (.int 2))) (sRet (eRest (eMakeS 441 m_Book_init (cPos (aCons (eBin ixD (eVar 0) (eC (.int 0))) (aCons (eFnU tupU (aCons (eBin ixD (eVar 0) (eC (.int 1))) aNil)) aNil)))))) sNil) (sRet (eIf (bCmp eqB (eFn lenD (aCons (eVar 0) aNil)) (eC (.int 3))) (eRest (eMakeS 441 m_Book_init (cPos (aCons (eBin ixD (eVar 0) (eC (.int 0))) (aCons (eBin ixD (eVar 0) (eC (.int 1))) (aCons (eBin ixD (eVar 0) (eC (.int 2))) aNil)))))) (eRest (eMakeS 441 m_Book_init (cPos (aCons (eBin ixD (eVar 0) (eC (.int 0))) (aCons (eBin ixD (eVar 0) (eC (.int 1))) (aCons (eBin ixD (eVar 0) (eC (.int 2))) (aCons (eBin ixD (eVar 0) (eC (.int 3))) aNil))))))))))) := rfl
  have ne := w.ne
  have len := w.len
  have rwr := fun r hr => (w.rw_ r hr).1
  clear w
  match rows, ne, len, rwr with
  | [a], _, _, rwr =>
    obtain ⟨rs, q, h⟩ := v_mkBook (ds := [li a]) (rows := [a]) (.cons (.inl rfl) (rwr a (.head _)) .nil) (by simp) (by simp) L
    refine ⟨rs, ?_, q⟩
    rw [hu]
    have t := cmp_ok (g := eqB) (a := eFn lenD (aCons (eVar 0) aNil)) (b := eC (.int 1)) (st := [some (.d (lr [a]))]) (L := L) (y := .int 1) (fn1 rfl (len_lr [a])) rfl (eq_int _ _)
    rw [show decide ((([a] : List (List Int)).length : Int) = 1) = true from rfl] at t
    exact fn_rt rfl (seq_rt (if_t t (ret_ok (h (pos1 (bin_ok rfl rfl rfl))))))
  | [a, b], _, _, rwr =>
    obtain ⟨rs, q, h⟩ := v_mkBook (ds := [li a, ti b]) (rows := [a, b]) (.cons (.inl rfl) (rwr a (.head _)) (.cons (.inr rfl) (rwr b (.tail _ (.head _))) .nil)) (by simp) (by simp) L
    refine ⟨rs, ?_, q⟩
    rw [hu]
    have t1 := cmp_ok (g := eqB) (a := eFn lenD (aCons (eVar 0) aNil)) (b := eC (.int 1)) (st := [some (.d (lr [a, b]))]) (L := L) (y := .int 1) (fn1 rfl (len_lr [a, b])) rfl (eq_int _ _)
    have t2 := cmp_ok (g := eqB) (a := eFn lenD (aCons (eVar 0) aNil)) (b := eC (.int 2)) (st := [some (.d (lr [a, b]))]) (L := L) (y := .int 2) (fn1 rfl (len_lr [a, b])) rfl (eq_int _ _)
    rw [show decide ((([a, b] : List (List Int)).length : Int) = 1) = false from rfl] at t1
    rw [show decide ((([a, b] : List (List Int)).length : Int) = 2) = true from rfl] at t2
    exact fn_rt rfl (seq_nx (if_f t1 rfl) (seq_rt (if_t t2 (ret_ok (h (pos2 (bin_ok rfl rfl rfl) (fnU1_ok (bin_ok rfl rfl rfl) rfl)))))))
  | [a, b, c], _, _, rwr =>
    obtain ⟨rs, q, h⟩ := v_mkBook (ds := [li a, li b, li c]) (rows := [a, b, c]) (.cons (.inl rfl) (rwr a (.head _)) (.cons (.inl rfl) (rwr b (.tail _ (.head _))) (.cons (.inl rfl) (rwr c (.tail _ (.tail _ (.head _)))) .nil))) (by simp) (by simp) L
    refine ⟨rs, ?_, q⟩
    rw [hu]
    have t1 := cmp_ok (g := eqB) (a := eFn lenD (aCons (eVar 0) aNil)) (b := eC (.int 1)) (st := [some (.d (lr [a, b, c]))]) (L := L) (y := .int 1) (fn1 rfl (len_lr [a, b, c])) rfl (eq_int _ _)
    have t2 := cmp_ok (g := eqB) (a := eFn lenD (aCons (eVar 0) aNil)) (b := eC (.int 2)) (st := [some (.d (lr [a, b, c]))]) (L := L) (y := .int 2) (fn1 rfl (len_lr [a, b, c])) rfl (eq_int _ _)
    have t3 := cmp_ok (g := eqB) (a := eFn lenD (aCons (eVar 0) aNil)) (b := eC (.int 3)) (st := [some (.d (lr [a, b, c]))]) (L := L) (y := .int 3) (fn1 rfl (len_lr [a, b, c])) rfl (eq_int _ _)
    rw [show decide ((([a, b, c] : List (List Int)).length : Int) = 1) = false from rfl] at t1
    rw [show decide ((([a, b, c] : List (List Int)).length : Int) = 2) = false from rfl] at t2
    rw [show decide ((([a, b, c] : List (List Int)).length : Int) = 3) = true from rfl] at t3
    exact fn_rt rfl (seq_nx (if_f t1 rfl) (seq_nx (if_f t2 rfl) (ret_ok (VL.Q.eif_t t3 (h (pos3 (bin_ok rfl rfl rfl) (bin_ok rfl rfl rfl) (bin_ok rfl rfl rfl)))))))
  | [a, b, c, d], _, _, rwr =>
    obtain ⟨rs, q, h⟩ := v_mkBook (ds := [li a, li b, li c, li d]) (rows := [a, b, c, d]) (.cons (.inl rfl) (rwr a (.head _)) (.cons (.inl rfl) (rwr b (.tail _ (.head _))) (.cons (.inl rfl) (rwr c (.tail _ (.tail _ (.head _)))) (.cons (.inl rfl) (rwr d (.tail _ (.tail _ (.tail _ (.head _))))) .nil)))) (by simp) (by simp) L
    refine ⟨rs, ?_, q⟩
    rw [hu]
    have t1 := cmp_ok (g := eqB) (a := eFn lenD (aCons (eVar 0) aNil)) (b := eC (.int 1)) (st := [some (.d (lr [a, b, c, d]))]) (L := L) (y := .int 1) (fn1 rfl (len_lr [a, b, c, d])) rfl (eq_int _ _)
    have t2 := cmp_ok (g := eqB) (a := eFn lenD (aCons (eVar 0) aNil)) (b := eC (.int 2)) (st := [some (.d (lr [a, b, c, d]))]) (L := L) (y := .int 2) (fn1 rfl (len_lr [a, b, c, d])) rfl (eq_int _ _)
    have t3 := cmp_ok (g := eqB) (a := eFn lenD (aCons (eVar 0) aNil)) (b := eC (.int 3)) (st := [some (.d (lr [a, b, c, d]))]) (L := L) (y := .int 3) (fn1 rfl (len_lr [a, b, c, d])) rfl (eq_int _ _)
    rw [show decide ((([a, b, c, d] : List (List Int)).length : Int) = 1) = false from rfl] at t1
    rw [show decide ((([a, b, c, d] : List (List Int)).length : Int) = 2) = false from rfl] at t2
    rw [show decide ((([a, b, c, d] : List (List Int)).length : Int) = 3) = false from rfl] at t3
    exact fn_rt rfl (seq_nx (if_f t1 rfl) (seq_nx (if_f t2 rfl) (ret_ok (VL.Q.eif_f t3 (h (pos4 (bin_ok rfl rfl rfl) (bin_ok rfl rfl rfl) (bin_ok rfl rfl rfl) (bin_ok rfl rfl rfl)))))))
  | a :: b :: c :: d :: e :: r, _, len, _ => simp at len
/-! ### joined -/
theorem v_need_book (rs : List (List Int)) (x : D) (L : LS) : m_need_book [.d (book rs), .d x] L = .ok (.d .non) L := by
  have h1 : isiT isi [book rs, .obj 441] = some (.bl true) := by kernel_rfl
  simp [m_need_book, Rs.bind, opt, LO.rd, rdU, fzU, eVar, eC, op2, op1, eBin, eUn, eCmp, bop2, bCmp, eChain, bChain, trU, bTru, eAnd, eOr, eNot, bAnd, bOr, bNot, eIf, rdUs, fzUs, aNil, aCons, eLst, eTup, eLstL, opn, eFn, oNone, oSome, eSl, eJoin, Rt.andThen, ofR, optS, sNil, sSeq, sDrop, sRet, sIf, sSet, sPar, tfName, tfNil, tfCons, tfTup, sAsg, sSub, outR, fnF, cPos, cBoth, Sr.get, arrU, eCall, iSeq, iRng1, iRng2, sFor, eComp, tYesF, eMake, mkF, eRest, sFld, eFnU, sBrk, sCnt, sRetN, eDic0, eDic, dPairs, keyU, bD, big, eBinU, bBinU, bTest, eMeth, own1, own2, ownLen, lenU, truU, notU, sRaise, eAppend, apnd, newL, catL, sTry, Rt.clr, eSlA, sliceA, sliceD, addU, taddU, mulA, tmulA, tupU, iIt, walkD, itemsOf, iZipG, iEnumG, aStar, aStarZ, sAug, eRev, iRng3, sPar3, ownOp, ownNe, ownCmp, ownIn, wipeS, List.take_length, listL, eMakeS, mkS, eProp, iRngW, ownOpI, cStar, h1, truB]
theorem v_round {a b : Nat} (ha : 1 ≤ a ∧ a ≤ 4) (hb : 1 ≤ b ∧ b ≤ 4) (L : LS) : m_common_round [.d (.int (a : Int)), .d (.int (b : Int))] L = .ok (.d (.int ((Nat.lcm a b : Nat) : Int))) L := by
  have h1 : a = 1 ∨ a = 2 ∨ a = 3 ∨ a = 4 := by omega
  have h2 : b = 1 ∨ b = 2 ∨ b = 3 ∨ b = 4 := by omega
  have : m_common_round [.d (.int (a : Int)), .d (.int (b : Int))] L = .ok (.d (.int ((Nat.lcm a b : Nat) : Int))) (L.take L.length) := by
    rcases h1 with rfl | rfl | rfl | rfl <;> rcases h2 with rfl | rfl | rfl | rfl <;> kernel_rfl
  rw [this, List.take_length]
theorem lcm_le {a b : Nat} (ha : 1 ≤ a ∧ a ≤ 4) (hb : 1 ≤ b ∧ b ≤ 4) : 1 ≤ Nat.lcm a b ∧ Nat.lcm a b ≤ 12 := by
  have h1 : a = 1 ∨ a = 2 ∨ a = 3 ∨ a = 4 := by omega
  have h2 : b = 1 ∨ b = 2 ∨ b = 3 ∨ b = 4 := by omega
  rcases h1 with rfl | rfl | rfl | rfl <;> rcases h2 with rfl | rfl | rfl | rfl <;> decide
def both (a b : List Int) : List Int := r30.filter fun n => decide (n ∈ a) || decide (n ∈ b)
theorem both_rw (a b : List Int) : Rw (both a b) := by
  refine ⟨r30_nd.filter _, fun n hn => r30_mem.mp (List.mem_filter.mp hn).1, ?_⟩
  have h := List.length_filter_le (fun n => decide (n ∈ a) || decide (n ∈ b)) r30
  have : r30.length = 30 := by decide
  unfold both
  omega
theorem v_both (a b : List Int) (L : LS) : m_row_of_both [.d (ti a), .d (ti b), .d (.bl false)] L = .ok (.d (ti (both a b))) L := by
  have hu : m_row_of_both = fnF 3 4 (sSeq (sIf (bTru (eVar 2)) (sRet (eFnU tupU (aCons (eComp (iIt itT (eVar 0)) [3] (tfName 3) (bCmp inB (eVar 3) (eVar 1)) (eVar 3)) aNil))) sNil) (sRet (eFnU tupU (aCons (eComp (iRngW (aCons (eC (.int 1)) (aCons (eBinU addU (eC (.int 30)) (eC (.int 1))) aNil))) [3] (tfName 3) (bOr (bCmp inB (eVar 3) (eVar 0)) (bCmp inB (eVar 3) (eVar 1))) (eVar 3)) aNil)))) := rfl
  rw [hu]
  refine fn_rt rfl (seq_nx (if_f (tru_bl rfl) rfl) (ret_ok (fnU1_ok (comp_r30 (fun n => decide (n ∈ a) || decide (n ∈ b)) fun n => ⟨[some (.d (ti a)), some (.d (ti b)), some (.d (.bl false)), some (.d (.int n))], rfl, ?_, rfl⟩) rfl)))
  have t1 := cmp_ok (g := inB) (a := eVar 3) (b := eVar 0) (st := [some (.d (ti a)), some (.d (ti b)), some (.d (.bl false)), some (.d (.int n))]) (L := L) (x := .int n) rfl rfl (VL.Q.in_t (xs := a))
  have t2 := cmp_ok (g := inB) (a := eVar 3) (b := eVar 1) (st := [some (.d (ti a)), some (.d (ti b)), some (.d (.bl false)), some (.d (.int n))]) (L := L) (x := .int n) rfl rfl (VL.Q.in_t (xs := b))
  cases h : decide (n ∈ a)
  · rw [h] at t1; rw [Bool.false_or]; exact VL.Q.or_f t1 t2
  · rw [h] at t1; exact VL.Q.or_t t1
def rowsJ (rs qs : List (List Int)) (m : Nat) : List (List Int) := (List.range m).map fun (k : Nat) => both (rowAt rs (k : Int)) (rowAt qs (k : Int))
theorem rowsJ_at {rs qs : List (List Int)} {m : Nat} (hm : 1 ≤ m) (d : Int) : rowAt (rowsJ rs qs m) d = both (rowAt rs (d % (m : Int))) (rowAt qs (d % (m : Int))) := by
  have hl : (rowsJ rs qs m).length = m := by simp [rowsJ]
  have h0 := Int.emod_nonneg d (show (m : Int) ≠ 0 by omega)
  have h1 := Int.emod_lt_of_pos d (show (0 : Int) < (m : Int) by omega)
  have hk : (d % (m : Int)).toNat < m := by omega
  have e : rowAt (rowsJ rs qs m) d = (rowsJ rs qs m).getD (d % (m : Int)).toNat [] := by unfold rowAt; rw [hl]
  rw [e]
  unfold rowsJ
  rw [List.getD_eq_getElem?_getD, List.getElem?_map, List.getElem?_range hk]
  simp only [Option.map_some, Option.getD_some]
  rw [show (((d % (m : Int)).toNat : Nat) : Int) = d % (m : Int) by omega]
theorem rowAt_mod {rs : List (List Int)} {m : Nat} (h : rs.length ∣ m) (d : Int) : rowAt rs (d % (m : Int)) = rowAt rs d := by
  unfold rowAt
  rw [Int.emod_emod_of_dvd d (Int.natCast_dvd_natCast.mpr h)]
theorem rws_ti : ∀ {rs : List (List Int)}, (∀ r ∈ rs, Rw r) → Rws (rs.map ti) rs
  | [], _ => .nil
  | r :: rs, h => .cons (.inr rfl) (h r (.head _)) (rws_ti fun q hq => h q (.tail _ hq))
theorem v_joined {rs qs : List (List Int)} (hr : 1 ≤ rs.length ∧ rs.length ≤ 4) (hq : 1 ≤ qs.length ∧ qs.length ≤ 4) (L : LS) :
    ∃ ws, m_Book_joined [.d (book rs), .d (book qs), .d (.bl false)] L = .ok (.d (book ws)) L ∧ ws ≠ [] ∧ (∀ d, rowAt ws d = asc (both (rowAt rs d) (rowAt qs d))) := by
  have nr : rs ≠ [] := fun z => by rw [z] at hr; simp at hr
  have nq : qs ≠ [] := fun z => by rw [z] at hq; simp at hq
  obtain ⟨m1, m12⟩ := lcm_le hr hq
  have d1 : rs.length ∣ Nat.lcm rs.length qs.length := Nat.dvd_lcm_left _ _
  have d2 : qs.length ∣ Nat.lcm rs.length qs.length := Nat.dvd_lcm_right _ _
  have vr := v_round hr hq L
  generalize Nat.lcm rs.length qs.length = m at *
  have hu : m_Book_joined = fnF 3 9 (sSeq (sDrop (eCall m_need_book [.p 0, .p 1] 2 0 (cPos (aCons (eVar 1) (aCons (eC (.str "other")) aNil))))) (sSeq (sSet 3 (eCall m_common_round [.p 0, .p 1] 2 0 (cPos (aCons (eFn lenD (aCons (eUn (fldT cs_rows "rows") (eVar 0)) aNil)) (aCons (eFn lenD (aCons (eUn (fldT cs_rows "rows") (eVar 1)) aNil)) aNil))))) (sSeq (sSet 4 (eComp (iRng1 (aCons (eVar 3) aNil)) [6] (tfName 6) tYesF (eTup (aCons (eBin ixD (eUn (fldT cs_rows "rows") (eVar 0)) (eBin modD (eVar 6) (eFn lenD (aCons (eUn (fldT cs_rows "rows") (eVar 0)) aNil)))) (aCons (eBin ixD (eUn (fldT cs_rows "rows") (eVar 1)) (eBin modD (eVar 6) (eFn lenD (aCons (eUn (fldT cs_rows "rows") (eVar 1)) aNil)))) aNil))))) (sSeq (sSet 5 (eCall m_least_rows [.p 0] 1 0 (cPos (aCons (eFnU tupU (aCons (eComp (iIt itT (eVar 4)) [7, 8] (tfTup 2 (tfCons (tfName 7) (tfCons (tfName 8) tfNil))) tYesF (eCall m_row_of_both [.p 0, .p 1, .p 2] 3 0 (cPos (aCons (eVar 7) (aCons (eVar 8) (aCons (eVar 2) aNil)))))) aNil)) aNil)))) (sSeq (sIf (bCmp gtB (eFn lenD (aCons (eVar 5) aNil)) (eC (.int 60))) (sRaise 151 ["what", "most"] (aCons (eC (.str "rows")) (aCons (eC (.int 60)) aNil))) sNil) (sRet (eRest (eMakeS 441 m_Book_init (cStar (eVar 5)))))))))) := rfl
  -- the pairs
  have cp := comp_m (fi := iRng1 (aCons (eVar 3) aNil)) (vs := [6]) (tf := tfName 6) (fe := (eTup (aCons (eBin ixD (eUn (fldT cs_rows "rows") (eVar 0)) (eBin modD (eVar 6) (eFn lenD (aCons (eUn (fldT cs_rows "rows") (eVar 0)) aNil)))) (aCons (eBin ixD (eUn (fldT cs_rows "rows") (eVar 1)) (eBin modD (eVar 6) (eFn lenD (aCons (eUn (fldT cs_rows "rows") (eVar 1)) aNil)))) aNil)))) (st := [some (.d (book rs)), some (.d (book qs)), some (.d (.bl false)), some (.d (.int (m : Int))), none, none, none, none, none]) (L := L) (xs := rngD 0 m) (fun d => match d with | .int k => .tup [ti (rowAt rs k), ti (rowAt qs k)] | _ => .non) (rng1_ok rfl (inRng_ok (by omega) (by omega)) (by omega)) (by simp [rngD, big]; omega) (fun d hd => by
    obtain ⟨i, hi⟩ := List.mem_iff_getElem?.mp hd
    obtain ⟨_, rfl⟩ := VL.Q.rng_get hi
    refine ⟨[some (.d (book rs)), some (.d (book qs)), some (.d (.bl false)), some (.d (.int (m : Int))), none, none, some (.d (.int (0 + (i : Int)))), none, none], rfl, ?_⟩
    exact VL.Q.tup2 (bin_ok (un_ok rfl (f_rows rs)) (bin_ok rfl (fn1 (un_ok rfl (f_rows rs)) (len_tr rs)) (mod_len nr _)) (ix_rows nr _)) (bin_ok (un_ok rfl (f_rows qs)) (bin_ok rfl (fn1 (un_ok rfl (f_rows qs)) (len_tr qs)) (mod_len nq _)) (ix_rows nq _)))
  have ep : (rngD 0 m).map (fun d => match d with | .int k => D.tup [ti (rowAt rs k), ti (rowAt qs k)] | _ => .non) = (List.range m).map fun (k : Nat) => D.tup [ti (rowAt rs (k : Int)), ti (rowAt qs (k : Int))] := by
    unfold rngD
    rw [List.map_map]
    refine List.map_congr_left fun k _ => ?_
    simp
  rw [ep] at cp
  -- the rows
  have cb := comp_m (fi := iIt itT (eVar 4)) (vs := [7, 8]) (tf := tfTup 2 (tfCons (tfName 7) (tfCons (tfName 8) tfNil))) (fe := (eCall m_row_of_both [.p 0, .p 1, .p 2] 3 0 (cPos (aCons (eVar 7) (aCons (eVar 8) (aCons (eVar 2) aNil)))))) (st := [some (.d (book rs)), some (.d (book qs)), some (.d (.bl false)), some (.d (.int (m : Int))), some (.d (.lst ((List.range m).map fun (k : Nat) => D.tup [ti (rowAt rs (k : Int)), ti (rowAt qs (k : Int))]))), none, none, none, none]) (L := L) (xs := (List.range m).map fun (k : Nat) => D.tup [ti (rowAt rs (k : Int)), ti (rowAt qs (k : Int))]) (fun d => match d with
      | .tup [.tup a, .tup b] => ti (both ((intsD a).getD []) ((intsD b).getD []))
      | _ => .non) (VL.Q.it_l rfl) (by simp [big]; omega) (fun d hd => by
    obtain ⟨k, _, rfl⟩ := List.mem_map.mp hd
    refine ⟨[some (.d (book rs)), some (.d (book qs)), some (.d (.bl false)), some (.d (.int (m : Int))), some (.d (.lst ((List.range m).map fun (k : Nat) => D.tup [ti (rowAt rs (k : Int)), ti (rowAt qs (k : Int))]))), none, none, some (.d (ti (rowAt rs (k : Int)))), some (.d (ti (rowAt qs (k : Int))))], rfl, ?_⟩
    simp only [intsD_ok, Option.getD_some]
    exact call_ok (pos3 rfl rfl rfl) rfl rfl rfl (v_both (rowAt rs (k : Int)) (rowAt qs (k : Int)) L))
  have eb : ((List.range m).map fun (k : Nat) => D.tup [ti (rowAt rs (k : Int)), ti (rowAt qs (k : Int))]).map (fun d => match d with
      | .tup [.tup a, .tup b] => ti (both ((intsD a).getD []) ((intsD b).getD []))
      | _ => .non) = (rowsJ rs qs m).map ti := by
    unfold rowsJ
    rw [List.map_map, List.map_map]
    refine List.map_congr_left fun k _ => ?_
    simp [intsD_ok]
  rw [eb] at cb
  have hj : (rowsJ rs qs m).length = m := by simp [rowsJ]
  have nj : rowsJ rs qs m ≠ [] := fun z => by rw [z] at hj; simp at hj; omega
  obtain ⟨ls, el, q1⟩ := v_least nj (by omega) L
  have hrl : ∀ r ∈ ls, Rw r := fun r hr => by
    obtain ⟨k, _, rfl⟩ := List.mem_map.mp (q1.mem r hr)
    exact both_rw _ _
  have ll : ls.length ≤ 12 := by have := q1.len; omega
  obtain ⟨ws, q2, mk⟩ := v_mkBook (rws_ti hrl) q1.ne (by omega) L
  refine ⟨ws, ?_, q2.ne, fun d => ?_⟩
  · rw [hu]
    have g1 := call_ok (m := m_need_book) (src := [.p 0, .p 1]) (n := 2) (l := 0) (fa := cPos (aCons (eVar 1) (aCons (eC (.str "other")) aNil))) (st := [some (.d (book rs)), some (.d (book qs)), some (.d (.bl false)), none, none, none, none, none, none]) (L := L) (pos2 rfl rfl) rfl rfl rfl (v_need_book qs (.str "other") L)
    have g2 := call_ok (m := m_common_round) (src := [.p 0, .p 1]) (n := 2) (l := 0) (st := [some (.d (book rs)), some (.d (book qs)), some (.d (.bl false)), none, none, none, none, none, none]) (L := L) (pos2 (fn1 (un_ok (fa := eVar 0) rfl (f_rows rs)) (len_tr rs)) (fn1 (un_ok (fa := eVar 1) rfl (f_rows qs)) (len_tr qs))) rfl rfl rfl vr
    have g5 := call_ok (m := m_least_rows) (src := [.p 0]) (n := 1) (l := 0) (pos1 (fnU1_ok (g := tupU) cb (r := .ok (.d (tr (rowsJ rs qs m))) L) rfl)) rfl rfl rfl el
    have t6 := cmp_ok (g := gtB) (a := eFn lenD (aCons (eVar 5) aNil)) (b := eC (.int 60)) (st := [some (.d (book rs)), some (.d (book qs)), some (.d (.bl false)), some (.d (.int (m : Int))), some (.d (.lst ((List.range m).map fun (k : Nat) => D.tup [ti (rowAt rs (k : Int)), ti (rowAt qs (k : Int))]))), some (.d (tr ls)), none, none, none]) (L := L) (y := .int 60) (fn1 rfl (len_tr ls)) rfl rfl
    rw [show decide ((60 : Int) < (ls.length : Int)) = false from decide_eq_false (by omega)] at t6
    have mk2 := mk (fc := cStar (eVar 5)) (st := [some (.d (book rs)), some (.d (book qs)), some (.d (.bl false)), some (.d (.int (m : Int))), some (.d (.lst ((List.range m).map fun (k : Nat) => D.tup [ti (rowAt rs (k : Int)), ti (rowAt qs (k : Int))]))), some (.d (tr ls)), none, none, none]) rfl
    exact fn_rt rfl (seq_nx (drop_ok g1) (seq_nx (set_ok g2) (seq_nx (set_ok cp) (seq_nx (set_ok g5) (seq_nx (if_f t6 rfl) (ret_ok mk2))))))
  · rw [q2.at_, q1.at_, rowsJ_at m1, rowAt_mod d1, rowAt_mod d2]
theorem v_or {rs qs : List (List Int)} (hr : 1 ≤ rs.length ∧ rs.length ≤ 4) (hq : 1 ≤ qs.length ∧ qs.length ≤ 4) (L : LS) :
    ∃ ws, m_Book_or [.d (book rs), .d (book qs)] L = .ok (.d (book ws)) L ∧ ws ≠ [] ∧ (∀ d, rowAt ws d = asc (both (rowAt rs d) (rowAt qs d))) := by
  obtain ⟨ws, e, h⟩ := v_joined hr hq L
  refine ⟨ws, ?_, h⟩
  have hu : m_Book_or = fnF 2 2 (sRet (eMeth 441 "joined" (fun us ws L => opt (arrU us ws [.p 0, .p 1, .p 2]) fun xs => m_Book_joined xs L) 2 0 (eVar 0) (cPos (aCons (eVar 1) (aCons (eC (.bl false)) aNil))))) := rfl
  rw [hu]
  exact fn_rt rfl (ret_ok (VL.Q.meth_ok (ns := ["rows"]) (xs := [tr rs]) rfl (by decide) (pos2 rfl rfl) rfl rfl e))
theorem Made.lens {rows rs : List (List Int)} (w : Dw rows) (q : Made rows rs) : 1 ≤ rs.length ∧ rs.length ≤ 4 := by
  have := q.len
  have := w.len
  have : 0 < rs.length := List.length_pos_iff.mpr q.ne
  omega
theorem wide_ro {rs qs ws : List (List Int)} (h : ∀ d, rowAt ws d = asc (both (rowAt rs d) (rowAt qs d))) : RowsOk (TR ws) (rowAt ws) := by
  refine ⟨fun d n => Iff.rfl, fun d n hn => ?_, fun d => ?_⟩
  · rw [h] at hn
    have := (asc_rw (both (rowAt rs d) (rowAt qs d))).rng n hn
    omega
  · rw [h]; exact (asc_rw _).len
theorem wide_more {rows rs qs ws : List (List Int)} (w : Dw rows) (q : Made rows rs) (h : ∀ d, rowAt ws d = asc (both (rowAt rs d) (rowAt qs d))) (d n : Int) (ht : TR rows d n) : TR ws d n := by
  have h1 : n ∈ rowAt rs d := ((w.ro q).iff d n).mpr ht
  have h2 := (w.ro q).pos d n h1
  show n ∈ rowAt ws d
  rw [h, asc_mem (both_rw _ _).rng]
  unfold both
  rw [List.mem_filter, r30_mem]
  exact ⟨⟨by omega, by omega⟩, by simp [h1]⟩
end VL.P

set_option Elab.async false
set_option linter.all false
set_option maxRecDepth 100000
set_option maxHeartbeats 4000000
namespace VL.P
open PySem PySem.Spec PyProof.Rows L2 VL VL.Sy
open PySem.W (Frag)
open VL.Q (pos1 pos2 pos3 pos4 bin_ok un_ok fn1 fn2)
/-! ### draws -/
theorem draw_dr : DrR m_l_draw := fun hn p h0 h1 => draw_okR (a1 := 68597) (b1 := 2777) (m1 := 2147483563) (a2 := 79229) (b2 := 1871) (m2 := 2147483629) (b3 := 499) (a4 := 50839) (b4 := 113) (m3 := 2147483587) (by unfold Cs; decide) hn p h0 h1
theorem draw_call {R : LS} {n : Nat} {L : LS} {st : SS} {fp fl : EF} {many : Int} (p : PenR R n L) (hn : n < 2 ^ 20) (h0 : fp st L = .ok (.l 0) L) (hx : fl st L = .ok (.d (.int many)) L) (h1 : 0 < many) (h2 : many < 2 ^ 30) :
    ∃ (r : Int) (L' : LS), eCall m_l_draw [.p 0, .p 1] 2 0 (cPos (aCons fp (aCons fl aNil))) st L = .ok (.d (.int r)) L' ∧ 0 ≤ r ∧ r < many ∧ PenR R (n + 1) L' := by
  obtain ⟨r, L', e, h3, h4, p'⟩ := draw_dr hn p h1 h2
  exact ⟨r, L', call_ok (pos2 h0 hx) rfl rfl rfl e, h3, h4, p'⟩
/-- a comprehension whose test changes something: some of the items, in order -/
theorem compF_some {tf : TgF} {tt : TF} {fe : EF} {st : SS} (P : Nat → LS → Prop) : ∀ (xs acc : List D) (i : Nat) (L : LS), P i L →
    (∀ j L, P j L → j < i + xs.length → ∀ d ∈ xs, ∃ st1 k L', tf d st = some st1 ∧ tt st1 L = .ok k L' ∧ fe st1 L' = .ok (.d d) L' ∧ P (j + 1) L') → acc.length + xs.length ≤ big →
    ∃ ys L', compF tf tt fe st xs acc L = .ok (acc ++ ys) L' ∧ ys.Sublist xs ∧ P (i + xs.length) L'
  | [], acc, i, L, p, _, _ => ⟨[], L, by simp [compF], .slnil, p⟩
  | d :: xs, acc, i, L, p, h, hl => by
    obtain ⟨st1, k, L1, e1, e2, e3, p1⟩ := h i L p (by simp) d (.head _)
    have hl' : acc.length < big := by simp at hl; omega
    cases k with
    | true =>
      obtain ⟨ys, L', e4, hs, p2⟩ := compF_some P xs (acc ++ [d]) (i + 1) L1 p1 (fun j L pj hj c hc => h j L pj (by simp; omega) c (.tail _ hc)) (by simp at hl ⊢; omega)
      refine ⟨d :: ys, L', ?_, hs.cons_cons d, by rw [List.length_cons, show i + (xs.length + 1) = i + 1 + xs.length by omega]; exact p2⟩
      simp only [compF, e1, opt, e2, bindN_ok, if_true, e3, fzU, hl', e4, List.append_assoc, List.singleton_append]
    | false =>
      obtain ⟨ys, L', e4, hs, p2⟩ := compF_some P xs acc (i + 1) L1 p1 (fun j L pj hj c hc => h j L pj (by simp; omega) c (.tail _ hc)) (by simp at hl ⊢; omega)
      refine ⟨ys, L', ?_, hs.cons d, by rw [List.length_cons, show i + (xs.length + 1) = i + 1 + xs.length by omega]; exact p2⟩
      simp [compF, e1, opt, e2, e4]
theorem sub_ints {ys : List D} {xs : List Int} (h : ys.Sublist (xs.map D.int)) : ∃ ns : List Int, ys = ns.map D.int ∧ ns.Sublist xs := by
  obtain ⟨ns, h1, rfl⟩ := List.sublist_map_iff.mp h
  exact ⟨ns, rfl, h1⟩
def base5 : List Int := [3, 1, 2, 5, 4]
theorem row_ok {ns : List Int} (h : ns.Sublist base5) : Rw ns ∧ ∀ n ∈ ns, 1 ≤ n ∧ n ≤ 5 := by
  have h5 : ∀ n ∈ base5, 1 ≤ n ∧ n ≤ 5 := by unfold base5; decide
  have hb : ∀ n ∈ ns, 1 ≤ n ∧ n ≤ 5 := fun n hn => h5 n (h.subset hn)
  refine ⟨⟨h.nodup (by unfold base5; decide), fun n hn => by have := hb n hn; omega, ?_⟩, hb⟩
  have := h.length_le
  have : base5.length = 5 := rfl
  omega
def rwE : EF := (eLst (aCons (eC (.int 3)) (aCons (eC (.int 1)) (aCons (eC (.int 2)) (aCons (eC (.int 5)) (aCons (eC (.int 4)) aNil))))))
theorem rwE_ok (st : SS) (L : LS) : rwE st L = .ok (.d (li base5)) L := by kernel_rfl
def rwT : TF := (bCmp eqB (eCall m_l_draw [.p 0, .p 1] 2 0 (cPos (aCons (eVar 0) (aCons (eC (.int 3)) aNil)))) (eC (.int 0)))
def rwC : EF := (eComp (iIt itT (eLst (aCons (eC (.int 3)) (aCons (eC (.int 1)) (aCons (eC (.int 2)) (aCons (eC (.int 5)) (aCons (eC (.int 4)) aNil))))))) [4] (tfName 4) (bCmp eqB (eCall m_l_draw [.p 0, .p 1] 2 0 (cPos (aCons (eVar 0) (aCons (eC (.int 3)) aNil)))) (eC (.int 0))) (eVar 4))
theorem rwC_eq : rwC = eComp (iIt itT rwE) [4] (tfName 4) rwT (eVar 4) := rfl
def rwB : SF := (sDrop (eAppend (eVar 2) (eComp (iIt itT (eLst (aCons (eC (.int 3)) (aCons (eC (.int 1)) (aCons (eC (.int 2)) (aCons (eC (.int 5)) (aCons (eC (.int 4)) aNil))))))) [4] (tfName 4) (bCmp eqB (eCall m_l_draw [.p 0, .p 1] 2 0 (cPos (aCons (eVar 0) (aCons (eC (.int 3)) aNil)))) (eC (.int 0))) (eVar 4))))
theorem rwB_eq : rwB = sDrop (eAppend (eVar 2) rwC) := rfl
def rwR : EF := (eIf (bCmp neB (eComp (iIt itT (eVar 2)) [5] (tfName 5) (bCmp neB (eVar 5) (eLst aNil)) (eVar 5)) (eLst aNil)) (eVar 2) (eLst (aCons (eLst (aCons (eC (.int 1)) aNil)) aNil)))
def rwI : IF := (iRng1 (aCons (eBinU addU (eC (.int 1)) (eCall m_l_draw [.p 0, .p 1] 2 0 (cPos (aCons (eVar 0) (aCons (eVar 1) aNil))))) aNil))
theorem l_rows_eq : m_l_rows = fnF 2 6 (sSeq (sSet 2 (eLstL aNil)) (sSeq (sFor rwI (tfName 3) rwB) (sRet (eRest rwR)))) := rfl
def rwSt (u1 w2 w3 w4 w5 : Option U) : SS := [some (.l 0), u1, w2, w3, w4, w5]
theorem rw_row {acc : List D} {n : Nat} {L : LS} (p : PenR [.l acc] n L) (hn : n + 10 < 2 ^ 20) (u1 w3 : Option U) : ∃ ns L', rwC (rwSt u1 (some (.l 1)) w3 none none) L = .ok (.d (li ns)) L' ∧ ns.Sublist base5 ∧ PenR [.l acc] (n + 5) L' := by
  obtain ⟨ys, L', e, hs, p'⟩ := compF_some (tf := tfName 4) (tt := rwT) (fe := eVar 4) (st := wipeS (rwSt u1 (some (.l 1)) w3 none none) [4]) (fun j M => PenR [.l acc] j M) (base5.map D.int) [] n L p (fun j M pj hj d hd => by
    obtain ⟨r, M', e, h0, h1, p'⟩ := draw_call (fp := eVar 0) (fl := eC (.int 3)) (many := 3) (st := rwSt u1 (some (.l 1)) w3 (some (.d d)) none) pj (by simp [base5] at hj; omega) rfl rfl (by omega) (by omega)
    refine ⟨rwSt u1 (some (.l 1)) w3 (some (.d d)) none, decide (r = 0), M', rfl, ?_, rfl, p'⟩
    exact cmp_ok (g := eqB) e (b := eC (.int 0)) rfl (eq_int r 0)) (by simp [base5, big])
  obtain ⟨ns, rfl, h1⟩ := sub_ints hs
  refine ⟨ns, L', ?_, h1, p'⟩
  rw [rwC_eq]
  unfold eComp
  rw [VL.Q.it_l (rwE_ok _ _)]
  simp only [Rs.bind]
  rw [e]
  rfl
theorem eqv_nil (k : List PyData) : PyData.eqv (.list k) (.list []) = k.isEmpty := by
  cases k <;> simp [PyData.eqv, PyData.eqvAll]
theorem ne_li (ns : List Int) : ∃ k, neB (li ns) (.lst []) = some k := by
  have e := eq_li ns []
  exact ⟨_, by unfold neB; rw [show (D.lst [] : D) = li [] from rfl, e]; rfl⟩
theorem toPyL_lr : ∀ rs : List (List Int), toPyL (rs.map li) = some (rs.map fun ns => PyData.list (ns.map .int))
  | [] => rfl
  | r :: rs => by
    have h : toPy (li r) = some (.list (r.map .int)) := by simp [toPy, VL.Q.toPyL_ints]
    rw [List.map_cons, toPyL, h, toPyL_lr rs]; rfl
theorem dep_lrows : ∀ rs : List (List Int), PyData.depthAll (rs.map fun ns => PyData.list (ns.map .int)) ≤ 3
  | [] => by simp [PyData.depthAll]
  | r :: rs => by
    have h1 := dep_lrows rs
    have h2 := dep_ints r
    simp only [List.map_cons, PyData.depthAll, PyData.depth]
    omega
theorem ne_lr (rs : List (List Int)) : ∃ k, neB (lr rs) (.lst []) = some k := by
  have hd : (PyData.list (rs.map fun ns => PyData.list (ns.map .int))).depth ≤ 64 := by
    have := dep_lrows rs
    simp only [PyData.depth]
    omega
  refine ⟨!PyData.eqv (.list (rs.map fun ns => PyData.list (ns.map .int))) (.list []), ?_⟩
  unfold neB eqB
  simp only [toPy, toPyL_lr, toPyL, Option.map_some, Option.bind_some, hd, if_true]
theorem sub_lists {ys : List D} {rows : List (List Int)} (h : ys.Sublist (rows.map li)) : ∃ qs : List (List Int), ys = qs.map li := by
  obtain ⟨ns, _, rfl⟩ := List.sublist_map_iff.mp h
  exact ⟨ns, rfl⟩
/-- the end of _law_rows -/
theorem rw_end {rows : List (List Int)} (hl : rows.length ≤ 1000) (lo : LO) (u1 w3 : Option U) : eRest rwR (rwSt u1 (some (.l 1)) w3 none none) [lo, .l (rows.map li)] = .ok (.d (lr rows)) [lo, .z (lr rows)] ∨ eRest rwR (rwSt u1 (some (.l 1)) w3 none none) [lo, .l (rows.map li)] = .ok (.d (lr [[1]])) [lo, .z (lr rows)] := by
  have hu : rwR = eIf (bCmp neB (eComp (iIt itT (eVar 2)) [5] (tfName 5) (bCmp neB (eVar 5) (eLst aNil)) (eVar 5)) (eLst aNil)) (eVar 2) (eLst (aCons (eLst (aCons (eC (.int 1)) aNil)) aNil)) := rfl
  have it : iIt itT (eVar 2) (rwSt u1 (some (.l 1)) w3 none none) [lo, .l (rows.map li)] = .ok (rows.map li) [lo, .z (lr rows)] := VL.Q.it_ok (u := .l 1) rfl rfl rfl
  obtain ⟨ys, L', e, hs, rfl⟩ := compF_some (tf := tfName 5) (tt := bCmp neB (eVar 5) (eLst aNil)) (fe := eVar 5) (st := wipeS (rwSt u1 (some (.l 1)) w3 none none) [5]) (fun j M => M = [lo, .z (lr rows)]) (rows.map li) [] 0 [lo, .z (lr rows)] rfl (fun j M pj hj d hd => by
    subst pj
    obtain ⟨ns, _, rfl⟩ := List.mem_map.mp hd
    obtain ⟨k, hk⟩ := ne_li ns
    exact ⟨rwSt u1 (some (.l 1)) w3 none (some (.d (li ns))), k, _, rfl, cmp_ok (g := neB) (x := li ns) rfl VL.Q.nil_ok hk, rfl, rfl⟩) (by simp [big]; omega)
  obtain ⟨qs, rfl⟩ := sub_lists hs
  have ec : eComp (iIt itT (eVar 2)) [5] (tfName 5) (bCmp neB (eVar 5) (eLst aNil)) (eVar 5) (rwSt u1 (some (.l 1)) w3 none none) [lo, .l (rows.map li)] = .ok (.d (lr qs)) [lo, .z (lr rows)] := by
    unfold eComp
    rw [it]
    simp only [Rs.bind]
    rw [e]
    rfl
  obtain ⟨k, hk⟩ := ne_lr qs
  have t := cmp_ok (g := neB) ec VL.Q.nil_ok hk
  cases k with
  | true => exact .inl (VL.Q.rest_ok (u := .l 1) (L1 := [lo, .z (lr rows)]) (L2 := [lo, .z (lr rows)]) (by rw [hu]; exact VL.Q.eif_t t rfl) rfl rfl)
  | false => exact .inr (VL.Q.rest_ok (u := .d (lr [[1]])) (L1 := [lo, .z (lr rows)]) (L2 := [lo, .z (lr rows)]) (by rw [hu]; exact VL.Q.eif_f t (VL.Q.lst1 (VL.Q.lst1 rfl))) rfl rfl)
theorem dw_one : Dw [[1]] := ⟨by simp, by simp, fun r hr => by
  have : r = [1] := by simpa using hr
  subst this
  exact row_ok (by unfold base5; decide)⟩
theorem v_rows {n : Nat} {L : LS} (p : PenR [] n L) (hn : n + 50 < 2 ^ 20) : ∃ rows L', m_l_rows [.l 0, .d (.int 4)] L = .ok (.d (lr rows)) L' ∧ Dw rows ∧ PenR [] (n + 21) L' := by
  obtain ⟨lo, rfl⟩ := p.one
  have p1 : PenR [.l []] n [lo, .l []] := p.more _
  obtain ⟨r, L1, e1, h0, h1, p2⟩ := draw_call (fp := eVar 0) (fl := eVar 1) (many := 4) (st := rwSt (some (.d (.int 4))) (some (.l 1)) none none none) p1 (by omega) rfl rfl (by omega) (by omega)
  have it : rwI (rwSt (some (.d (.int 4))) (some (.l 1)) none none none) [lo, .l []] = .ok (rngD 0 (1 + r).toNat) L1 := by
    have hu : rwI = iRng1 (aCons (eBinU addU (eC (.int 1)) (eCall m_l_draw [.p 0, .p 1] 2 0 (cPos (aCons (eVar 0) (aCons (eVar 1) aNil))))) aNil) := rfl
    rw [hu]
    unfold iRng1
    rw [VL.Q.ac_ok (binU_ok (g := addU) rfl e1 addU_int) rfl]
    simp only [Rs.bind]
    rw [if_pos (inRng_ok (by omega) (by omega))]
  obtain ⟨st', L', e2, ⟨rows, w3, hl, hr, rfl, p3⟩⟩ := VL.Q.for_nx (tf := tfName 3) (body := rwB) (fun j st M => ∃ (rows : List (List Int)) (w3 : Option U), rows.length = j ∧ (∀ r ∈ rows, r.Sublist base5) ∧ st = rwSt (some (.d (.int 4))) (some (.l 1)) w3 none none ∧ PenR [.l (rows.map li)] (n + 1 + 5 * j) M) it ⟨[], none, rfl, by simp, rfl, p2⟩ (by
    rintro j d st M hd ⟨rows, w3, hl, hr, rfl, pj⟩
    have hj := (VL.Q.rng_get hd).1
    have hj4 : j < 4 := by omega
    obtain ⟨ns, M', e, hs, p'⟩ := rw_row (u1 := some (.d (.int 4))) (w3 := some (.d d)) pj (by omega)
    obtain ⟨lo1, rfl⟩ := pj.one
    obtain ⟨lo2, rfl⟩ := p'.one
    refine ⟨rwSt (some (.d (.int 4))) (some (.l 1)) (some (.d d)) none none, rwSt (some (.d (.int 4))) (some (.l 1)) (some (.d d)) none none, [lo2, .l ((rows ++ [ns]).map li)], rfl, ?_, rows ++ [ns], some (.d d), by simp [hl], ?_, rfl, ?_⟩
    · rw [rwB_eq]
      refine drop_ok (u := .d .non) ?_
      have hb : (rows.map li).length < big := by simp [big]; omega
      have e9 : eAppend (eVar 2) rwC (rwSt (some (.d (.int 4))) (some (.l 1)) (some (.d d)) none none) [lo1, .l (rows.map li)] = (rwC (rwSt (some (.d (.int 4))) (some (.l 1)) (some (.d d)) none none) [lo1, .l (rows.map li)]).bind fun vu L2 => apnd 1 vu L2 := rfl
      rw [e9, e]
      show apnd 1 (.d (li ns)) [lo2, .l (rows.map li)] = _
      simp only [apnd, fzU, opt]
      show (if (rows.map li).length < big then Rs.ok (U.d .non) ([lo2, LO.l (rows.map li)].set 1 (.l (rows.map li ++ [li ns]))) else .no) = _
      rw [if_pos hb, List.map_append]
      rfl
    · intro r hr2
      rcases List.mem_append.mp hr2 with h | h
      · exact hr r h
      · have : r = ns := by simpa using h
        subst this; exact hs
    · exact (p'.more [.l ((rows ++ [ns]).map li)]).mono (by omega))
  rw [VL.Q.rng_len] at hl p3
  obtain ⟨lo3, rfl⟩ := p3.one
  have p4 : PenR [] (n + 21) [lo3] := (p3.more []).mono (by omega)
  have dw : Dw rows := ⟨fun z => by rw [z] at hl; simp at hl; omega, by omega, fun r h => row_ok (hr r h)⟩
  have s1 : sSet 2 (eLstL aNil) (rwSt (some (.d (.int 4))) none none none none) [lo] = .nx (rwSt (some (.d (.int 4))) (some (.l 1)) none none none) [lo, .l []] := set_ok VL.Q.lstL0
  rw [l_rows_eq]
  rcases rw_end (rows := rows) (by omega) lo3 (some (.d (.int 4))) w3 with e5 | e5
  · exact ⟨rows, [lo3], fn_rtR rfl (seq_nx s1 (seq_nx e2 (ret_ok e5))) rfl, dw, p4⟩
  · exact ⟨[[1]], [lo3], fn_rtR rfl (seq_nx s1 (seq_nx e2 (ret_ok e5))) rfl, dw_one, p4⟩
end VL.P

set_option Elab.async false
set_option linter.all false
set_option maxRecDepth 100000
set_option maxHeartbeats 4000000
namespace VL.P
open PySem PySem.Spec PyProof.Rows L2 VL VL.Sy
open PySem.W (Frag)
open VL.Q (pos1 pos2 pos3 pos4 bin_ok un_ok fn1 fn2)
theorem shift12 {rows : List (List Int)} (w : Dw rows) (d n : Int) : TR rows (d + 12) n ↔ TR rows d n := by
  have h0 : 0 < rows.length := List.length_pos_iff.mpr w.ne
  have h4 := w.len
  have e : (d + 12) % (rows.length : Int) = d % (rows.length : Int) := by
    have : rows.length = 1 ∨ rows.length = 2 ∨ rows.length = 3 ∨ rows.length = 4 := by omega
    rcases this with h | h | h | h <;> rw [h] <;> omega
  unfold TR rowAt
  rw [e]
def lnB : SF := (sSeq (sIf (bNot (bTru (eCall m_l_one_right [.p 0, .p 1, .p 2, .p 3] 4 0 (cPos (aCons (eVar 3) (aCons (eVar 5) (aCons (eVar 7) (aCons (eVar 8) aNil)))))))) (sRet (eC (.bl false))) sNil) (sSeq (sSet 9 (eRest (eMake 278 m_Stay_init [.p 0, .p 1, .p 2] 2 0 (cPos (aCons (eVar 7) (aCons (eBinU addU (eVar 7) (eVar 8)) aNil)))))) (sIf (bOr (bAnd (bTru (eMeth 441 "fills" (fun us ws L => opt (arrU us ws [.p 0, .p 1]) fun xs => m_Book_fills xs L) 1 0 (eVar 5) (cPos (aCons (eVar 9) aNil)))) (bNot (bTru (eMeth 441 "fills" (fun us ws L => opt (arrU us ws [.p 0, .p 1]) fun xs => m_Book_fills xs L) 1 0 (eVar 6) (cPos (aCons (eVar 9) aNil)))))) (bCmp neB (eMeth 441 "fills" (fun us ws L => opt (arrU us ws [.p 0, .p 1]) fun xs => m_Book_fills xs L) 1 0 (eVar 5) (cPos (aCons (eVar 9) aNil))) (eMeth 441 "fills" (fun us ws L => opt (arrU us ws [.p 0, .p 1]) fun xs => m_Book_fills xs L) 1 0 (eVar 5) (cPos (aCons (eBinU (ownOpI 278 (fun us L => opt (arrU us [] [.p 0, .p 1]) fun xs => m_Stay_rshift xs L)) (eVar 9) (eC (.int 12))) aNil))))) (sRet (eC (.bl false))) sNil)))
def lnIf1 : SF := (sIf (bNot (bTru (eCall m_l_one_right [.p 0, .p 1, .p 2, .p 3] 4 0 (cPos (aCons (eVar 3) (aCons (eVar 5) (aCons (eVar 7) (aCons (eVar 8) aNil)))))))) (sRet (eC (.bl false))) sNil)
def lnIf2 : SF := (sIf (bOr (bAnd (bTru (eMeth 441 "fills" (fun us ws L => opt (arrU us ws [.p 0, .p 1]) fun xs => m_Book_fills xs L) 1 0 (eVar 5) (cPos (aCons (eVar 9) aNil)))) (bNot (bTru (eMeth 441 "fills" (fun us ws L => opt (arrU us ws [.p 0, .p 1]) fun xs => m_Book_fills xs L) 1 0 (eVar 6) (cPos (aCons (eVar 9) aNil)))))) (bCmp neB (eMeth 441 "fills" (fun us ws L => opt (arrU us ws [.p 0, .p 1]) fun xs => m_Book_fills xs L) 1 0 (eVar 5) (cPos (aCons (eVar 9) aNil))) (eMeth 441 "fills" (fun us ws L => opt (arrU us ws [.p 0, .p 1]) fun xs => m_Book_fills xs L) 1 0 (eVar 5) (cPos (aCons (eBinU (ownOpI 278 (fun us L => opt (arrU us [] [.p 0, .p 1]) fun xs => m_Stay_rshift xs L)) (eVar 9) (eC (.int 12))) aNil))))) (sRet (eC (.bl false))) sNil)
theorem lnB_eq : lnB = sSeq lnIf1 (sSeq (sSet 9 (eRest (eMake 278 m_Stay_init [.p 0, .p 1, .p 2] 2 0 (cPos (aCons (eVar 7) (aCons (eBinU addU (eVar 7) (eVar 8)) aNil)))))) lnIf2) := rfl
def lS (u0 : Option U) (u2 : Option U) (rows others rs ws : List (List Int)) (w7 w8 w9 : Option U) : SS := [u0, some (.l 0), u2, some (.d (lr rows)), some (.d (lr others)), some (.d (book rs)), some (.d (book ws)), w7, w8, w9]
section
variable {rows others rs qs ws : List (List Int)} (w : Dw rows) (q : Made rows rs) (hw : ws ≠ []) (hs : ∀ d, rowAt ws d = asc (both (rowAt rs d) (rowAt qs d)))
include w q hw hs in
open Classical in
theorem ln_ok (b : Int) (n : Nat) (h1 : 1 ≤ n) (hn : n ≤ 1000) (u0 u2 w9 : Option U) (L : LS) : ∃ w9', lnB (lS u0 u2 rows others rs ws (some (.d (.int b))) (some (.d (.int (n : Int)))) w9) L = .nx (lS u0 u2 rows others rs ws (some (.d (.int b))) (some (.d (.int (n : Int)))) w9') L := by
  refine ⟨some (.d (stay b (b + (n : Int)))), ?_⟩
  have e1 := v_one_right w q b n h1 hn L
  have s1 : lnIf1 (lS u0 u2 rows others rs ws (some (.d (.int b))) (some (.d (.int (n : Int)))) w9) L = .nx (lS u0 u2 rows others rs ws (some (.d (.int b))) (some (.d (.int (n : Int)))) w9) L := if_f (VL.Q.not_t (tru_bl (call_ok (m := m_l_one_right) (pos4 rfl rfl rfl rfl) rfl rfl rfl e1))) rfl
  have s2 : sSet 9 (eRest (eMake 278 m_Stay_init [.p 0, .p 1, .p 2] 2 0 (cPos (aCons (eVar 7) (aCons (eBinU addU (eVar 7) (eVar 8)) aNil))))) (lS u0 u2 rows others rs ws (some (.d (.int b))) (some (.d (.int (n : Int)))) w9) L = .nx (lS u0 u2 rows others rs ws (some (.d (.int b))) (some (.d (.int (n : Int)))) (some (.d (stay b (b + (n : Int)))))) L :=
    set_ok (v_mkStay' (by omega) (pos2 rfl (binU_ok rfl rfl addU_int)))
  have f1 := v_fills q.ne (w.ro q) b (b + (n : Int)) (by omega) (by omega) L
  have f2 := v_fills hw (wide_ro hs) b (b + (n : Int)) (by omega) (by omega) L
  have f3 := v_fills q.ne (w.ro q) (b + 12) (b + (n : Int) + 12) (by omega) (by omega) L
  have m1 := VL.Q.meth_ok (C := 441) (nm := "fills") (m := fun us ws L => opt (arrU us ws [.p 0, .p 1]) fun xs => m_Book_fills xs L) (n := 1) (l := 0) (fo := eVar 5) (fc := cPos (aCons (eVar 9) aNil)) (st := lS u0 u2 rows others rs ws (some (.d (.int b))) (some (.d (.int (n : Int)))) (some (.d (stay b (b + (n : Int)))))) (L := L) (ns := ["rows"]) (xs := [tr rs]) rfl (by decide) (pos1 rfl) rfl rfl f1
  have m2 := VL.Q.meth_ok (C := 441) (nm := "fills") (m := fun us ws L => opt (arrU us ws [.p 0, .p 1]) fun xs => m_Book_fills xs L) (n := 1) (l := 0) (fo := eVar 6) (fc := cPos (aCons (eVar 9) aNil)) (st := lS u0 u2 rows others rs ws (some (.d (.int b))) (some (.d (.int (n : Int)))) (some (.d (stay b (b + (n : Int)))))) (L := L) (ns := ["rows"]) (xs := [tr ws]) rfl (by decide) (pos1 rfl) rfl rfl f2
  have sh : eBinU (ownOpI 278 (fun us L => opt (arrU us [] [.p 0, .p 1]) fun xs => m_Stay_rshift xs L)) (eVar 9) (eC (.int 12)) (lS u0 u2 rows others rs ws (some (.d (.int b))) (some (.d (.int (n : Int)))) (some (.d (stay b (b + (n : Int)))))) L = .ok (.d (stay (b + 12) (b + (n : Int) + 12))) L :=
    binU_ok (x := .d (stay b (b + (n : Int)))) (y := .d (.int 12)) (L1 := L) (L2 := L) rfl rfl (by
      have e : ownOpI 278 (fun us L => opt (arrU us [] [.p 0, .p 1]) fun xs => m_Stay_rshift xs L) (.d (stay b (b + (n : Int)))) (.d (.int 12)) L = m_Stay_rshift [.d (stay b (b + (n : Int))), .d (.int 12)] L := rfl
      rw [e]; exact v_rshift (by omega) 12 L)
  have m3 := VL.Q.meth_ok (C := 441) (nm := "fills") (m := fun us ws L => opt (arrU us ws [.p 0, .p 1]) fun xs => m_Book_fills xs L) (n := 1) (l := 0) (fo := eVar 5) (st := lS u0 u2 rows others rs ws (some (.d (.int b))) (some (.d (.int (n : Int)))) (some (.d (stay b (b + (n : Int)))))) (L := L) (ns := ["rows"]) (xs := [tr rs]) rfl (by decide) (pos1 sh) rfl rfl f3
  have eq3 : decide (Rch (TR rows) (b + 12) (b + (n : Int) + 12)) = decide (Rch (TR rows) b (b + (n : Int))) := decide_eq_decide.mpr (Rch.shift_iff (shift12 w))
  rw [eq3] at m3
  have t3 := cmp_ok (g := neB) m1 m3 (ne_bl _)
  have s3 : lnIf2 (lS u0 u2 rows others rs ws (some (.d (.int b))) (some (.d (.int (n : Int)))) (some (.d (stay b (b + (n : Int)))))) L = .nx (lS u0 u2 rows others rs ws (some (.d (.int b))) (some (.d (.int (n : Int)))) (some (.d (stay b (b + (n : Int)))))) L := by
    refine if_f (VL.Q.or_f ?_ t3) rfl
    by_cases h : Rch (TR rows) b (b + (n : Int))
    · have h' : Rch (TR ws) b (b + (n : Int)) := h.mono (wide_more w q hs)
      rw [decide_eq_true h] at m1
      rw [decide_eq_true h'] at m2
      exact and_tt (tru_bl m1) (VL.Q.not_t (tru_bl m2))
    · rw [decide_eq_false h] at m1
      exact and_f (tru_bl m1)
  rw [lnB_eq]
  exact seq_nx s1 (seq_nx s2 s3)
def bgB : SF := (sFor (iRngW (aCons (eC (.int 1)) (aCons (eC (.int 13)) aNil))) (tfName 8) (sSeq (sIf (bNot (bTru (eCall m_l_one_right [.p 0, .p 1, .p 2, .p 3] 4 0 (cPos (aCons (eVar 3) (aCons (eVar 5) (aCons (eVar 7) (aCons (eVar 8) aNil)))))))) (sRet (eC (.bl false))) sNil) (sSeq (sSet 9 (eRest (eMake 278 m_Stay_init [.p 0, .p 1, .p 2] 2 0 (cPos (aCons (eVar 7) (aCons (eBinU addU (eVar 7) (eVar 8)) aNil)))))) (sIf (bOr (bAnd (bTru (eMeth 441 "fills" (fun us ws L => opt (arrU us ws [.p 0, .p 1]) fun xs => m_Book_fills xs L) 1 0 (eVar 5) (cPos (aCons (eVar 9) aNil)))) (bNot (bTru (eMeth 441 "fills" (fun us ws L => opt (arrU us ws [.p 0, .p 1]) fun xs => m_Book_fills xs L) 1 0 (eVar 6) (cPos (aCons (eVar 9) aNil)))))) (bCmp neB (eMeth 441 "fills" (fun us ws L => opt (arrU us ws [.p 0, .p 1]) fun xs => m_Book_fills xs L) 1 0 (eVar 5) (cPos (aCons (eVar 9) aNil))) (eMeth 441 "fills" (fun us ws L => opt (arrU us ws [.p 0, .p 1]) fun xs => m_Book_fills xs L) 1 0 (eVar 5) (cPos (aCons (eBinU (ownOpI 278 (fun us L => opt (arrU us [] [.p 0, .p 1]) fun xs => m_Stay_rshift xs L)) (eVar 9) (eC (.int 12))) aNil))))) (sRet (eC (.bl false))) sNil))))
theorem bgB_eq : bgB = sFor (iRngW (aCons (eC (.int 1)) (aCons (eC (.int 13)) aNil))) (tfName 8) lnB := rfl
include w q hw hs in
theorem bg_ok (b : Int) (u0 u2 w8 w9 : Option U) (L : LS) : ∃ w8' w9', bgB (lS u0 u2 rows others rs ws (some (.d (.int b))) w8 w9) L = .nx (lS u0 u2 rows others rs ws (some (.d (.int b))) w8' w9') L := by
  rw [bgB_eq]
  have it : iRngW (aCons (eC (.int 1)) (aCons (eC (.int 13)) aNil)) (lS u0 u2 rows others rs ws (some (.d (.int b))) w8 w9) L = .ok (rngD 1 12) L := VL.Q.rngW_ok rfl rfl
  obtain ⟨st', L', e, rfl, w8', w9', rfl⟩ := VL.Q.for_nx (tf := tfName 8) (body := lnB) (fun j st M => M = L ∧ ∃ w8 w9, st = lS u0 u2 rows others rs ws (some (.d (.int b))) w8 w9) it ⟨rfl, w8, w9, rfl⟩ (by
    rintro j d st M hd ⟨rfl, w8, w9, rfl⟩
    obtain ⟨hj, rfl⟩ := VL.Q.rng_get hd
    obtain ⟨w9', e⟩ := ln_ok w q hw hs (others := others) b (j + 1) (by omega) (by omega) u0 u2 w9 M
    exact ⟨lS u0 u2 rows others rs ws (some (.d (.int b))) (some (.d (.int ((j + 1 : Nat) : Int)))) w9, _, _, by rw [show (1 : Int) + (j : Int) = ((j + 1 : Nat) : Int) by omega]; rfl, e, rfl, _, _, rfl⟩)
  exact ⟨w8', w9', e⟩
end
def bgF : SF := (sFor (iIt itT (eLst (aCons (eC (.int 0)) (aCons (eBin subD (eCall m_l_draw [.p 0, .p 1] 2 0 (cPos (aCons (eVar 1) (aCons (eC (.int 19)) aNil)))) (eC (.int 9))) (aCons (eBinU addU (eBin powD (eC (.int 10)) (eC (.int 20))) (eCall m_l_draw [.p 0, .p 1] 2 0 (cPos (aCons (eVar 1) (aCons (eC (.int 9)) aNil))))) aNil))))) (tfName 7) (sFor (iRngW (aCons (eC (.int 1)) (aCons (eC (.int 13)) aNil))) (tfName 8) (sSeq (sIf (bNot (bTru (eCall m_l_one_right [.p 0, .p 1, .p 2, .p 3] 4 0 (cPos (aCons (eVar 3) (aCons (eVar 5) (aCons (eVar 7) (aCons (eVar 8) aNil)))))))) (sRet (eC (.bl false))) sNil) (sSeq (sSet 9 (eRest (eMake 278 m_Stay_init [.p 0, .p 1, .p 2] 2 0 (cPos (aCons (eVar 7) (aCons (eBinU addU (eVar 7) (eVar 8)) aNil)))))) (sIf (bOr (bAnd (bTru (eMeth 441 "fills" (fun us ws L => opt (arrU us ws [.p 0, .p 1]) fun xs => m_Book_fills xs L) 1 0 (eVar 5) (cPos (aCons (eVar 9) aNil)))) (bNot (bTru (eMeth 441 "fills" (fun us ws L => opt (arrU us ws [.p 0, .p 1]) fun xs => m_Book_fills xs L) 1 0 (eVar 6) (cPos (aCons (eVar 9) aNil)))))) (bCmp neB (eMeth 441 "fills" (fun us ws L => opt (arrU us ws [.p 0, .p 1]) fun xs => m_Book_fills xs L) 1 0 (eVar 5) (cPos (aCons (eVar 9) aNil))) (eMeth 441 "fills" (fun us ws L => opt (arrU us ws [.p 0, .p 1]) fun xs => m_Book_fills xs L) 1 0 (eVar 5) (cPos (aCons (eBinU (ownOpI 278 (fun us L => opt (arrU us [] [.p 0, .p 1]) fun xs => m_Stay_rshift xs L)) (eVar 9) (eC (.int 12))) aNil))))) (sRet (eC (.bl false))) sNil)))))
def bgE : EF := (eLst (aCons (eC (.int 0)) (aCons (eBin subD (eCall m_l_draw [.p 0, .p 1] 2 0 (cPos (aCons (eVar 1) (aCons (eC (.int 19)) aNil)))) (eC (.int 9))) (aCons (eBinU addU (eBin powD (eC (.int 10)) (eC (.int 20))) (eCall m_l_draw [.p 0, .p 1] 2 0 (cPos (aCons (eVar 1) (aCons (eC (.int 9)) aNil))))) aNil))))
theorem bgF_eq : bgF = sFor (iIt itT bgE) (tfName 7) bgB := rfl
def lastIf : SF := (sIf (bNot (bTru (eCall m_l_one_right [.p 0, .p 1, .p 2, .p 3] 4 0 (cPos (aCons (eVar 3) (aCons (eVar 5) (aCons (eBin subD (eCall m_l_draw [.p 0, .p 1] 2 0 (cPos (aCons (eVar 1) (aCons (eC (.int 9)) aNil)))) (eC (.int 4))) (aCons (eBinU addU (eC (.int 60)) (eCall m_l_draw [.p 0, .p 1] 2 0 (cPos (aCons (eVar 1) (aCons (eC (.int 60)) aNil))))) aNil)))))))) (sRet (eC (.bl false))) sNil)
def turnB : SF := (sSeq (sPar 3 4 (aCons (eCall m_l_rows [.p 0, .p 1] 2 0 (cPos (aCons (eVar 1) (aCons (eC (.int 4)) aNil)))) (aCons (eCall m_l_rows [.p 0, .p 1] 2 0 (cPos (aCons (eVar 1) (aCons (eC (.int 4)) aNil)))) aNil))) (sSeq (sPar 5 6 (aCons (eCall m_l_book [.p 0] 1 0 (cPos (aCons (eVar 3) aNil))) (aCons (eBinU (ownOp 441 (fun us L => opt (arrU us [] [.p 0, .p 1]) fun xs => m_Book_or xs L)) (eCall m_l_book [.p 0] 1 0 (cPos (aCons (eVar 3) aNil))) (eCall m_l_book [.p 0] 1 0 (cPos (aCons (eVar 4) aNil)))) aNil))) (sSeq (sFor (iIt itT (eLst (aCons (eC (.int 0)) (aCons (eBin subD (eCall m_l_draw [.p 0, .p 1] 2 0 (cPos (aCons (eVar 1) (aCons (eC (.int 19)) aNil)))) (eC (.int 9))) (aCons (eBinU addU (eBin powD (eC (.int 10)) (eC (.int 20))) (eCall m_l_draw [.p 0, .p 1] 2 0 (cPos (aCons (eVar 1) (aCons (eC (.int 9)) aNil))))) aNil))))) (tfName 7) (sFor (iRngW (aCons (eC (.int 1)) (aCons (eC (.int 13)) aNil))) (tfName 8) (sSeq (sIf (bNot (bTru (eCall m_l_one_right [.p 0, .p 1, .p 2, .p 3] 4 0 (cPos (aCons (eVar 3) (aCons (eVar 5) (aCons (eVar 7) (aCons (eVar 8) aNil)))))))) (sRet (eC (.bl false))) sNil) (sSeq (sSet 9 (eRest (eMake 278 m_Stay_init [.p 0, .p 1, .p 2] 2 0 (cPos (aCons (eVar 7) (aCons (eBinU addU (eVar 7) (eVar 8)) aNil)))))) (sIf (bOr (bAnd (bTru (eMeth 441 "fills" (fun us ws L => opt (arrU us ws [.p 0, .p 1]) fun xs => m_Book_fills xs L) 1 0 (eVar 5) (cPos (aCons (eVar 9) aNil)))) (bNot (bTru (eMeth 441 "fills" (fun us ws L => opt (arrU us ws [.p 0, .p 1]) fun xs => m_Book_fills xs L) 1 0 (eVar 6) (cPos (aCons (eVar 9) aNil)))))) (bCmp neB (eMeth 441 "fills" (fun us ws L => opt (arrU us ws [.p 0, .p 1]) fun xs => m_Book_fills xs L) 1 0 (eVar 5) (cPos (aCons (eVar 9) aNil))) (eMeth 441 "fills" (fun us ws L => opt (arrU us ws [.p 0, .p 1]) fun xs => m_Book_fills xs L) 1 0 (eVar 5) (cPos (aCons (eBinU (ownOpI 278 (fun us L => opt (arrU us [] [.p 0, .p 1]) fun xs => m_Stay_rshift xs L)) (eVar 9) (eC (.int 12))) aNil))))) (sRet (eC (.bl false))) sNil))))) (sIf (bNot (bTru (eCall m_l_one_right [.p 0, .p 1, .p 2, .p 3] 4 0 (cPos (aCons (eVar 3) (aCons (eVar 5) (aCons (eBin subD (eCall m_l_draw [.p 0, .p 1] 2 0 (cPos (aCons (eVar 1) (aCons (eC (.int 9)) aNil)))) (eC (.int 4))) (aCons (eBinU addU (eC (.int 60)) (eCall m_l_draw [.p 0, .p 1] 2 0 (cPos (aCons (eVar 1) (aCons (eC (.int 60)) aNil))))) aNil)))))))) (sRet (eC (.bl false))) sNil))))
def par1 : SF := (sPar 3 4 (aCons (eCall m_l_rows [.p 0, .p 1] 2 0 (cPos (aCons (eVar 1) (aCons (eC (.int 4)) aNil)))) (aCons (eCall m_l_rows [.p 0, .p 1] 2 0 (cPos (aCons (eVar 1) (aCons (eC (.int 4)) aNil)))) aNil)))
def par2' : SF := (sPar 5 6 (aCons (eCall m_l_book [.p 0] 1 0 (cPos (aCons (eVar 3) aNil))) (aCons (eBinU (ownOp 441 (fun us L => opt (arrU us [] [.p 0, .p 1]) fun xs => m_Book_or xs L)) (eCall m_l_book [.p 0] 1 0 (cPos (aCons (eVar 3) aNil))) (eCall m_l_book [.p 0] 1 0 (cPos (aCons (eVar 4) aNil)))) aNil)))
theorem turnB_eq : turnB = sSeq par1 (sSeq par2' (sSeq bgF lastIf)) := rfl
theorem par1_eq : par1 = sPar 3 4 (aCons (eCall m_l_rows [.p 0, .p 1] 2 0 (cPos (aCons (eVar 1) (aCons (eC (.int 4)) aNil)))) (aCons (eCall m_l_rows [.p 0, .p 1] 2 0 (cPos (aCons (eVar 1) (aCons (eC (.int 4)) aNil)))) aNil)) := rfl
theorem pow20 (st : SS) (L : LS) : eBin powD (eC (.int 10)) (eC (.int 20)) st L = .ok (.d (.int (10 ^ 20))) L := by kernel_rfl
theorem turn_ok {n : Nat} {L : LS} (p : PenR [] n L) (hn : n + 500 < 2 ^ 20) (u0 u2 : Option U) : ∃ st' L', turnB [u0, some (.l 0), u2, none, none, none, none, none, none, none] L = .nx st' L' ∧ (∃ w3 w4 w5 w6 w7 w8 w9, st' = [u0, some (.l 0), u2, w3, w4, w5, w6, w7, w8, w9]) ∧ PenR [] (n + 60) L' := by
  obtain ⟨rows, L1, e1, dw1, p1⟩ := v_rows p (by omega)
  obtain ⟨others, L2, e2, dw2, p2⟩ := v_rows p1 (by omega)
  obtain ⟨rs, b1, q1⟩ := v_book dw1 L2
  obtain ⟨qs, b2, q2⟩ := v_book dw2 L2
  obtain ⟨ws, o1, hw, hs⟩ := v_or (q1.lens dw1) (q2.lens dw2) L2
  have s1 : par1 [u0, some (.l 0), u2, none, none, none, none, none, none, none] L = .nx [u0, some (.l 0), u2, some (.d (lr rows)), some (.d (lr others)), none, none, none, none, none] L2 := by
    rw [par1_eq]
    exact VL.Q.par2 (call_ok (m := m_l_rows) (pos2 rfl rfl) rfl rfl rfl e1) (call_ok (m := m_l_rows) (pos2 rfl rfl) rfl rfl rfl e2)
  have c1 := call_ok (m := m_l_book) (src := [.p 0]) (n := 1) (l := 0) (fa := cPos (aCons (eVar 3) aNil)) (st := [u0, some (.l 0), u2, some (.d (lr rows)), some (.d (lr others)), none, none, none, none, none]) (L := L2) (pos1 rfl) rfl rfl rfl b1
  have c2 := call_ok (m := m_l_book) (src := [.p 0]) (n := 1) (l := 0) (fa := cPos (aCons (eVar 4) aNil)) (st := [u0, some (.l 0), u2, some (.d (lr rows)), some (.d (lr others)), none, none, none, none, none]) (L := L2) (pos1 rfl) rfl rfl rfl b2
  have oo : ownOp 441 (fun us L => opt (arrU us [] [.p 0, .p 1]) fun xs => m_Book_or xs L) (.d (book rs)) (.d (book qs)) L2 = .ok (.d (book ws)) L2 := by
    have e : ownOp 441 (fun us L => opt (arrU us [] [.p 0, .p 1]) fun xs => m_Book_or xs L) (.d (book rs)) (.d (book qs)) L2 = m_Book_or [.d (book rs), .d (book qs)] L2 := rfl
    rw [e]; exact o1
  have s2 : par2' [u0, some (.l 0), u2, some (.d (lr rows)), some (.d (lr others)), none, none, none, none, none] L2 = .nx (lS u0 u2 rows others rs ws none none none) L2 := VL.Q.par2 (i := 5) (j := 6) c1 (binU_ok c1 c2 oo)
  obtain ⟨r1, L3, e3, r10, r11, p3⟩ := draw_call (fp := eVar 1) (fl := eC (.int 19)) (many := 19) (st := lS u0 u2 rows others rs ws none none none) p2 (by omega) rfl rfl (by omega) (by omega)
  obtain ⟨r2, L4, e4, r20, r21, p4⟩ := draw_call (fp := eVar 1) (fl := eC (.int 9)) (many := 9) (st := lS u0 u2 rows others rs ws none none none) p3 (by omega) rfl rfl (by omega) (by omega)
  have ebg : bgE (lS u0 u2 rows others rs ws none none none) L2 = .ok (.d (.lst [.int 0, .int (r1 - 9), .int (10 ^ 20 + r2)])) L4 :=
    VL.Q.lst_ok (ds := [.int 0, .int (r1 - 9), .int (10 ^ 20 + r2)]) (VL.Q.ac_ok rfl (VL.Q.ac_ok (bin_ok (g := subD) e3 (fb := eC (.int 9)) rfl rfl) (VL.Q.ac_ok (binU_ok (g := addU) (pow20 _ _) e4 addU_int) rfl))) (by simp)
  obtain ⟨st5, L5, e5, rfl, w7, w8, w9, rfl⟩ := VL.Q.for_nx (tf := tfName 7) (body := bgB) (fun j st M => M = L4 ∧ ∃ w7 w8 w9, st = lS u0 u2 rows others rs ws w7 w8 w9) (VL.Q.it_l ebg) ⟨rfl, none, none, none, rfl⟩ (by
    rintro j d st M hd ⟨rfl, w7, w8, w9, rfl⟩
    obtain ⟨b, rfl⟩ : ∃ b : Int, d = .int b := by
      have := List.mem_of_getElem? hd
      simp only [List.mem_cons, List.not_mem_nil, or_false] at this
      rcases this with h | h | h <;> exact ⟨_, h⟩
    obtain ⟨w8', w9', e⟩ := bg_ok dw1 q1 hw hs (others := others) b u0 u2 w8 w9 M
    exact ⟨lS u0 u2 rows others rs ws (some (.d (.int b))) w8 w9, _, _, rfl, e, rfl, _, _, _, rfl⟩)
  obtain ⟨r3, L6, e6, r30', r31, p6⟩ := draw_call (fp := eVar 1) (fl := eC (.int 9)) (many := 9) (st := lS u0 u2 rows others rs ws w7 w8 w9) p4 (by omega) rfl rfl (by omega) (by omega)
  obtain ⟨r4, L7, e7, r40, r41, p7⟩ := draw_call (fp := eVar 1) (fl := eC (.int 60)) (many := 60) (st := lS u0 u2 rows others rs ws w7 w8 w9) p6 (by omega) rfl rfl (by omega) (by omega)
  have e8 := v_one_right dw1 q1 (r3 - 4) (60 + r4).toNat (by omega) (by omega) L7
  rw [show (((60 + r4).toNat : Nat) : Int) = 60 + r4 by omega] at e8
  have s8 : lastIf (lS u0 u2 rows others rs ws w7 w8 w9) L5 = .nx (lS u0 u2 rows others rs ws w7 w8 w9) L7 :=
    if_f (VL.Q.not_t (tru_bl (call_ok (m := m_l_one_right) (pos4 rfl rfl (bin_ok (g := subD) e6 (fb := eC (.int 4)) rfl rfl) (binU_ok (g := addU) rfl e7 addU_int)) rfl rfl rfl e8))) rfl
  refine ⟨lS u0 u2 rows others rs ws w7 w8 w9, L7, ?_, ⟨some (.d (lr rows)), some (.d (lr others)), some (.d (book rs)), some (.d (book ws)), w7, w8, w9, rfl⟩, p7.mono (by omega)⟩
  rw [turnB_eq]
  exact seq_nx s1 (seq_nx s2 (seq_nx (by rw [bgF_eq]; exact e5) s8))
theorem v_pen (ns : List Int) : m_l_pen [.d (.scr ns)] [] = .ok (.l 0) (penL (cutG ns none (some 63)) 0 0) := by
  simp [m_l_pen, Rs.bind, opt, LO.rd, rdU, fzU, eVar, eC, op2, op1, eBin, eUn, eCmp, bop2, bCmp, eChain, bChain, trU, bTru, eAnd, eOr, eNot, bAnd, bOr, bNot, eIf, rdUs, fzUs, aNil, aCons, eLst, eTup, eLstL, opn, eFn, oNone, oSome, eSl, eJoin, Rt.andThen, ofR, optS, sNil, sSeq, sDrop, sRet, sIf, sSet, sPar, tfName, tfNil, tfCons, tfTup, sAsg, sSub, outR, fnF, cPos, cBoth, Sr.get, arrU, eCall, iSeq, iRng1, iRng2, sFor, eComp, tYesF, eMake, mkF, eRest, sFld, eFnU, sBrk, sCnt, sRetN, eDic0, eDic, dPairs, keyU, bD, big, eBinU, bBinU, bTest, eMeth, own1, own2, ownLen, lenU, truU, notU, sRaise, eAppend, apnd, newL, catL, sTry, Rt.clr, eSlA, sliceA, sliceD, addU, taddU, mulA, tmulA, tupU, iIt, walkD, itemsOf, iZipG, iEnumG, aStar, aStarZ, sAug, eRev, iRng3, sPar3, ownOp, ownNe, ownCmp, ownIn, wipeS, List.take_length, listL, eMakeS, mkS, eProp, iRngW, ownOpI, cStar, sliceD, listD, penL]
def tailE : EF := (eAnd (eCmp isNonB (eMeth 441 "row_for" (fun us ws L => opt (arrU us ws [.p 0, .p 1]) fun xs => m_Book_row_for xs L) 1 0 (eCall m_Book_none [] 0 0 (cPos aNil)) (cPos (aCons (eRest (eMake 278 m_Stay_init [.p 0, .p 1, .p 2] 2 0 (cPos (aCons (eC (.int 0)) (aCons (eC (.int 1)) aNil))))) aNil))) (eC .non)) (eBinU (eqTupU 278 (fun us L => opt (arrU us [] [.p 0, .p 1]) fun xs => m_Stay_eq xs L) false) (eMeth 441 "row_for" (fun us ws L => opt (arrU us ws [.p 0, .p 1]) fun xs => m_Book_row_for xs L) 1 0 (eRest (eMakeS 441 m_Book_init (cPos (aCons (eLst (aCons (eC (.int 30)) aNil)) aNil)))) (cPos (aCons (eRest (eMake 278 m_Stay_init [.p 0, .p 1, .p 2] 2 0 (cPos (aCons (eC (.int 5)) (aCons (eC (.int 65)) aNil))))) aNil))) (eTup (aCons (eRest (eMake 278 m_Stay_init [.p 0, .p 1, .p 2] 2 0 (cPos (aCons (eC (.int 5)) (aCons (eC (.int 35)) aNil))))) (aCons (eRest (eMake 278 m_Stay_init [.p 0, .p 1, .p 2] 2 0 (cPos (aCons (eC (.int 35)) (aCons (eC (.int 65)) aNil))))) aNil)))))
theorem tail_ev (st : SS) (lo : LO) : tailE st [lo] = .ok (.d (.bl true)) [lo] := by kernel_rfl
theorem law_eq : m_law = fnF 1 10 (sSeq (sSet 1 (eCall m_l_pen [.p 0] 1 0 (cPos (aCons (eVar 0) aNil)))) (sSeq (sFor (iRng1 (aCons (eC (.int 1)) aNil)) (tfName 2) turnB) (sRet tailE))) := rfl
theorem law_true (ns : List Int) (h : ns.length ≤ 63) : ∃ L', m_law [.d (.scr ns)] [] = .ok (.d (.bl true)) L' := by
  have p0 : PenR [] 0 (penL (cutG ns none (some 63)) 0 0) := ⟨cutG ns none (some 63), 0, 0, by simp, by omega, by omega, by omega⟩
  obtain ⟨st', L', e, ⟨w3, w4, w5, w6, w7, w8, w9, rfl⟩, p'⟩ := turn_ok p0 (by omega) (some (.d (.scr ns))) (some (.d (.int 0)))
  obtain ⟨lo, rfl⟩ := p'.one
  refine ⟨[], ?_⟩
  rw [law_eq]
  have it : iRng1 (aCons (eC (.int 1)) aNil) [some (.d (.scr ns)), some (.l 0), none, none, none, none, none, none, none, none] (penL (cutG ns none (some 63)) 0 0) = .ok [.int 0] (penL (cutG ns none (some 63)) 0 0) := rng1_ok (j := 1) (n := 1) rfl (inRng_ok (by decide) (by decide)) rfl
  have fr : sFor (iRng1 (aCons (eC (.int 1)) aNil)) (tfName 2) turnB [some (.d (.scr ns)), some (.l 0), none, none, none, none, none, none, none, none] (penL (cutG ns none (some 63)) 0 0) = .nx [some (.d (.scr ns)), some (.l 0), some (.d (.int 0)), w3, w4, w5, w6, w7, w8, w9] [lo] := by
    refine VL.Q.for_run it ?_
    show (optS (some [some (U.d (.scr ns)), some (.l 0), some (.d (.int 0)), none, none, none, none, none, none, none]) fun st1 => match turnB st1 (penL (cutG ns none (some 63)) 0 0) with
      | .nx st2 L2 => forF (tfName 2) turnB [] st2 L2
      | .ct st2 L2 => forF (tfName 2) turnB [] st2 L2
      | .bk st2 L2 => .nx st2 L2
      | r => r) = _
    simp only [optS]
    rw [e]
    rfl
  exact fn_rtR rfl (seq_nx (set_ok (call_ok rfl rfl rfl rfl (v_pen ns))) (seq_nx fr (ret_ok (tail_ev _ lo)))) rfl
end VL.P

set_option Elab.async false
set_option linter.all false
set_option maxRecDepth 100000
set_option maxHeartbeats 4000000
open PySem PySem.Spec PyProof.Rows L2 VL
open PySem.W (Frag)
namespace VL.P
theorem fin {w : World} {K : Frag} {mg : Str → Option Value} {fa : Addr} (hmg : mg "law" = some (.ref fa)) (tp : ∃ a : Ad, Tp PySem.Challenge.pw_stayhouse_k41_whole_rows_of_stays_that_f K mg a ∧ ∀ (s : Shared) (u : Value), BindsTo s a.d_law ⟨[u], []⟩ [("_law_script", u)]) :
    ∃ (fd : FuncData) (m : FF), (∀ (s : Shared) (u : Value), BindsTo s fd ⟨[u], []⟩ [("_law_script", u)]) ∧ (∀ base : Heap, K.In base → base.Ns mainGlobals mg → NoDig base → KFn PySem.Challenge.pw_stayhouse_k41_whole_rows_of_stays_that_f w K mg base 10 fa fd ["_law_script"] m) ∧ ∀ ns : List Int, ns.length ≤ 63 → ∃ L', m [.d (.scr ns)] [] = .ok (.d (.bl true)) L' := by
  obtain ⟨a, T, hb⟩ := tp
  have e := T.mg_law
  rw [e] at hmg
  cases hmg
  exact ⟨a.d_law, m_law, hb, fun base _ _ nd => k_law T ⟨nd⟩, fun ns hl => law_true ns hl⟩
end VL.P
open PySem PySem.W PyProof.Rows
set_option maxHeartbeats 0 in
theorem PySem.Challenge.cw_stayhouse_k41_whole_rows_of_stays_that_f_holds : PySem.Challenge.rw_stayhouse_k41_whole_rows_of_stays_that_f.Holds := by
  w_on; o_law; k_headL; (case hw => as_aux_lemma => w_witness2)
  k_fill
  as_aux_lemma =>
    refine VL.walk_vl (l := PySem.Challenge.rw_stayhouse_k41_whole_rows_of_stays_that_f) (n := 63) (k := 10) (x := "_law_script") rfl (by decide) rfl ⟨⟨rfl, by decide, by decide⟩, rfl⟩ (fun w h Y => PySem.W.kIn_of Y) ?F
    case F =>
     intro w mg fa h KX G hmg
     refine' VL.P.fin hmg (VL.P.mk_tp KX G ?l_ascending ?l_is_integer ?l_is_within ?l_is_row ?l_least_rows ?l_Book_init ?l_common_round ?l_need_book ?l_row_of_both ?l_Book_joined ?l_Book_or ?l_Book_row_on ?l_Stay_init ?l_Stay_nights ?l_need_stay ?l_Book_row_for ?l_Book_fills ?l_Book_none ?l_Stay_eq ?l_Stay_moved ?l_Stay_rshift ?l_l_book ?l_l_draw ?l_l_let ?l_l_fills ?l_l_one_right ?l_l_pen ?l_l_rows ?l_law ?l_BadBook_init ?l_BadNumber_init ?l_BadStay_init ?l_TooMany_init ?tt)
     (case l_ascending => k_is)
     (case l_is_integer => k_is)
     (case l_is_within => k_is)
     (case l_is_row => k_is)
     (case l_least_rows => k_is)
     (case l_Book_init => k_is)
     (case l_common_round => k_is)
     (case l_need_book => k_is)
     (case l_row_of_both => k_is)
     (case l_Book_joined => k_is)
     (case l_Book_or => k_is)
     (case l_Book_row_on => k_is)
     (case l_Stay_init => k_is)
     (case l_Stay_nights => k_is)
     (case l_need_stay => k_is)
     (case l_Book_row_for => k_is)
     (case l_Book_fills => k_is)
     (case l_Book_none => k_is)
     (case l_Stay_eq => k_is)
     (case l_Stay_moved => k_is)
     (case l_Stay_rshift => k_is)
     (case l_l_book => k_is)
     (case l_l_draw => k_is)
     (case l_l_let => k_is)
     (case l_l_fills => k_is)
     (case l_l_one_right => k_is)
     (case l_l_pen => k_is)
     (case l_l_rows => k_is)
     (case l_law => k_is)
     (case l_BadBook_init => k_is)
     (case l_BadNumber_init => k_is)
     (case l_BadStay_init => k_is)
     (case l_TooMany_init => k_is)
     (case tt => kernel_rfl)
